import PyProof.Rows.All
import Wide.All
import OpenK.AllK
import Wide.FinOn
import HandS.ForMost
import HandS.ForExc
import HandS.Zip
import HandS.Walk
import HandS.Evl
import HandS.IsInst
import HandS.Star
import HandS.ClsMeth
import HandS.DictComp
import HandS.Lambda
import HandS.EndTab
import HandS.TryMany
import HandS.ExcInit
import HandS.ExcField
import HandS.ExcSuper
import HandS.CallLocal
import HandS.Style
import HandS.Small
import HandS.SetKeys
import HandS.SortRule
import HandS.SortInts
import HandS.Defaults
import HandS.TupAny
import HandS.TupMul
import HandS.Wide
import HandS.DictSub
import HandS.Nested
import HandS.Conv
import HandS.Codes
import KE.KSortTupG
import KE.KSortedAny
import KE.KSortRegAny
import KE.KMathGC
import PyProof.Rows.ListStrD
import PyProof.StrBlock2
import KE.GoesNew
import HandS.Set
import HandS.SetTxt0
import HandS.SetFor
import PyProof.Rows.StrMul
import KE.KExcSuper
import HandS.ExcCtx
import HandS.ExcInitHot
import HandS.HotCalls
import KE.SortData
import KE.KDflt
import PySem.Challenge.RW_fourwalls_k57_whole_numbers_of_histories
set_option Elab.async false
set_option linter.all false
set_option maxRecDepth 100000
set_option maxHeartbeats 4000000
/-! # FB: data and what a reading evaluates to, at the level of data -/
namespace FW
open PySem L2
open Evl (Ex Ex.refl Ex.trans Ex.new Ex.mut EvT)
/-! ### texts by their codes -/
def S (l : List Nat) : Str := ⟨⟨l⟩⟩
theorem S_toList (l : List Nat) : (S l).cps.toList = l := rfl
theorem S_len (l : List Nat) : (S l).length = l.length := rfl
theorem S_app (a b : List Nat) : S a ++ S b = S (a ++ b) := by
  show (⟨(⟨a⟩ : Array Nat) ++ ⟨b⟩⟩ : Str) = ⟨⟨a ++ b⟩⟩
  simp
theorem S_eta (z : Str) : S z.cps.toList = z := rfl
theorem S_inj {a b : List Nat} (e : S a = S b) : a = b := congrArg (fun z : Str => z.cps.toList) e
theorem S_one (c : Nat) : (⟨#[c]⟩ : Str) = S [c] := rfl
/-! ### data -/
inductive Dt where
  | non | bl (b : Bool) | int (i : Int) | str (l : List Nat) | lst (xs : List Dt) | tup (xs : List Dt) | obj (a : Addr)
mutual
inductive Dq (H : Hp) : V → Dt → Prop
  | non : Dq H .non .non
  | bl (b : Bool) : Dq H (.bl b) (.bl b)
  | int (i : Int) : Dq H (.int i) (.int i)
  | str (l : List Nat) : Dq H (.str (S l)) (.str l)
  | lst {a : Addr} {xs : List V} {ds : List Dt} : H a = some (.lst xs) → DqA H xs ds → Dq H (.ref a) (.lst ds)
  | tup {a : Addr} {xs : List V} {ds : List Dt} : H a = some (.tup xs) → DqA H xs ds → Dq H (.ref a) (.tup ds)
  | obj (a : Addr) : Dq H (.ref a) (.obj a)
inductive DqA (H : Hp) : List V → List Dt → Prop
  | nil : DqA H [] []
  | cons {v : V} {vs : List V} {d : Dt} {ds : List Dt} : Dq H v d → DqA H vs ds → DqA H (v :: vs) (d :: ds)
end
mutual
theorem Dq.mono {H H' : Hp} (e : Ex H H') : ∀ {v : V} {d : Dt}, Dq H v d → Dq H' v d
  | _, _, .non => .non
  | _, _, .bl b => .bl b
  | _, _, .int i => .int i
  | _, _, .str l => .str l
  | _, _, .lst h k => .lst (e _ _ h) (DqA.mono e k)
  | _, _, .tup h k => .tup (e _ _ h) (DqA.mono e k)
  | _, _, .obj a => .obj a
theorem DqA.mono {H H' : Hp} (e : Ex H H') : ∀ {vs : List V} {ds : List Dt}, DqA H vs ds → DqA H' vs ds
  | _, _, .nil => .nil
  | _, _, .cons h k => .cons (Dq.mono e h) (DqA.mono e k)
end
theorem DqA.len {H : Hp} : ∀ {vs : List V} {ds : List Dt}, DqA H vs ds → vs.length = ds.length
  | _, _, .nil => rfl
  | _, _, .cons _ k => by rw [List.length_cons, List.length_cons, DqA.len k]
theorem DqA.get {H : Hp} : ∀ {vs : List V} {ds : List Dt}, DqA H vs ds → ∀ {i : Nat} {v : V}, vs[i]? = some v → ∃ d, ds[i]? = some d ∧ Dq H v d
  | _, _, .nil, i, v, h => by simp at h
  | _, _, .cons h k, 0, v, e => by
    simp at e
    subst e
    exact ⟨_, rfl, h⟩
  | _, _, .cons h k, i + 1, v, e => by
    simp at e
    obtain ⟨d, e1, e2⟩ := DqA.get k e
    exact ⟨d, by simpa using e1, e2⟩
theorem DqA.getD {H : Hp} : ∀ {vs : List V} {ds : List Dt}, DqA H vs ds → ∀ {i : Nat} {d : Dt}, ds[i]? = some d → ∃ v, vs[i]? = some v ∧ Dq H v d
  | _, _, .nil, i, v, h => by simp at h
  | _, _, .cons h k, 0, v, e => by
    simp at e
    subst e
    exact ⟨_, rfl, h⟩
  | _, _, .cons h k, i + 1, v, e => by
    simp at e
    obtain ⟨d, e1, e2⟩ := DqA.getD k e
    exact ⟨d, by simpa using e1, e2⟩
theorem DqA.app {H : Hp} : ∀ {vs : List V} {ds : List Dt} {ws : List V} {es : List Dt}, DqA H vs ds → DqA H ws es → DqA H (vs ++ ws) (ds ++ es)
  | _, _, _, _, .nil, k => k
  | _, _, _, _, .cons h t, k => .cons h (DqA.app t k)
theorem DqA.one {H : Hp} {v : V} {d : Dt} (h : Dq H v d) : DqA H [v] [d] := .cons h .nil
theorem DqA.take {H : Hp} : ∀ {vs : List V} {ds : List Dt} (n : Nat), DqA H vs ds → DqA H (vs.take n) (ds.take n)
  | _, _, 0, _ => .nil
  | _, _, n + 1, .nil => .nil
  | _, _, n + 1, .cons h k => .cons h (DqA.take n k)
theorem DqA.drop {H : Hp} : ∀ {vs : List V} {ds : List Dt} (n : Nat), DqA H vs ds → DqA H (vs.drop n) (ds.drop n)
  | _, _, 0, h => h
  | _, _, n + 1, .nil => .nil
  | _, _, n + 1, .cons h k => DqA.drop n k
/-! ### what evaluates to what -/
def EvC (te : TE) (σ : St) (H : Hp) (C : Dt → Prop) : Prop := ∀ H1, Ex H H1 → ∀ Q : VK, (∀ v d H2, Ex H1 H2 → C d → Dq H2 v d → Q v H2) → te σ H1 Q
abbrev EvD (te : TE) (σ : St) (H : Hp) (d : Dt) : Prop := EvC te σ H (fun e => e = d)
def EvTC (tt : TT) (σ : St) (H : Hp) (T : Bool → Prop) : Prop := ∀ H1, Ex H H1 → ∀ Q : Bool → Hp → Prop, (∀ b H2, Ex H1 H2 → T b → Q b H2) → tt σ H1 Q
abbrev EvB (tt : TT) (σ : St) (H : Hp) (b : Bool) : Prop := EvTC tt σ H (fun c => c = b)
inductive All2 : List (Dt → Prop) → List Dt → Prop
  | nil : All2 [] []
  | cons {C : Dt → Prop} {Cs : List (Dt → Prop)} {d : Dt} {ds : List Dt} : C d → All2 Cs ds → All2 (C :: Cs) (d :: ds)
def EvA (ta : TA) (σ : St) (H : Hp) (Cs : List (Dt → Prop)) : Prop := ∀ H1, Ex H H1 → ∀ Q : List V → Hp → Prop, (∀ vs ds H2, Ex H1 H2 → All2 Cs ds → DqA H2 vs ds → Q vs H2) → ta σ H1 Q
section
variable {K : PySem.W.Frag} {σ : St} {H H' : Hp} {ta tb te tx tl : TE} {t u : TT} {C A B D : Dt → Prop}
theorem EvC.mono (e : Ex H H') (h : EvC te σ H C) : EvC te σ H' C := fun H1 a Q q => h H1 (e.trans a) Q q
theorem EvC.imp (h : EvC te σ H C) (k : ∀ d, C d → D d) : EvC te σ H D := fun H1 a Q q => h H1 a Q fun v d H2 e c => q v d H2 e (k d c)
theorem EvD.to {d e : Dt} (h : EvD te σ H d) (k : d = e) : EvD te σ H e := by
  rw [← k]
  exact h
theorem EvD.in {d : Dt} (h : EvD te σ H d) (k : C d) : EvC te σ H C := h.imp fun _ e => by
  rw [e]
  exact k
theorem EvTC.mono {T : Bool → Prop} (e : Ex H H') (h : EvTC t σ H T) : EvTC t σ H' T := fun H1 a Q q => h H1 (e.trans a) Q q
theorem EvTC.imp {T T' : Bool → Prop} (h : EvTC t σ H T) (k : ∀ b, T b → T' b) : EvTC t σ H T' := fun H1 a Q q => h H1 a Q fun b H2 e c => q b H2 e (k b c)
theorem EvB.to {b c : Bool} (h : EvB t σ H b) (k : b = c) : EvB t σ H c := by
  rw [← k]
  exact h
theorem EvA.mono {ta : TA} {Cs : List (Dt → Prop)} (e : Ex H H') (h : EvA ta σ H Cs) : EvA ta σ H' Cs := fun H1 a Q q => h H1 (e.trans a) Q q
theorem ed_var {i : Nat} {v : V} {d : Dt} (h : σ[i]? = some (some v)) (k : Dq H v d) : EvD (tVar i) σ H d := fun H1 e Q q => ⟨v, h, q v d H1 (Ex.refl H1) rfl (k.mono e)⟩
theorem ec_var {i : Nat} {v : V} (h : σ[i]? = some (some v)) (k : ∃ d, C d ∧ Dq H v d) : EvC (tVar i) σ H C := fun H1 e Q q => by
  obtain ⟨d, c, k⟩ := k
  exact ⟨v, h, q v d H1 (Ex.refl H1) c (k.mono e)⟩
theorem ed_int {i : Int} : EvD (tC (.int i)) σ H (.int i) := fun H1 _ _ q => q _ _ H1 (Ex.refl H1) rfl (.int i)
theorem ed_bl {b : Bool} : EvD (tC (.bl b)) σ H (.bl b) := fun H1 _ _ q => q _ _ H1 (Ex.refl H1) rfl (.bl b)
theorem ed_non : EvD (tC .non) σ H .non := fun H1 _ _ q => q _ _ H1 (Ex.refl H1) rfl .non
theorem ed_str {z : Str} : EvD (tC (.str z)) σ H (.str z.cps.toList) := fun H1 _ _ q => q _ _ H1 (Ex.refl H1) rfl (.str _)
theorem ed_ref {a : Addr} : EvD (tC (.ref a)) σ H (.obj a) := fun H1 _ _ q => q _ _ H1 (Ex.refl H1) rfl (.obj a)
/-! two operands -/
theorem ec_op {r : R2} (ha : EvC ta σ H A) (hb : EvC tb σ H B)
    (hr : ∀ x y a b H1, Ex H H1 → A a → B b → Dq H1 x a → Dq H1 y b → ∀ Q : VK, (∀ v d H2, Ex H1 H2 → C d → Dq H2 v d → Q v H2) → r x y H1 Q) : EvC (tOp r ta tb) σ H C := fun H1 e Q q =>
  ha H1 e _ fun x a H2 e2 ca hx => hb H2 (e.trans e2) _ fun y b H3 e3 cb hy => hr x y a b H3 ((e.trans e2).trans e3) ca cb (hx.mono e3) hy Q fun v d H4 e4 => q v d H4 ((e2.trans e3).trans e4)
theorem ec_un {r : V → Hp → VK → Prop} (ha : EvC ta σ H A) (hr : ∀ x a H1, Ex H H1 → A a → Dq H1 x a → ∀ Q : VK, (∀ v d H2, Ex H1 H2 → C d → Dq H2 v d → Q v H2) → r x H1 Q) : EvC (tUn r ta) σ H C := fun H1 e Q q =>
  ha H1 e _ fun x a H2 e2 ca hx => hr x a H2 (e.trans e2) ca hx Q fun v d H3 e3 => q v d H3 (e2.trans e3)
theorem dq_int {v : V} {i : Int} {H : Hp} (h : Dq H v (.int i)) : v = .int i := by
  cases h
  rfl
theorem dq_bl {v : V} {i : Bool} {H : Hp} (h : Dq H v (.bl i)) : v = .bl i := by
  cases h
  rfl
theorem dq_str {v : V} {l : List Nat} {H : Hp} (h : Dq H v (.str l)) : v = .str (S l) := by
  cases h
  rfl
theorem dq_non {v : V} {H : Hp} (h : Dq H v .non) : v = .non := by
  cases h
  rfl
theorem dq_lst {v : V} {l : List Dt} {H : Hp} (h : Dq H v (.lst l)) : ∃ a xs, v = .ref a ∧ H a = some (.lst xs) ∧ DqA H xs l := by
  cases h with
  | lst h k => exact ⟨_, _, rfl, h, k⟩
theorem dq_tup {v : V} {l : List Dt} {H : Hp} (h : Dq H v (.tup l)) : ∃ a xs, v = .ref a ∧ H a = some (.tup xs) ∧ DqA H xs l := by
  cases h with
  | tup h k => exact ⟨_, _, rfl, h, k⟩
theorem dq_obj {v : V} {a : Addr} {H : Hp} (h : Dq H v (.obj a)) : v = .ref a := by
  cases h
  rfl
theorem sqL_of {H : Hp} {a : Addr} {xs : List V} (h : H a = some (.lst xs)) : SqL K H a xs := .inl (.inl h)
theorem sqT_of {H : Hp} {a : Addr} {xs : List V} (h : H a = some (.tup xs)) : SqT K H a xs := .inl (.inl h)
theorem szl {n : Nat} (h : n ≤ 100000) : n ≤ sizeLine := Nat.le_trans h (by decide)
theorem szlt {n : Nat} (h : n < 100000) : n < sizeLine := Nat.lt_of_lt_of_le h (by decide)
/-- ints: any operator with a rule rI0, rI -/
theorem ec_i0 {g : Int → Int → V} {G : Int → Int → Dt} (ha : EvC ta σ H A) (hb : EvC tb σ H B) (hg : ∀ i j H1, Dq H1 (g i j) (G i j)) (h : ∀ a b, A a → B b → ∃ i j, a = .int i ∧ b = .int j ∧ C (G i j)) : EvC (tOp (rI0 g) ta tb) σ H C :=
  ec_op ha hb fun x y a b H1 _ ca cb hx hy Q q => by
    obtain ⟨i, j, rfl, rfl, c⟩ := h a b ca cb
    cases hx
    cases hy
    exact ⟨i, j, rfl, rfl, q _ _ H1 (Ex.refl H1) c (hg i j H1)⟩
theorem ec_iC {CC : Int → Int → Prop} {g : Int → Int → V} {G : Int → Int → Dt} (ha : EvC ta σ H A) (hb : EvC tb σ H B) (hg : ∀ i j H1, Dq H1 (g i j) (G i j)) (h : ∀ a b, A a → B b → ∃ i j, a = .int i ∧ b = .int j ∧ CC i j ∧ C (G i j)) : EvC (tOp (rI CC g) ta tb) σ H C :=
  ec_op ha hb fun x y a b H1 _ ca cb hx hy Q q => by
    obtain ⟨i, j, rfl, rfl, cc, c⟩ := h a b ca cb
    cases hx
    cases hy
    exact ⟨i, j, rfl, rfl, cc, q _ _ H1 (Ex.refl H1) c (hg i j H1)⟩
theorem ed_i0 {g : Int → Int → Int} {i j : Int} (ha : EvD ta σ H (.int i)) (hb : EvD tb σ H (.int j)) : EvD (tOp (rI0 fun i j => .int (g i j)) ta tb) σ H (.int (g i j)) :=
  ec_i0 (G := fun i j => .int (g i j)) ha hb (fun _ _ _ => .int _) fun a b ca cb => ⟨i, j, ca, cb, rfl⟩
theorem ed_b0 {g : Int → Int → Bool} {i j : Int} (ha : EvD ta σ H (.int i)) (hb : EvD tb σ H (.int j)) : EvD (tOp (rI0 fun i j => .bl (g i j)) ta tb) σ H (.bl (g i j)) :=
  ec_i0 (G := fun i j => .bl (g i j)) ha hb (fun _ _ _ => .bl _) fun a b ca cb => ⟨i, j, ca, cb, rfl⟩
theorem ed_iC {CC : Int → Int → Prop} {g : Int → Int → Int} {i j : Int} (ha : EvD ta σ H (.int i)) (hb : EvD tb σ H (.int j)) (hc : CC i j) : EvD (tOp (rI CC fun i j => .int (g i j)) ta tb) σ H (.int (g i j)) :=
  ec_iC (G := fun i j => .int (g i j)) ha hb (fun _ _ _ => .int _) fun a b ca cb => ⟨i, j, ca, cb, hc, rfl⟩
end
end FW
set_option maxRecDepth 100000
set_option maxHeartbeats 4000000
/-! # FB2: operators, subscripts, displays, tests, calls at the level of data -/
namespace FW
open PySem L2
open Evl (Ex Ex.refl Ex.trans Ex.new Ex.mut EvT)
/-! ### uniform operators -/
def rAddU : R2 := fun x y H Q => (∃ i j, x = .int i ∧ y = .int j ∧ Q (.int (i + j)) H) ∨ ((∃ i j, x = .str i ∧ y = .str j ∧ i.length + j.length ≤ sizeLine ∧ Q (.str (i ++ j)) H) ∨ rCat x y H Q)
theorem op_addU {X : Cx} : OpR X (binaryOp .Add) rAddU := OpR.or op_add (OpR.or op_add_str op_cat)
def rSlU (K : PySem.W.Frag) : V → Option Int → Option Int → Hp → VK → Prop := fun x lo hi H Q => rSlL K x lo hi H Q ∨ (L2.rSlA K x lo hi H Q ∨ rSlS x lo hi H Q)
theorem sl_U {X : Cx} : SlR X (rSlU X.K) := SlR.or sl_list (SlR.or L2.sl_tupA sl_str)
def rIxU (K : PySem.W.Frag) : R2 := rIx K
theorem ix_U {X : Cx} : IxR X (rIxU X.K) := ix_seq
def rLenU (K : PySem.W.Frag) : List V → Hp → VK → Prop := fun xs H Q => ∃ x n, xs = [x] ∧ LenV K x H n ∧ Q (.int n) H
theorem call_lenU {X : Cx} : CallR X (.builtin "len") (rLenU X.K) := call_len
def rInSg : R2 := fun x y H Q => ∃ (c : Nat) (z : Str), x = .str ⟨#[c]⟩ ∧ y = .str z ∧ Q (.bl (decide (c ∈ z.cps.toList))) H
def rNiSg : R2 := fun x y H Q => ∃ (c : Nat) (z : Str), x = .str ⟨#[c]⟩ ∧ y = .str z ∧ Q (.bl (!decide (c ∈ z.cps.toList))) H
theorem op_inSg {X : Cx} : OpR X (compareOp .In) rInSg := op_in_sign
theorem op_niSg {X : Cx} : OpR X (compareOp .NotIn) rNiSg := op_notIn_sign
/-! ### plain functions on data -/
def okL : Dt → Prop
  | .str l => l.length ≤ 100000
  | .lst l => l.length ≤ 100000
  | .tup l => l.length ≤ 100000
  | _ => True
def ixD : Dt → Int → Option Dt
  | .lst xs, i => atI xs i
  | .tup xs, i => atI xs i
  | .str l, i => (atI l i).map fun c => .str [c]
  | _, _ => none
def lenD : Dt → Option Nat
  | .lst xs => some xs.length
  | .tup xs => some xs.length
  | .str l => some l.length
  | _ => none
def cutL {α : Type} (xs : List α) (lo hi : Option Int) : List α := (xs.drop (HT.sIx xs.length 0 lo)).take (HT.sIx xs.length xs.length hi - HT.sIx xs.length 0 lo)
def slD : Dt → Option Int → Option Int → Option Dt
  | .lst xs, lo, hi => some (.lst (cutL xs lo hi))
  | .tup xs, lo, hi => some (.tup (cutL xs lo hi))
  | .str l, lo, hi => some (.str (cutL l lo hi))
  | _, _, _ => none
def addD : Dt → Dt → Option Dt
  | .int i, .int j => some (.int (i + j))
  | .str a, .str b => some (.str (a ++ b))
  | .lst a, .lst b => some (.lst (a ++ b))
  | _, _ => none
theorem DqA.atI {H : Hp} {vs : List V} {ds : List Dt} (h : DqA H vs ds) {i : Int} {d : Dt} (e : L2.atI ds i = some d) : ∃ v, L2.atI vs i = some v ∧ Dq H v d := by
  unfold L2.atI at e ⊢
  rw [h.len]
  cases q : ixN ds.length i with
  | none =>
    rw [q] at e
    cases e
  | some j =>
    rw [q] at e
    exact h.getD (by simpa using e)
section
variable {K : PySem.W.Frag} {σ : St} {H H' : Hp} {ta tb tc te tx tl : TE} {t u : TT} {C A B D : Dt → Prop}
theorem r_add {x y : V} {a b c : Dt} {H1 : Hp} (hx : Dq H1 x a) (hy : Dq H1 y b) (h : addD a b = some c) (ok : okL c) {Q : VK} (q : ∀ v H2, Ex H1 H2 → Dq H2 v c → Q v H2) : rAddU x y H1 Q := by
  cases a <;> cases b <;> simp only [addD, Option.some.injEq, reduceCtorEq] at h
  · subst h
    cases hx
    cases hy
    exact .inl ⟨_, _, rfl, rfl, q _ H1 (Ex.refl H1) (.int _)⟩
  · subst h
    cases hx
    cases hy
    refine .inr (.inl ⟨_, _, rfl, rfl, szl ?_, ?_⟩)
    · rw [S_len, S_len, ← List.length_append]
      exact ok
    · rw [S_app]
      exact q _ H1 (Ex.refl H1) (.str _)
  · subst h
    obtain ⟨p, xs, rfl, h1, k1⟩ := dq_lst hx
    obtain ⟨r, ys, rfl, h2, k2⟩ := dq_lst hy
    refine .inr (.inr ⟨p, r, xs, ys, rfl, rfl, h1, h2, szl ?_, fun l hl => ?_⟩)
    · rw [k1.len, k2.len, ← List.length_append]
      exact ok
    · exact q _ _ (Ex.new hl) (.lst upd_same ((k1.app k2).mono (Ex.new hl)))
theorem ed_add {a b c : Dt} (ha : EvD ta σ H a) (hb : EvD tb σ H b) (h : addD a b = some c) (ok : okL c) : EvD (tOp rAddU ta tb) σ H c :=
  ec_op ha hb fun x y a' b' H1 _ ca cb hx hy Q q => by
    subst ca cb
    exact r_add hx hy h ok fun v H2 e2 k => q v c H2 e2 rfl k
theorem ec_add (ha : EvC ta σ H A) (hb : EvC tb σ H B) (h : ∀ a b, A a → B b → ∃ c, addD a b = some c ∧ okL c ∧ C c) : EvC (tOp rAddU ta tb) σ H C :=
  ec_op ha hb fun x y a b H1 _ ca cb hx hy Q q => by
    obtain ⟨c, h1, h2, h3⟩ := h a b ca cb
    exact r_add hx hy h1 h2 fun v H2 e2 k => q v c H2 e2 h3 k
theorem r_ix {x y : V} {a c : Dt} {i : Int} {H1 : Hp} (hx : Dq H1 x a) (hy : Dq H1 y (.int i)) (h : ixD a i = some c) (ok : okL a) {Q : VK} (q : ∀ v, Dq H1 v c → Q v H1) : rIxU K x y H1 Q := by
  cases hy
  cases a <;> simp only [ixD, reduceCtorEq] at h
  · rename_i l
    cases hx
    cases e : L2.atI l i with
    | none =>
      rw [e] at h
      cases h
    | some z =>
      rw [e] at h
      cases h
      exact .inr (.inr ⟨_, i, z, rfl, rfl, szl ok, e, q _ (.str _)⟩)
  · obtain ⟨p, xs, rfl, h1, k1⟩ := dq_lst hx
    obtain ⟨v, e1, e2⟩ := k1.atI h
    exact .inl ⟨p, xs, i, v, rfl, rfl, sqL_of h1, e1, q v e2⟩
  · obtain ⟨p, xs, rfl, h1, k1⟩ := dq_tup hx
    obtain ⟨v, e1, e2⟩ := k1.atI h
    exact .inr (.inl ⟨p, xs, i, v, rfl, rfl, sqT_of h1, e1, q v e2⟩)
theorem ed_ix {a c : Dt} {i : Int} (ha : EvD ta σ H a) (hb : EvD tb σ H (.int i)) (h : ixD a i = some c) (ok : okL a) : EvD (tOp (rIxU K) ta tb) σ H c :=
  ec_op ha hb fun x y a' b' H1 _ ca cb hx hy Q q => by
    subst ca cb
    exact r_ix hx hy h ok fun v k => q v c H1 (Ex.refl H1) rfl k
theorem ec_ix (ha : EvC ta σ H A) (hb : EvC tb σ H B) (h : ∀ a b, A a → B b → ∃ i c, b = .int i ∧ ixD a i = some c ∧ okL a ∧ C c) : EvC (tOp (rIxU K) ta tb) σ H C :=
  ec_op ha hb fun x y a b H1 _ ca cb hx hy Q q => by
    obtain ⟨i, c, rfl, h1, h2, h3⟩ := h a b ca cb
    exact r_ix hx hy h1 h2 fun v k => q v c H1 (Ex.refl H1) h3 k
/-! slices -/
def EvO (to : TO) (σ : St) (H : Hp) (o : Option Int) : Prop := ∀ H1, Ex H H1 → ∀ Q : Option Int → Hp → Prop, (∀ H2, Ex H1 H2 → Q o H2) → to σ H1 Q
theorem eo_none : EvO tNoPart σ H none := fun H1 _ _ q => q H1 (Ex.refl H1)
theorem eo_some {i : Int} (h : EvD te σ H (.int i)) : EvO (tPart te) σ H (some i) := fun H1 e Q q => h H1 e _ fun v d H2 e2 c k => by
  subst c
  cases k
  exact ⟨i, rfl, q H2 e2⟩
theorem cutS_S (l : List Nat) (lo hi : Option Int) : cutS (S l) lo hi = S (cutL l lo hi) := rfl
theorem cutV_L (xs : List V) (lo hi : Option Int) : cutV xs lo hi = cutL xs lo hi := rfl
theorem DqA.cut {H : Hp} {vs : List V} {ds : List Dt} (h : DqA H vs ds) (lo hi : Option Int) : DqA H (cutL vs lo hi) (cutL ds lo hi) := by
  unfold cutL
  rw [h.len]
  exact (h.drop _).take _
theorem cutL_all {α : Type} {xs : List α} {lo hi : Option Int} (h : HT.sIx xs.length 0 lo = 0 ∧ HT.sIx xs.length xs.length hi = xs.length) : cutL xs lo hi = xs := by
  unfold cutL
  rw [h.1, h.2, List.drop_zero, Nat.sub_zero, List.take_length]
theorem ed_sl {a c : Dt} {lo hi : Option Int} {tl th : TO} (ha : EvD ta σ H a) (hl : EvO tl σ H lo) (hh : EvO th σ H hi) (h : slD a lo hi = some c) (ok : okL a) : EvD (tSl (rSlU K) ta tl th) σ H c := fun H1 e Q q =>
  ha H1 e _ fun x a' H2 e2 ca hx => hl H2 (e.trans e2) _ fun H3 e3 => hh H3 ((e.trans e2).trans e3) _ fun H4 e4 => by
    subst ca
    have hx := hx.mono (e3.trans e4)
    have q : ∀ v H5, Ex H4 H5 → Dq H5 v c → Q v H5 := fun v H5 e5 k => q v c H5 (((e2.trans e3).trans e4).trans e5) rfl k
    cases a' <;> simp only [slD, Option.some.injEq, reduceCtorEq] at h
    · subst h
      cases hx
      exact .inr (.inr ⟨_, rfl, szl ok, by rw [cutS_S]; exact q _ H4 (Ex.refl H4) (.str _)⟩)
    · subst h
      obtain ⟨p, xs, rfl, h1, k1⟩ := dq_lst hx
      exact .inl ⟨p, xs, rfl, sqL_of h1, fun l hl => q _ _ (Ex.new hl) (.lst upd_same ((k1.cut lo hi).mono (Ex.new hl)))⟩
    · subst h
      obtain ⟨p, xs, rfl, h1, k1⟩ := dq_tup hx
      refine .inr (.inl ⟨p, xs, rfl, sqT_of h1, fun hw => ?_, fun _ l hl => q _ _ (Ex.new hl) (.tup upd_same ((k1.cut lo hi).mono (Ex.new hl)))⟩)
      have hw2 := hw
      rw [k1.len] at hw2
      rw [cutL_all hw2] at q
      exact q _ H4 (Ex.refl H4) (.tup h1 k1)
/-! arguments, displays -/
theorem ea_nil : EvA tNil σ H [] := fun H1 _ _ q => q _ _ H1 (Ex.refl H1) .nil .nil
theorem ea_cons {tr : TA} {Cs : List (Dt → Prop)} (h : EvC ta σ H C) (hr : EvA tr σ H Cs) : EvA (tCons ta tr) σ H (C :: Cs) := fun H1 e _ q =>
  h H1 e _ fun v d H2 e2 c k => hr H2 (e.trans e2) _ fun vs ds H3 e3 cs ks => q (v :: vs) (d :: ds) H3 (e2.trans e3) (.cons c cs) (.cons (k.mono e3) ks)
theorem all2_len : ∀ {Cs : List (Dt → Prop)} {ds : List Dt}, All2 Cs ds → Cs.length = ds.length
  | _, _, .nil => rfl
  | _, _, .cons _ k => by rw [List.length_cons, List.length_cons, all2_len k]
theorem ec_lst {ta : TA} {Cs : List (Dt → Prop)} (h : EvA ta σ H Cs) (hl : Cs.length ≤ 100000 := by decide) : EvC (tLst ta) σ H (fun d => ∃ ds, d = .lst ds ∧ All2 Cs ds) := fun H1 e _ q =>
  h H1 e _ fun vs ds H2 e2 cs k => ⟨szl (by rw [k.len, ← all2_len cs]; exact hl), fun p hp => q _ _ _ (e2.trans (Ex.new hp)) ⟨ds, rfl, cs⟩ (.lst upd_same (k.mono (Ex.new hp)))⟩
theorem ec_tup {ta : TA} {Cs : List (Dt → Prop)} (h : EvA ta σ H Cs) (hl : Cs.length ≤ 100000 := by decide) : EvC (tTup ta) σ H (fun d => ∃ ds, d = .tup ds ∧ All2 Cs ds) := fun H1 e _ q =>
  h H1 e _ fun vs ds H2 e2 cs k => ⟨szl (by rw [k.len, ← all2_len cs]; exact hl), fun p hp => q _ _ _ (e2.trans (Ex.new hp)) ⟨ds, rfl, cs⟩ (.tup upd_same (k.mono (Ex.new hp)))⟩
/-- all values known -/
def EvAD (ta : TA) (σ : St) (H : Hp) (ds : List Dt) : Prop := ∀ H1, Ex H H1 → ∀ Q : List V → Hp → Prop, (∀ vs H2, Ex H1 H2 → DqA H2 vs ds → Q vs H2) → ta σ H1 Q
theorem ad_nil : EvAD tNil σ H [] := fun H1 _ _ q => q _ H1 (Ex.refl H1) .nil
theorem ad_cons {tr : TA} {d : Dt} {ds : List Dt} (h : EvD ta σ H d) (hr : EvAD tr σ H ds) : EvAD (tCons ta tr) σ H (d :: ds) := fun H1 e _ q =>
  h H1 e _ fun v d' H2 e2 c k => hr H2 (e.trans e2) _ fun vs H3 e3 ks => by
    subst c
    exact q (v :: vs) H3 (e2.trans e3) (.cons (k.mono e3) ks)
theorem ed_lst {ta : TA} {ds : List Dt} (h : EvAD ta σ H ds) (hl : ds.length ≤ 100000 := by decide) : EvD (tLst ta) σ H (.lst ds) := fun H1 e _ q =>
  h H1 e _ fun vs H2 e2 k => ⟨szl (by rw [k.len]; exact hl), fun p hp => q _ _ _ (e2.trans (Ex.new hp)) rfl (.lst upd_same (k.mono (Ex.new hp)))⟩
theorem ed_tup {ta : TA} {ds : List Dt} (h : EvAD ta σ H ds) (hl : ds.length ≤ 100000 := by decide) : EvD (tTup ta) σ H (.tup ds) := fun H1 e _ q =>
  h H1 e _ fun vs H2 e2 k => ⟨szl (by rw [k.len]; exact hl), fun p hp => q _ _ _ (e2.trans (Ex.new hp)) rfl (.tup upd_same (k.mono (Ex.new hp)))⟩
theorem all2_eq : ∀ ds : List Dt, All2 (ds.map fun d e => e = d) ds
  | [] => .nil
  | _ :: ds => .cons rfl (all2_eq ds)
theorem ea_of {ta : TA} {ds : List Dt} (h : EvAD ta σ H ds) : EvA ta σ H (ds.map fun d e => e = d) := fun H1 e Q q => h H1 e Q fun vs H2 e2 k => q vs ds H2 e2 (all2_eq ds) k
/-- *e in an argument list or display -/
theorem ad_star {tr : TA} {xs ds : List Dt} (h : EvD te σ H (.lst xs) ∨ EvD te σ H (.tup xs)) (hr : EvAD tr σ H ds) : EvAD (StX.tStar K te tr) σ H (xs ++ ds) := fun H1 e _ q => by
  rcases h with h | h
  · refine h H1 e _ fun v d' H2 e2 c k => ?_
    subst c
    obtain ⟨p, ys, rfl, h1, k1⟩ := dq_lst k
    exact ⟨p, ys, rfl, .inr (sqL_of h1), hr H2 (e.trans e2) _ fun vs H3 e3 ks => q (ys ++ vs) H3 (e2.trans e3) ((k1.mono e3).app ks)⟩
  · refine h H1 e _ fun v d' H2 e2 c k => ?_
    subst c
    obtain ⟨p, ys, rfl, h1, k1⟩ := dq_tup k
    exact ⟨p, ys, rfl, .inl (sqT_of h1), hr H2 (e.trans e2) _ fun vs H3 e3 ks => q (ys ++ vs) H3 (e2.trans e3) ((k1.mono e3).app ks)⟩
/-! built-ins on values -/
theorem ec_cb {r : List V → Hp → VK → Prop} {ta : TA} {Cs : List (Dt → Prop)} (h : EvA ta σ H Cs) (hr : ∀ vs ds H1, Ex H H1 → All2 Cs ds → DqA H1 vs ds → ∀ Q : VK, (∀ v d H2, Ex H1 H2 → C d → Dq H2 v d → Q v H2) → r vs H1 Q) : EvC (tCB r ta) σ H C := fun H1 e Q q =>
  h H1 e _ fun vs ds H2 e2 cs k => hr vs ds H2 (e.trans e2) cs k Q fun v d H3 e3 => q v d H3 (e2.trans e3)
theorem ec_cbD {r : List V → Hp → VK → Prop} {ta : TA} {ds : List Dt} (h : EvAD ta σ H ds) (hr : ∀ vs H1, Ex H H1 → DqA H1 vs ds → ∀ Q : VK, (∀ v d H2, Ex H1 H2 → C d → Dq H2 v d → Q v H2) → r vs H1 Q) : EvC (tCB r ta) σ H C := fun H1 e Q q =>
  h H1 e _ fun vs H2 e2 k => hr vs H2 (e.trans e2) k Q fun v d H3 e3 => q v d H3 (e2.trans e3)
theorem dqa1 {H : Hp} {vs : List V} {a : Dt} (h : DqA H vs [a]) : ∃ x, vs = [x] ∧ Dq H x a := by
  cases h with
  | cons h k =>
    cases k
    exact ⟨_, rfl, h⟩
theorem dqa2 {H : Hp} {vs : List V} {a b : Dt} (h : DqA H vs [a, b]) : ∃ x y, vs = [x, y] ∧ Dq H x a ∧ Dq H y b := by
  cases h with
  | cons h k =>
    obtain ⟨y, rfl, hy⟩ := dqa1 k
    exact ⟨_, y, rfl, h, hy⟩
theorem dqa3 {H : Hp} {vs : List V} {a b c : Dt} (h : DqA H vs [a, b, c]) : ∃ x y z, vs = [x, y, z] ∧ Dq H x a ∧ Dq H y b ∧ Dq H z c := by
  cases h with
  | cons h k =>
    obtain ⟨y, z, rfl, hy, hz⟩ := dqa2 k
    exact ⟨_, y, z, rfl, h, hy, hz⟩
theorem dqa4 {H : Hp} {vs : List V} {a b c d : Dt} (h : DqA H vs [a, b, c, d]) : ∃ x y z w, vs = [x, y, z, w] ∧ Dq H x a ∧ Dq H y b ∧ Dq H z c ∧ Dq H w d := by
  cases h with
  | cons h k =>
    obtain ⟨y, z, w, rfl, hy, hz, hw⟩ := dqa3 k
    exact ⟨_, y, z, w, rfl, h, hy, hz, hw⟩
theorem ed_len {a : Dt} {n : Nat} (ha : EvD ta σ H a) (h : lenD a = some n) (ok : okL a) : EvD (tCB (rLenU K) (tCons ta tNil)) σ H (.int (n : Int)) := ec_cbD (ad_cons ha ad_nil) fun vs H1 _ k Q q => by
  obtain ⟨x, rfl, hx⟩ := dqa1 k
  have q := q (.int (n : Int)) (.int (n : Int)) H1 (Ex.refl H1) rfl (.int _)
  cases a <;> simp only [lenD, Option.some.injEq, reduceCtorEq] at h
  · subst h
    cases hx
    exact ⟨_, _, rfl, ⟨szl ok, rfl⟩, q⟩
  · subst h
    obtain ⟨p, xs, rfl, h1, k1⟩ := dq_lst hx
    exact ⟨_, _, rfl, .inl ⟨xs, sqL_of h1, k1.len.symm⟩, q⟩
  · subst h
    obtain ⟨p, xs, rfl, h1, k1⟩ := dq_tup hx
    exact ⟨_, _, rfl, .inr ⟨xs, sqT_of h1, k1.len.symm⟩, q⟩
/-! tests -/
theorem et_B {b : Bool} (h : EvD te σ H (.bl b)) : EvB (tB te) σ H b := fun H1 e Q q => h H1 e _ fun v d H2 e2 c k => by
  subst c
  cases k
  exact ⟨b, rfl, q b H2 e2 rfl⟩
theorem et_T {b : Bool} (h : EvD te σ H (.bl b)) : EvB (tTest te) σ H b := fun H1 e Q q => h H1 e _ fun v d H2 e2 c k => by
  subst c
  cases k
  exact ⟨b, rfl, q b H2 e2 rfl⟩
theorem etc_T {T : Bool → Prop} (h : EvC te σ H (fun d => ∃ b, d = .bl b ∧ T b)) : EvTC (tTest te) σ H T := fun H1 e Q q => h H1 e _ fun v d H2 e2 c k => by
  obtain ⟨b, rfl, c⟩ := c
  cases k
  exact ⟨b, rfl, q b H2 e2 c⟩
theorem etc_B {T : Bool → Prop} (h : EvC te σ H (fun d => ∃ b, d = .bl b ∧ T b)) : EvTC (tB te) σ H T := fun H1 e Q q => h H1 e _ fun v d H2 e2 c k => by
  obtain ⟨b, rfl, c⟩ := c
  cases k
  exact ⟨b, rfl, q b H2 e2 c⟩
theorem et_and {a b : Bool} (h1 : EvB t σ H a) (h2 : a = true → EvB u σ H b) : EvB (tAnd t u) σ H (a && b) := fun H1 e Q q => h1 H1 e _ fun c H2 e2 hc => by
  subst hc
  cases c with
  | true =>
    show u σ H2 Q
    exact h2 rfl H2 (e.trans e2) Q fun d H3 e3 hd => q d H3 (e2.trans e3) (by rw [hd]; rfl)
  | false =>
    show Q false H2
    exact q _ H2 e2 rfl
theorem et_or {a b : Bool} (h1 : EvB t σ H a) (h2 : a = false → EvB u σ H b) : EvB (tOr t u) σ H (a || b) := fun H1 e Q q => h1 H1 e _ fun c H2 e2 hc => by
  subst hc
  cases c with
  | true =>
    show Q true H2
    exact q _ H2 e2 rfl
  | false =>
    show u σ H2 Q
    exact h2 rfl H2 (e.trans e2) Q fun d H3 e3 hd => q d H3 (e2.trans e3) (by rw [hd]; rfl)
theorem et_not {a : Bool} (h1 : EvB t σ H a) : EvB (tNot t) σ H (!a) := fun H1 e _ q => h1 H1 e _ fun c H2 e2 hc => q _ H2 e2 (by rw [hc])
theorem etc_and {T U : Bool → Prop} (h1 : EvTC t σ H T) (h2 : T true → EvTC u σ H U) : EvTC (tAnd t u) σ H (fun b => (b = false ∧ T false) ∨ (T true ∧ U b)) := fun H1 e Q q => h1 H1 e _ fun c H2 e2 hc => by
  cases c with
  | true =>
    show u σ H2 Q
    exact h2 hc H2 (e.trans e2) Q fun d H3 e3 hd => q d H3 (e2.trans e3) (.inr ⟨hc, hd⟩)
  | false =>
    show Q false H2
    exact q _ H2 e2 (.inl ⟨rfl, hc⟩)
theorem ed_andV {a b : Bool} (h1 : EvD ta σ H (.bl a)) (h2 : a = true → EvD tb σ H (.bl b)) : EvD (tAndV ta tb) σ H (.bl (a && b)) := fun H1 e Q q => h1 H1 e _ fun v d H2 e2 c k => by
  subst c
  cases k
  refine ⟨a, rfl, ?_⟩
  cases a with
  | true =>
    show tb σ H2 Q
    exact h2 rfl H2 (e.trans e2) Q fun v d H3 e3 c k => q v d H3 (e2.trans e3) c k
  | false =>
    show Q (.bl false) H2
    exact q _ _ H2 e2 rfl (.bl false)
theorem ed_orV {a b : Bool} (h1 : EvD ta σ H (.bl a)) (h2 : a = false → EvD tb σ H (.bl b)) : EvD (tOrV ta tb) σ H (.bl (a || b)) := fun H1 e Q q => h1 H1 e _ fun v d H2 e2 c k => by
  subst c
  cases k
  refine ⟨a, rfl, ?_⟩
  cases a with
  | true =>
    show Q (.bl true) H2
    exact q _ _ H2 e2 rfl (.bl true)
  | false =>
    show tb σ H2 Q
    exact h2 rfl H2 (e.trans e2) Q fun v d H3 e3 c k => q v d H3 (e2.trans e3) c k
theorem ed_notV {a : Bool} (h1 : EvD ta σ H (.bl a)) : EvD (tNotV ta) σ H (.bl (!a)) := fun H1 e Q q => h1 H1 e _ fun v d H2 e2 c k => by
  subst c
  cases k
  exact ⟨a, rfl, q _ _ H2 e2 rfl (.bl _)⟩
theorem ec_if {T : Bool → Prop} (h : EvTC t σ H T) (h1 : T true → EvC ta σ H C) (h2 : T false → EvC tb σ H C) : EvC (tIf t ta tb) σ H C := fun H1 e Q q => h H1 e _ fun b H2 e2 hb => by
  cases b with
  | true =>
    show ta σ H2 Q
    exact h1 hb H2 (e.trans e2) Q fun v d H3 e3 => q v d H3 (e2.trans e3)
  | false =>
    show tb σ H2 Q
    exact h2 hb H2 (e.trans e2) Q fun v d H3 e3 => q v d H3 (e2.trans e3)
theorem ed_if {b : Bool} (h : EvB t σ H b) (h1 : b = true → EvC ta σ H C) (h2 : b = false → EvC tb σ H C) : EvC (tIf t ta tb) σ H C := ec_if h (fun e => h1 e.symm) fun e => h2 e.symm
/-- i <= j <= k -/
theorem ed_chain {g g' : Int → Int → Bool} {i j k : Int} (ha : EvD ta σ H (.int i)) (hb : EvD tb σ H (.int j)) (hc : EvD tc σ H (.int k)) :
    EvD (tChain (rI0 fun i j => .bl (g i j)) (rI0 fun i j => .bl (g' i j)) ta tb tc) σ H (.bl (g i j && g' j k)) := fun H1 e Q q =>
  ha H1 e _ fun x a H2 e2 ca hx => hb H2 (e.trans e2) _ fun y b H3 e3 cb hy => by
    subst ca cb
    cases hx
    cases hy
    refine ⟨i, j, rfl, rfl, g i j, rfl, ?_⟩
    cases eg : g i j with
    | true =>
      show tc σ H3 _
      refine hc H3 ((e.trans e2).trans e3) _ fun z c H4 e4 cc hz => ?_
      subst cc
      cases hz
      refine ⟨j, k, rfl, rfl, q _ _ H4 ((e2.trans e3).trans e4) rfl ?_⟩
      rw [eg]
      exact .bl _
    | false =>
      show Q (.bl false) H3
      refine q _ _ H3 (e2.trans e3) rfl ?_
      rw [eg]
      exact .bl _
/-! == and != of scalars; a sign in a text; a flat thing in a sequence -/
def scD : Dt → Dt → Bool
  | .non, .non => true
  | .bl _, .bl _ => true
  | .int _, .int _ => true
  | .str _, .str _ => true
  | .non, .int _ => true
  | .int _, .non => true
  | .non, .str _ => true
  | .str _, .non => true
  | _, _ => false
def eqS : Dt → Dt → Bool
  | .non, .non => true
  | .bl a, .bl b => a == b
  | .int a, .int b => decide (a = b)
  | .str a, .str b => decide (a = b)
  | _, _ => false
theorem eqS_of {x y : V} {a b : Dt} {H : Hp} (hx : Dq H x a) (hy : Dq H y b) (h : scD a b = true) : scal x y = true ∧ decide (x = y) = eqS a b := by
  cases a <;> cases b <;> simp only [scD, reduceCtorEq, Bool.false_eq_true] at h <;> cases hx <;> cases hy
  · exact ⟨rfl, by simp [eqS]⟩
  · exact ⟨rfl, by simp [eqS]⟩
  · exact ⟨rfl, by simp [eqS]⟩
  · refine ⟨rfl, ?_⟩
    rw [dec_bl]
    rfl
  · exact ⟨rfl, by simp [eqS]⟩
  · refine ⟨rfl, ?_⟩
    simp [eqS]
  · exact ⟨rfl, by simp [eqS]⟩
  · refine ⟨rfl, ?_⟩
    rename_i l m
    show decide (V.str (S l) = V.str (S m)) = decide (l = m)
    by_cases e : l = m
    · rw [e]
      simp
    · rw [decide_eq_false e, decide_eq_false]
      intro z
      exact e (S_inj (V.str.inj z))
theorem ed_eq {a b : Dt} (ha : EvD ta σ H a) (hb : EvD tb σ H b) (h : scD a b = true) : EvD (tOp rEq ta tb) σ H (.bl (eqS a b)) := ec_op ha hb fun x y a' b' H1 _ ca cb hx hy Q q => by
  subst ca cb
  obtain ⟨h1, h2⟩ := eqS_of hx hy h
  refine ⟨h1, ?_⟩
  rw [h2]
  exact q _ _ H1 (Ex.refl H1) rfl (.bl _)
theorem ed_ne {a b : Dt} (ha : EvD ta σ H a) (hb : EvD tb σ H b) (h : scD a b = true) : EvD (tOp rNe ta tb) σ H (.bl (!eqS a b)) := ec_op ha hb fun x y a' b' H1 _ ca cb hx hy Q q => by
  subst ca cb
  obtain ⟨h1, h2⟩ := eqS_of hx hy h
  refine ⟨h1, ?_⟩
  rw [h2]
  exact q _ _ H1 (Ex.refl H1) rfl (.bl _)
theorem ec_eq (ha : EvC ta σ H A) (hb : EvC tb σ H B) (h : ∀ a b, A a → B b → scD a b = true ∧ C (.bl (eqS a b))) : EvC (tOp rEq ta tb) σ H C := ec_op ha hb fun x y a b H1 _ ca cb hx hy Q q => by
  obtain ⟨h0, h3⟩ := h a b ca cb
  obtain ⟨h1, h2⟩ := eqS_of hx hy h0
  refine ⟨h1, ?_⟩
  rw [h2]
  exact q _ _ H1 (Ex.refl H1) h3 (.bl _)
theorem ed_inS {c : Nat} {l : List Nat} (ha : EvD ta σ H (.str [c])) (hb : EvD tb σ H (.str l)) : EvD (tOp rInSg ta tb) σ H (.bl (decide (c ∈ l))) := ec_op ha hb fun x y a' b' H1 _ ca cb hx hy Q q => by
  subst ca cb
  cases hx
  cases hy
  exact ⟨c, _, rfl, rfl, q _ _ H1 (Ex.refl H1) rfl (.bl _)⟩
theorem ed_niS {c : Nat} {l : List Nat} (ha : EvD ta σ H (.str [c])) (hb : EvD tb σ H (.str l)) : EvD (tOp rNiSg ta tb) σ H (.bl (!decide (c ∈ l))) := ec_op ha hb fun x y a' b' H1 _ ca cb hx hy Q q => by
  subst ca cb
  cases hx
  cases hy
  exact ⟨c, _, rfl, rfl, q _ _ H1 (Ex.refl H1) rfl (.bl _)⟩
/-- texts in a list or tuple of texts -/
theorem strs_flat {H : Hp} {c : List Nat} : ∀ {vs : List V} {ls : List (List Nat)}, DqA H vs (ls.map Dt.str) → vs.all flatV = true ∧ inV (.str (S c)) vs = decide (c ∈ ls)
  | [], [], _ => ⟨rfl, by simp [inV]⟩
  | [], _ :: _, h => by cases h
  | v :: vs, [], h => by cases h
  | v :: vs, l :: ls, h => by
    cases h with
    | cons h k =>
      cases h
      obtain ⟨h1, h2⟩ := strs_flat (c := c) k
      refine ⟨by rw [List.all_cons, h1] <;> rfl, ?_⟩
      unfold inV at h2 ⊢
      rw [List.any_cons, h2]
      show (decide _ || _) = _
      have e : eqV (.str (S l)) (.str (S c)) = decide (c = l) := by
        show (S l == S c) = decide (c = l)
        by_cases e : c = l
        · rw [e]
          simp
        · rw [decide_eq_false e]
          simp
          exact fun z => e (S_inj z).symm
      have e2 : (eqV (V.str (S l)) (V.str (S c)) || decide (c ∈ ls)) = decide (c ∈ l :: ls) := by
        rw [e]
        by_cases z : c = l <;> by_cases z2 : c ∈ ls <;> simp [z, z2]
      exact e2
theorem ed_inL {neg : Bool} {c : List Nat} {ls : List (List Nat)} (ha : EvD ta σ H (.str c)) (hb : EvD tb σ H (.lst (ls.map Dt.str)) ∨ EvD tb σ H (.tup (ls.map Dt.str))) : EvD (tOp (rIn K neg) ta tb) σ H (.bl (if neg then !decide (c ∈ ls) else decide (c ∈ ls))) := by
  rcases hb with hb | hb
  · refine ec_op ha hb fun x y a' b' H1 _ ca cb hx hy Q q => ?_
    subst ca cb
    cases hx
    obtain ⟨p, xs, rfl, h1, k1⟩ := dq_lst hy
    obtain ⟨f1, f2⟩ := strs_flat (c := c) k1
    refine ⟨p, xs, rfl, .inl (sqL_of h1), rfl, f1, ?_⟩
    rw [f2]
    exact q _ _ H1 (Ex.refl H1) rfl (.bl _)
  · refine ec_op ha hb fun x y a' b' H1 _ ca cb hx hy Q q => ?_
    subst ca cb
    cases hx
    obtain ⟨p, xs, rfl, h1, k1⟩ := dq_tup hy
    obtain ⟨f1, f2⟩ := strs_flat (c := c) k1
    refine ⟨p, xs, rfl, .inr (sqT_of h1), rfl, f1, ?_⟩
    rw [f2]
    exact q _ _ H1 (Ex.refl H1) rfl (.bl _)
/-- is None -/
theorem ed_isN {a : Dt} {b : Bool} (ha : EvD ta σ H a) (h : ∀ H v, Dq H v a → decide (v = .non) = b) : EvD (tIsN ta) σ H (.bl b) := fun H1 e Q q => ha H1 e _ fun v d H2 e2 c k => by
  subst c
  rw [h H2 v k]
  exact q _ _ H2 e2 rfl (.bl _)
end
end FW
set_option maxRecDepth 100000
set_option maxHeartbeats 4000000
/-! # FH: a tracked list is put aside while an expression is reckoned -/
namespace FW
open PySem L2
def hid (H : Hp) (D : Addr) : Hp := fun b => if b = D then none else H b
theorem hid_same {H : Hp} {D : Addr} : hid H D D = none := if_pos rfl
theorem hid_ne {H : Hp} {D b : Addr} (h : b ≠ D) : hid H D b = H b := if_neg h
def tHide (te : TE) : TE := fun σ H Q => ∃ D acc, H D = some (.lst acc) ∧ te σ (hid H D) fun v H' => H' D = none → Q v (upd H' D (.lst acc))
def tHideT (te : TT) : TT := fun σ H Q => ∃ D acc, H D = some (.lst acc) ∧ te σ (hid H D) fun v H' => H' D = none → Q v (upd H' D (.lst acc))
section
variable {X : Cx} {pins : List (Addr × Obj)} {σ : St} {H H' : Hp} {s s' : Shared} {D : Addr} {acc : List V}
theorem Inv.nofs' (I : Inv X pins σ H s) {o : HO} (h : H D = some o) : D ∉ X.fs := fun hb => by
  obtain ⟨_, ob, ho, _⟩ := I.ok.funs.mem hb
  have z := I.base.free D ob ho (I.ok.frf D hb) fun z => I.ok.exfs D z hb
  rw [h] at z
  cases z
theorem inv_hide (I : Inv X pins σ H s) (h : H D = some (.lst acc)) : ∃ its n, Vals acc its ∧ acc.length ≤ sizeLine ∧ Inv X ((D, ({ cls := .type "list", data := .seq its.toArray n } : Obj)) :: pins) σ (hid H D) s := by
  obtain ⟨hz, its, n, rv, ho⟩ := I.hok D _ h
  have nt : ∀ b o, H b = some o → (∀ xs, o ≠ .lst xs) → b ≠ D := fun b o e k z => by
    rw [z, h] at e
    exact k acc (Option.some.inj e).symm
  have nn : ∀ b, H b = none → hid H D b = none := fun b e => by
    by_cases z : b = D
    · rw [z]
      exact hid_same
    · rw [hid_ne z]
      exact e
  refine ⟨its, n, rv, hz, ⟨I.ok, I.os, I.bare, ?_, I.loc, I.cell, nn _ I.free, fun x c e => nn _ (I.freeC x c e), fun p hp => ?_, fun b o e => ?_, I.len⟩⟩
  · refine ⟨I.base.keep, I.base.slot, fun b o q n hx => nn _ (I.base.free b o q n hx), I.base.there, fun b xs q => ?_, fun b o u q => ?_, fun b ps q => ?_⟩
    · have z := I.base.tups b xs q
      rw [hid_ne (nt b _ z fun _ => by intro q; cases q)]
      exact z
    · have z := I.base.frzs b o u q
      rw [hid_ne (nt b _ z fun _ => by intro q; cases q)]
      exact z
    · obtain ⟨more, z⟩ := I.base.tbls b ps q
      refine ⟨more, ?_⟩
      rw [hid_ne (nt b _ z fun _ => by intro q; cases q)]
      exact z
  · rcases List.mem_append.mp hp with hp | hp
    · obtain ⟨a, b, c⟩ := I.pin p (List.mem_append_left _ hp)
      exact ⟨a, nn _ b, c⟩
    · rcases List.mem_cons.mp hp with e | hp
      · subst e
        refine ⟨ho, hid_same, fun z => ?_, Inv.nofs' I h, fun v z => by cases z⟩
        have z : D = X.env.locals := z
        have y := I.free
        rw [← z, h] at y
        cases y
      · obtain ⟨a, b, c⟩ := I.pin p (List.mem_append_right _ hp)
        exact ⟨a, nn _ b, c⟩
  · have hb : b ≠ D := fun z => by
      rw [z, hid_same] at e
      cases e
    rw [hid_ne hb] at e
    exact (I.hok b o e).stay (fun _ _ _ q => q) (fun c q => by rw [hid_ne (nt c _ q fun _ => by intro q; cases q)]; exact q) fun c xs q => by rw [hid_ne (nt c _ q fun _ => by intro q; cases q)]; exact q
theorem inv_unhide {o : Obj} {its : List Value} {n : Nat} (I0 : Inv X pins σ H s) (h : H D = some (.lst acc)) (rv : Vals acc its) (hz : acc.length ≤ sizeLine)
    (I : Inv X ((D, ({ cls := .type "list", data := .seq its.toArray n } : Obj)) :: pins) σ H' s') : H' D = none ∧ Inv X pins σ (upd H' D (.lst acc)) s' := by
  obtain ⟨ho, hn, hl, hf, _⟩ := I.pin (D, _) (List.mem_append_right _ (List.mem_cons_self ..))
  have hn : H' D = none := hn
  have nt : ∀ b o, H' b = some o → b ≠ D := fun b o e z => by
    rw [z, hn] at e
    cases e
  have nH : ∀ b, H b = none → b ≠ D := fun b e z => by
    rw [z, h] at e
    cases e
  refine ⟨hn, ⟨I.ok, I.os, I.bare, ?_, I.loc, I.cell, by rw [upd_ne (nH _ I0.free)]; exact I.free, fun x c e => by rw [upd_ne (nH _ (I0.freeC x c e))]; exact I.freeC x c e, fun p hp => ?_, fun b u e => ?_, I.len⟩⟩
  · refine ⟨I.base.keep, I.base.slot, fun b o q n hx => ?_, I.base.there, fun b xs q => ?_, fun b o u q => ?_, fun b ps q => ?_⟩
    · rw [upd_ne (nH b (I0.base.free b o q n hx))]
      exact I.base.free b o q n hx
    · have z := I.base.tups b xs q
      rw [upd_ne (nt b _ z)]
      exact z
    · have z := I.base.frzs b o u q
      rw [upd_ne (nt b _ z)]
      exact z
    · obtain ⟨more, z⟩ := I.base.tbls b ps q
      refine ⟨more, ?_⟩
      rw [upd_ne (nt b _ z)]
      exact z
  · obtain ⟨a, b, c⟩ := I.pin p (by
      rcases List.mem_append.mp hp with hp | hp
      · exact List.mem_append_left _ hp
      · exact List.mem_append_right _ (List.mem_cons_of_mem _ hp))
    obtain ⟨_, b0, _⟩ := I0.pin p hp
    exact ⟨a, by rw [upd_ne (nH _ b0)]; exact b, c⟩
  · by_cases hb : b = D
    · subst hb
      rw [upd_same] at e
      cases e
      exact ⟨hz, its, n, rv, ho⟩
    · rw [upd_ne hb] at e
      exact (I.hok b u e).stay (fun _ _ _ q => q) (fun c q => by rw [upd_ne (nt c _ q)]; exact q) fun c xs q => by rw [upd_ne (nt c _ q)]; exact q
theorem pe_hide {e : Expr} {te : TE} (h : PE X e te) : PE X e (tHide te) := by
  refine ⟨fun pins s σ H Q I hq => ?_⟩
  obtain ⟨D, acc, hD, q⟩ := hq
  obtain ⟨its, n, rv, hz, J⟩ := inv_hide I hD
  refine thn (h.run _ s σ _ _ J q) fun u s1 ⟨v, H1, I1, r1, q1⟩ => ?_
  obtain ⟨hn, I2⟩ := inv_unhide (o := default) I hD rv hz I1
  exact ⟨v, _, I2, r1, q1 hn⟩
theorem pt_hide {e : Expr} {te : TT} (h : PT X e te) : PT X e (tHideT te) := by
  refine ⟨fun pins s σ H Q I hq => ?_⟩
  obtain ⟨D, acc, hD, q⟩ := hq
  obtain ⟨its, n, rv, hz, J⟩ := inv_hide I hD
  refine thn (h.run _ s σ _ _ J q) fun u s1 ⟨H1, I1, q1⟩ => ?_
  obtain ⟨hn, I2⟩ := inv_unhide (o := default) I hD rv hz I1
  exact ⟨_, I2, q1 hn⟩
end
end FW
set_option maxRecDepth 100000
set_option maxHeartbeats 4000000
/-! # FB3: walks, comprehensions, statements, promises at the level of data -/
namespace FW
open PySem L2
open Evl (Ex Ex.refl Ex.trans Ex.new Ex.mut EvT)
/-! ### what is walked -/
/-- the walk over the items xs, which the heap B knows -/
structure DWalk (J : It) (B : Hp) (xs : List Dt) : Prop where
  goes : ∀ i H, i < xs.length → Ex B H → J.go i H
  stops : ∀ H, Ex B H → J.stop xs.length H
  yields : ∀ i H v H', i < xs.length → Ex B H → J.yld i H v H' → ∃ x B', xs[i]? = some x ∧ Ex H H' ∧ Ex B B' ∧ Ex B' H' ∧ Dq B' v x ∧ ∀ a, B a = none → H a ≠ none → B' a = none
def EvI (wi : TI) (σ : St) (H : Hp) (X : List Dt → Prop) : Prop := ∀ H1, Ex H H1 → ∀ R : It → Hp → Prop, (∀ xs J H2, Ex H1 H2 → X xs → DWalk J H2 xs → R J H2) → wi σ H1 R
theorem hid_ex {B H : Hp} {D : Addr} (h : B D = none) (e : Ex B H) : Ex B (hid H D) := fun a o q => by
  rw [hid_ne (ne_of_none q h)]
  exact e a o q
theorem upd_hid {H : Hp} {D : Addr} {o : HO} (h : H D = some o) : upd (hid H D) D o = H := by
  funext b
  by_cases e : b = D
  · rw [e, upd_same, h]
  · rw [upd_ne e, hid_ne e]
theorem pts_nilH {X : Cx} : PTs X [] (tHideT tYes) := by
  refine ⟨fun pins s σ H Q I h => ?_⟩
  obtain ⟨D, acc, hD, q⟩ := h
  have q : hid H D D = none → Q true (upd (hid H D) D (.lst acc)) := q
  have q := q hid_same
  rw [upd_hid hD] at q
  exact (pts_nil (X := X)).run pins s σ H Q I q
theorem ex_upd {B H : Hp} {T : Addr} {o : HO} (e : Ex B H) : Ex (upd B T o) (upd H T o) := fun a u q => by
  by_cases z : a = T
  · rw [z, upd_same] at q ⊢
    exact q
  · rw [upd_ne z] at q ⊢
    exact e a u q
section
variable {K : PySem.W.Frag} {σ : St} {H H' : Hp} {ta tb tc te tx tl : TE} {t u : TT} {C A B D : Dt → Prop} {X : List Dt → Prop}
theorem EvI.mono {wi : TI} (e : Ex H H') (h : EvI wi σ H X) : EvI wi σ H' X := fun H1 a R q => h H1 (e.trans a) R q
theorem dw_list {a : Addr} {vs : List V} {xs : List Dt} {H2 : Hp} (h : H2 a = some (.lst vs)) (k : DqA H2 vs xs) : DWalk (Itl K a) H2 xs := by
  have hl := k.len
  refine ⟨fun i H3 hi e => ?_, fun H3 e => ?_, fun i H3 v H4 hi e y => ?_⟩
  · rw [← hl] at hi
    exact ⟨vs, vs[i], sqL_of (e _ _ h), by simp [hi]⟩
  · exact ⟨vs, sqL_of (e _ _ h), by rw [hl]; exact Nat.le_refl _⟩
  · obtain ⟨rfl, y⟩ := y
    have e1 := y vs (sqL_of (e _ _ h))
    obtain ⟨d, e2, e3⟩ := k.get e1
    exact ⟨d, H2, e2, Ex.refl _, Ex.refl _, e, e3, fun _ z _ => z⟩
theorem ei_list (h : EvC te σ H (fun d => ∃ xs, d = .lst xs ∧ X xs)) : EvI (iList K te) σ H X := fun H1 e R q => h H1 e _ fun v d H2 e2 c k => by
  obtain ⟨xs, rfl, cx⟩ := c
  obtain ⟨a, vs, rfl, h1, k1⟩ := dq_lst k
  exact ⟨a, rfl, ⟨vs, sqL_of h1⟩, q xs _ H2 e2 cx (dw_list h1 k1)⟩
theorem ei_listD {xs : List Dt} (h : EvD te σ H (.lst xs)) : EvI (iList K te) σ H (fun ys => ys = xs) := ei_list (h.imp fun d e => ⟨xs, e, rfl⟩)
theorem ei_str {l : List Nat} (h : EvD te σ H (.str l)) : EvI (iStr te) σ H (fun ys => ys = l.map fun c => Dt.str [c]) := fun H1 e R q => h H1 e _ fun v d H2 e2 c k => by
  subst c
  cases k
  refine ⟨_, rfl, q _ _ H2 e2 rfl ⟨fun i H3 hi _ => ?_, fun H3 _ => ?_, fun i H3 v H4 hi eB y => ?_⟩⟩
  · rw [List.length_map] at hi
    exact hi
  · show _ ≤ _
    rw [List.length_map]
    exact Nat.le_refl _
  · obtain ⟨rfl, c, e1, rfl⟩ := y
    have e2 : l[i]? = some c := by
      have z : (S l).cps[i]? = some c := e1
      rw [← Array.getElem?_toList] at z
      exact z
    exact ⟨.str [c], H2, by rw [List.getElem?_map, e2] <;> rfl, Ex.refl _, Ex.refl _, eB, .str [c], fun _ z _ => z⟩
/-- range(n) -/
def rngD (n : Int) : List Dt := (List.range n.toNat).map fun i : Nat => Dt.int (i : Int)
theorem rngD_len (n : Int) : (rngD n).length = n.toNat := by simp [rngD]
theorem rngD_get {n : Int} {i : Nat} {x : Dt} (h : (rngD n)[i]? = some x) : i < n.toNat ∧ x = .int (i : Int) := by
  unfold rngD at h
  rw [List.getElem?_map] at h
  have hi : i < n.toNat := by
    by_cases z : i < n.toNat
    · exact z
    · rw [List.getElem?_eq_none (by simp; omega)] at h
      cases h
  rw [List.getElem?_range hi] at h
  exact ⟨hi, (Option.some.inj h).symm⟩
theorem ei_range {N : Int → Prop} (h : EvC te σ H (fun d => ∃ n, d = .int n ∧ N n)) (hn : ∀ n, N n → n ≤ 100000 ∧ -100000 ≤ n) : EvI (iRng1 (tCons te tNil)) σ H (fun ys => ∃ n, N n ∧ ys = rngD n) := fun H1 e R q => h H1 e _ fun v d H2 e2 c k => by
  obtain ⟨n, rfl, cn⟩ := c
  cases k
  have b := hn n cn
  refine ⟨n, rfl, by omega, by omega, q _ _ H2 e2 ⟨n, cn, rfl⟩ ⟨fun i H3 hi _ => ?_, fun H3 _ => ?_, fun i H3 v H4 hi eB y => ?_⟩⟩
  · rw [rngD_len] at hi
    exact hi
  · show _ ≤ _
    rw [rngD_len]
    exact Nat.le_refl _
  · obtain ⟨rfl, rfl⟩ := y
    rw [rngD_len] at hi
    refine ⟨.int (i : Int), H2, ?_, Ex.refl _, Ex.refl _, eB, ?_, fun _ z _ => z⟩
    · unfold rngD
      rw [List.getElem?_map, List.getElem?_range hi] <;> rfl
    · rw [Int.zero_add]
      exact .int _
theorem ei_rangeD {n : Int} (h : EvD te σ H (.int n)) (hn : n ≤ 100000 ∧ -100000 ≤ n) : EvI (iRng1 (tCons te tNil)) σ H (fun ys => ys = rngD n) := fun H1 e R q =>
  ei_range (N := fun m => m = n) (h.imp fun d e => ⟨n, e, rfl⟩) (fun m e => by rw [e]; exact hn) H1 e R fun xs J H2 e2 c w => q xs J H2 e2 (by
    obtain ⟨m, rfl, rfl⟩ := c
    rfl) w
/-- enumerate(list) -/
def enumD (xs : List Dt) : List Dt := xs.zipIdx.map fun p => Dt.tup [.int (p.2 : Int), p.1]
theorem enumD_len (xs : List Dt) : (enumD xs).length = xs.length := by simp [enumD]
theorem enumD_get {xs : List Dt} {i : Nat} {x : Dt} (h : (enumD xs)[i]? = some x) : ∃ y, xs[i]? = some y ∧ x = .tup [.int (i : Int), y] := by
  unfold enumD at h
  rw [List.getElem?_map, List.getElem?_zipIdx] at h
  cases e : xs[i]? with
  | none =>
    rw [e] at h
    cases h
  | some y =>
    rw [e] at h
    simp at h
    exact ⟨y, rfl, h.symm⟩
theorem enumD_at {xs : List Dt} {i : Nat} {y : Dt} (h : xs[i]? = some y) : (enumD xs)[i]? = some (.tup [.int (i : Int), y]) := by
  unfold enumD
  rw [List.getElem?_map, List.getElem?_zipIdx, h]
  simp
theorem ei_enum (h : EvC te σ H (fun d => ∃ xs, d = .lst xs ∧ X xs)) : EvI (iEnum K (tCons te tNil)) σ H (fun ys => ∃ xs, X xs ∧ ys = enumD xs) := fun H1 e R q => h H1 e _ fun v d H2 e2 c k => by
  obtain ⟨xs, rfl, cx⟩ := c
  obtain ⟨a, vs, rfl, h1, k1⟩ := dq_lst k
  have hl := k1.len
  refine ⟨a, vs, rfl, sqL_of h1, q _ _ H2 e2 ⟨xs, cx, rfl⟩ ⟨fun i H3 hi e3 => ?_, fun H3 e3 => ?_, fun i H3 v H4 hi e3 y => ?_⟩⟩
  · rw [enumD_len, ← hl] at hi
    exact ⟨vs, vs[i], sqL_of (e3 _ _ h1), by simp [hi]⟩
  · exact ⟨vs, sqL_of (e3 _ _ h1), by rw [enumD_len, hl]; exact Nat.le_refl _⟩
  · obtain ⟨T, x, rfl, hT, rfl, y⟩ := y
    have e1 := y vs (sqL_of (e3 _ _ h1))
    obtain ⟨d, e4, e5⟩ := k1.get e1
    have hT2 : H2 T = none := Evl.fresh_back e3 hT
    refine ⟨_, upd H2 T (.tup [.int (i : Nat), x]), enumD_at e4, Ex.new hT, Ex.new hT2, ex_upd e3, .tup upd_same (.cons (.int _) (.cons (e5.mono (Ex.new hT2)) .nil)), fun a z1 z2 => ?_⟩
    rw [upd_ne (fun z => z2 (by rw [z]; exact hT))]
    exact z1
theorem ei_enumD {xs : List Dt} (h : EvD te σ H (.lst xs)) : EvI (iEnum K (tCons te tNil)) σ H (fun ys => ys = enumD xs) := fun H1 e R q =>
  ei_enum (X := fun ys => ys = xs) (h.imp fun d e => ⟨xs, e, rfl⟩) H1 e R fun ys J H2 e2 c w => q ys J H2 e2 (by
    obtain ⟨m, rfl, rfl⟩ := c
    rfl) w
/-! ### what a comprehension makes -/
inductive Made (T : Dt → Bool → Prop) (R : Dt → Dt → Prop) : List Dt → List Dt → Prop
  | nil : Made T R [] []
  | no {x : Dt} {xs ds : List Dt} : T x false → Made T R xs ds → Made T R (x :: xs) ds
  | yes {x d : Dt} {xs ds : List Dt} : T x true → R x d → Made T R xs ds → Made T R (x :: xs) (d :: ds)
theorem Made.app {T : Dt → Bool → Prop} {R : Dt → Dt → Prop} : ∀ {xs ds ys es : List Dt}, Made T R xs ds → Made T R ys es → Made T R (xs ++ ys) (ds ++ es)
  | _, _, _, _, .nil, k => k
  | _, _, _, _, .no h m, k => .no h (Made.app m k)
  | _, _, _, _, .yes h r m, k => .yes h r (Made.app m k)
theorem Made.len {T : Dt → Bool → Prop} {R : Dt → Dt → Prop} : ∀ {xs ds : List Dt}, Made T R xs ds → ds.length ≤ xs.length
  | _, _, .nil => Nat.le_refl _
  | _, _, .no _ m => Nat.le_succ_of_le (Made.len m)
  | _, _, .yes _ _ m => Nat.succ_le_succ (Made.len m)
theorem Made.imp {T T' : Dt → Bool → Prop} {R R' : Dt → Dt → Prop} (ht : ∀ x b, T x b → T' x b) (hr : ∀ x d, R x d → R' x d) : ∀ {xs ds : List Dt}, Made T R xs ds → Made T' R' xs ds
  | _, _, .nil => .nil
  | _, _, .no h m => .no (ht _ _ h) (Made.imp ht hr m)
  | _, _, .yes h r m => .yes (ht _ _ h) (hr _ _ r) (Made.imp ht hr m)
/-- no test, one value an item -/
theorem Made.map {T : Dt → Bool → Prop} {R : Dt → Dt → Prop} {g : Dt → Dt} : ∀ {xs ds : List Dt}, Made T R xs ds → (∀ x, x ∈ xs → ∀ b, T x b → b = true) → (∀ x, x ∈ xs → ∀ d, R x d → d = g x) → ds = xs.map g
  | _, _, .nil, _, _ => rfl
  | _, _, .no h m, ht, hr => by
    cases ht _ (List.mem_cons_self ..) _ h
  | x :: xs, _, .yes h r m, ht, hr => by
    rw [List.map_cons, hr x (List.mem_cons_self ..) _ r, Made.map m (fun y hy => ht y (List.mem_cons_of_mem _ hy)) fun y hy => hr y (List.mem_cons_of_mem _ hy)]
/-- a test and a value, both known -/
theorem Made.fmap {T : Dt → Bool → Prop} {R : Dt → Dt → Prop} {p : Dt → Bool} {g : Dt → Dt} : ∀ {xs ds : List Dt}, Made T R xs ds → (∀ x, x ∈ xs → ∀ b, T x b → b = p x) → (∀ x, x ∈ xs → ∀ d, R x d → d = g x) → ds = (xs.filter p).map g
  | _, _, .nil, _, _ => rfl
  | x :: xs, _, .no h m, ht, hr => by
    rw [List.filter_cons_of_neg (by rw [← ht x (List.mem_cons_self ..) _ h]; exact Bool.false_ne_true), ← Made.fmap m (fun y hy => ht y (List.mem_cons_of_mem _ hy)) fun y hy => hr y (List.mem_cons_of_mem _ hy)]
  | x :: xs, _, .yes h r m, ht, hr => by
    rw [List.filter_cons_of_pos (ht x (List.mem_cons_self ..) _ h).symm, List.map_cons, hr x (List.mem_cons_self ..) _ r, ← Made.fmap m (fun y hy => ht y (List.mem_cons_of_mem _ hy)) fun y hy => hr y (List.mem_cons_of_mem _ hy)]
/-- .. and what is made is new -/
def EvF (te : TE) (σ : St) (H : Hp) (C : Dt → Prop) : Prop := ∀ H1, Ex H H1 → ∀ Q : VK, (∀ v d H2, Ex H1 H2 → C d → Dq H2 v d → (∀ a, v = .ref a → H1 a = none) → Q v H2) → te σ H1 Q
theorem EvF.ec (h : EvF te σ H C) : EvC te σ H C := fun H1 e Q q => h H1 e Q fun v d H2 e2 c k _ => q v d H2 e2 c k
theorem EvF.imp (h : EvF te σ H C) (k : ∀ d, C d → D d) : EvF te σ H D := fun H1 e Q q => h H1 e Q fun v d H2 e2 c dv f => q v d H2 e2 (k d c) dv f
/-- a comprehension: the turn told for any target -/
theorem ef_lcG {wi : TI} {g : TG} {tt : TT} {te : TE} {vs : List Nat} {T : Dt → Bool → Prop} {R : Dt → Dt → Prop} (hi : EvI wi σ H X) (hz : ∀ xs, X xs → xs.length ≤ 100000)
    (turn : ∀ xs, X xs → ∀ (i : Nat) x v B H1, xs[i]? = some x → Ex H B → Dq B v x → Ex B H1 → ∀ P : St → Hp → Prop,
      (∀ σ2, wipe σ2 vs = wipe σ vs → EvTC tt σ2 B (T x) → (T x true → EvC te σ2 B (R x)) → P σ2 H1) → g v (wipe σ vs) H1 P) :
    EvF (tLc wi g (tHideT tt) (tHide te) vs) σ H (fun d => ∃ xs ds, X xs ∧ d = .lst ds ∧ Made T R xs ds) := fun H0 e Q q => hi H0 e _ fun xs J H1 e1 cx W Dl hD => by
  have hz := hz xs cx
  let Pv : Nat → Hp → Prop := fun i H' => ∃ ws ds, Ex H1 (hid H' Dl) ∧ H' Dl = some (.lst ws) ∧ DqA (hid H' Dl) ws ds ∧ Made T R (xs.take i) ds
  have back : ∀ {H' : Hp}, Ex H1 (hid H' Dl) → Ex H1 H' := fun {H'} z a o r => by
    have y := z a o r
    rw [hid_ne (ne_of_none r hD)] at y
    exact y
  refine ⟨fun i m H' => m = xs.length - i ∧ i ≤ xs.length ∧ Pv i H', ⟨xs.length, by simp, Nat.zero_le _, [], [], hid_ex hD (Ex.new hD), upd_same, .nil, .nil⟩, ?_⟩
  rintro i m H' ⟨rfl, hi', ws, ds, p1, p2, p3, p4⟩
  by_cases hlt : i < xs.length
  · refine .inr ⟨W.goes i H' hlt (back p1), Pv (i + 1), fun H'' p' => ⟨xs.length - (i + 1), by omega, rfl, hlt, p'⟩, fun v H'' y => ?_⟩
    obtain ⟨x, B, ex, e2, eB1, eB2, dx, hB⟩ := W.yields i H' v H'' hlt (back p1) y
    have BD : B Dl = none := hB Dl hD (by rw [p2]; simp)
    have tk : xs.take (i + 1) = xs.take i ++ [x] := by
      rw [List.take_succ, ex]
      rfl
    have hlen : ds.length ≤ i := by
      have z := p4.len
      rw [List.length_take] at z
      omega
    have q2 : H'' Dl = some (.lst ws) := e2 _ _ p2
    have eH : Ex (hid H' Dl) (hid H'' Dl) := fun a o r => by
      by_cases z : a = Dl
      · rw [z, hid_same] at r
        cases r
      · rw [hid_ne z] at r ⊢
        exact e2 a o r
    refine turn xs cx i x v B H'' ex ((e.trans e1).trans eB1) dx eB2 _ fun σ2 hw ht he => ⟨hw, ?_⟩
    refine ⟨Dl, ws, q2, ?_⟩
    refine ht (hid H'' Dl) (hid_ex BD eB2) _ fun b H3 e4 tb hn => ?_
    have eH3 : hid (upd H3 Dl (.lst ws)) Dl = H3 := by
      funext a
      by_cases z : a = Dl
      · rw [z, hid_same, hn]
      · rw [hid_ne z, upd_ne z]
    cases b with
    | false =>
      show Pv (i + 1) (upd H3 Dl (.lst ws))
      refine ⟨ws, ds, ?_, upd_same, ?_, ?_⟩
      · rw [eH3]
        exact p1.trans (eH.trans e4)
      · rw [eH3]
        exact p3.mono (eH.trans e4)
      · rw [tk]
        have z := p4.app (.no tb .nil)
        rw [List.append_nil] at z
        exact z
    | true =>
      refine ⟨Dl, ws, upd_same, ?_⟩
      rw [eH3]
      refine he tb H3 ((hid_ex BD eB2).trans e4) _ fun y d H4 e5 cd dy hn4 => ?_
      refine ⟨ws, upd_same, szlt (by rw [p3.len]; omega), ?_⟩
      have eH4 : hid (upd (upd H4 Dl (.lst ws)) Dl (.lst (ws ++ [y]))) Dl = H4 := by
        funext a
        by_cases z : a = Dl
        · rw [z, hid_same, hn4]
        · rw [hid_ne z, upd_ne z, upd_ne z]
      refine ⟨ws ++ [y], ds ++ [d], ?_, upd_same, ?_, ?_⟩
      · rw [eH4]
        exact p1.trans (eH.trans (e4.trans e5))
      · rw [eH4]
        exact (p3.mono (eH.trans (e4.trans e5))).app (.one dy)
      · rw [tk]
        exact p4.app (.yes tb cd .nil)
  · have ei : i = xs.length := by omega
    subst ei
    rw [List.take_length] at p4
    refine .inl ⟨W.stops H' (back p1), q _ _ H' (e1.trans (back p1)) ⟨xs, ds, cx, rfl, p4⟩ (.lst p2 (p3.mono fun a o r => ?_)) fun a ea => by
      cases ea
      exact Evl.fresh_back e1 hD⟩
    by_cases z : a = Dl
    · rw [z, hid_same] at r
      cases r
    · rw [hid_ne z] at r
      exact r
theorem ec_lcG {wi : TI} {g : TG} {tt : TT} {te : TE} {vs : List Nat} {T : Dt → Bool → Prop} {R : Dt → Dt → Prop} (hi : EvI wi σ H X) (hz : ∀ xs, X xs → xs.length ≤ 100000)
    (turn : ∀ xs, X xs → ∀ (i : Nat) x v B H1, xs[i]? = some x → Ex H B → Dq B v x → Ex B H1 → ∀ P : St → Hp → Prop,
      (∀ σ2, wipe σ2 vs = wipe σ vs → EvTC tt σ2 B (T x) → (T x true → EvC te σ2 B (R x)) → P σ2 H1) → g v (wipe σ vs) H1 P) :
    EvC (tLc wi g (tHideT tt) (tHide te) vs) σ H (fun d => ∃ xs ds, X xs ∧ d = .lst ds ∧ Made T R xs ds) :=
  (ef_lcG hi hz turn).ec
theorem etc_yes : EvTC tYes σ H (fun b => b = true) := fun H1 _ Q q => q true H1 (Ex.refl H1) rfl
/-- for a name -/
theorem ec_lc {wi : TI} {tt : TT} {te : TE} {vs : List Nat} {j : Nat} {T : Dt → Bool → Prop} {R : Dt → Dt → Prop} (hi : EvI wi σ H X) (hz : ∀ xs, X xs → xs.length ≤ 100000) (hw : ∀ v, wipe ((wipe σ vs).set j (some v)) vs = wipe σ vs)
    (turn : ∀ xs, X xs → ∀ (i : Nat) x v B, xs[i]? = some x → Ex H B → Dq B v x → EvTC tt ((wipe σ vs).set j (some v)) B (T x) ∧ (T x true → EvC te ((wipe σ vs).set j (some v)) B (R x))) :
    EvC (tLc wi (gName j) (tHideT tt) (tHide te) vs) σ H (fun d => ∃ xs ds, X xs ∧ d = .lst ds ∧ Made T R xs ds) :=
  ec_lcG hi hz fun xs cx i x v B H1 ex eB dx eB2 P p => p _ (hw v) (turn xs cx i x v B ex eB dx).1 (turn xs cx i x v B ex eB dx).2
/-- for a pair of names -/
theorem ec_lcP {wi : TI} {tt : TT} {te : TE} {vs : List Nat} {j l : Nat} {T : Dt → Bool → Prop} {R : Dt → Dt → Prop} (hi : EvI wi σ H X) (hz : ∀ xs, X xs → xs.length ≤ 100000) (hp : ∀ xs, X xs → ∀ x, x ∈ xs → ∃ a b, x = .tup [a, b])
    (hw : ∀ v w, wipe (((wipe σ vs).set j (some v)).set l (some w)) vs = wipe σ vs)
    (turn : ∀ xs, X xs → ∀ (i : Nat) a b v w B, xs[i]? = some (.tup [a, b]) → Ex H B → Dq B v a → Dq B w b → EvTC tt (((wipe σ vs).set j (some v)).set l (some w)) B (T (.tup [a, b])) ∧ (T (.tup [a, b]) true → EvC te (((wipe σ vs).set j (some v)).set l (some w)) B (R (.tup [a, b])))) :
    EvC (tLc wi (gTup K 2 (gCons (gName j) (gCons (gName l) gNil))) (tHideT tt) (tHide te) vs) σ H (fun d => ∃ xs ds, X xs ∧ d = .lst ds ∧ Made T R xs ds) :=
  ec_lcG hi hz fun xs cx i x v B H1 ex eB dx eB2 P p => by
    obtain ⟨a, b, rfl⟩ := hp xs cx x (List.mem_of_getElem? ex)
    obtain ⟨t, vs', rfl, h1, k1⟩ := dq_tup dx
    obtain ⟨y, z, rfl, hy, hz'⟩ := dqa2 k1
    refine ⟨t, [y, z], rfl, sqT_of (eB2 _ _ h1), rfl, y, [z], rfl, z, [], rfl, rfl, ?_⟩
    exact p _ (hw y z) (turn xs cx i a b y z B ex eB hy hz').1 (turn xs cx i a b y z B ex eB hy hz').2
/-- known items, known values -/
theorem ed_lcM {wi : TI} {te : TE} {vs : List Nat} {j : Nat} {xs : List Dt} (g : Dt → Dt) (hi : EvI wi σ H (fun ys => ys = xs)) (hz : xs.length ≤ 100000) (hw : ∀ v, wipe ((wipe σ vs).set j (some v)) vs = wipe σ vs)
    (turn : ∀ (i : Nat) x v B, xs[i]? = some x → Ex H B → Dq B v x → EvD te ((wipe σ vs).set j (some v)) B (g x)) : EvD (tLc wi (gName j) (tHideT tYes) (tHide te) vs) σ H (.lst (xs.map g)) :=
  (ec_lc (T := fun _ b => b = true) (R := fun x d => d = g x) hi (fun ys e => by rw [e]; exact hz) hw fun ys e i x v B ex eB dx => ⟨etc_yes, fun _ => turn i x v B (by rw [← e]; exact ex) eB dx⟩).imp fun d ⟨ys, ds, e, ed, m⟩ => by
    rw [ed, m.map (fun _ _ _ q => q) (fun _ _ _ q => q), e]
theorem ed_lcF {wi : TI} {tt : TT} {te : TE} {vs : List Nat} {j : Nat} {xs : List Dt} (p : Dt → Bool) (g : Dt → Dt) (hi : EvI wi σ H (fun ys => ys = xs)) (hz : xs.length ≤ 100000) (hw : ∀ v, wipe ((wipe σ vs).set j (some v)) vs = wipe σ vs)
    (turn : ∀ (i : Nat) x v B, xs[i]? = some x → Ex H B → Dq B v x → EvB tt ((wipe σ vs).set j (some v)) B (p x) ∧ (p x = true → EvD te ((wipe σ vs).set j (some v)) B (g x))) : EvD (tLc wi (gName j) (tHideT tt) (tHide te) vs) σ H (.lst ((xs.filter p).map g)) :=
  (ec_lc (T := fun x b => b = p x) (R := fun x d => d = g x) hi (fun ys e => by rw [e]; exact hz) hw fun ys e i x v B ex eB dx => ⟨(turn i x v B (by rw [← e]; exact ex) eB dx).1, fun q => (turn i x v B (by rw [← e]; exact ex) eB dx).2 q.symm⟩).imp fun d ⟨ys, ds, e, ed, m⟩ => by
    rw [ed, m.fmap (fun _ _ _ q => q) (fun _ _ _ q => q), e]
theorem ed_lcMP {wi : TI} {te : TE} {vs : List Nat} {j l : Nat} {xs : List Dt} (g : Dt → Dt) (hi : EvI wi σ H (fun ys => ys = xs)) (hz : xs.length ≤ 100000) (hp : ∀ x, x ∈ xs → ∃ a b, x = .tup [a, b]) (hw : ∀ v w, wipe (((wipe σ vs).set j (some v)).set l (some w)) vs = wipe σ vs)
    (turn : ∀ (i : Nat) a b v w B, xs[i]? = some (.tup [a, b]) → Ex H B → Dq B v a → Dq B w b → EvD te (((wipe σ vs).set j (some v)).set l (some w)) B (g (.tup [a, b]))) : EvD (tLc wi (gTup K 2 (gCons (gName j) (gCons (gName l) gNil))) (tHideT tYes) (tHide te) vs) σ H (.lst (xs.map g)) :=
  (ec_lcP (T := fun _ b => b = true) (R := fun x d => d = g x) hi (fun ys e => by rw [e]; exact hz) (fun ys e => by rw [e]; exact hp) hw fun ys e i a b v w B ex eB da db => ⟨etc_yes, fun _ => turn i a b v w B (by rw [← e]; exact ex) eB da db⟩).imp fun d ⟨ys, ds, e, ed, m⟩ => by
    rw [ed, m.map (fun _ _ _ q => q) (fun _ _ _ q => q), e]
theorem ed_lcFP {wi : TI} {tt : TT} {te : TE} {vs : List Nat} {j l : Nat} {xs : List Dt} (p : Dt → Bool) (g : Dt → Dt) (hi : EvI wi σ H (fun ys => ys = xs)) (hz : xs.length ≤ 100000) (hp : ∀ x, x ∈ xs → ∃ a b, x = .tup [a, b]) (hw : ∀ v w, wipe (((wipe σ vs).set j (some v)).set l (some w)) vs = wipe σ vs)
    (turn : ∀ (i : Nat) a b v w B, xs[i]? = some (.tup [a, b]) → Ex H B → Dq B v a → Dq B w b → EvB tt (((wipe σ vs).set j (some v)).set l (some w)) B (p (.tup [a, b])) ∧ (p (.tup [a, b]) = true → EvD te (((wipe σ vs).set j (some v)).set l (some w)) B (g (.tup [a, b])))) :
    EvD (tLc wi (gTup K 2 (gCons (gName j) (gCons (gName l) gNil))) (tHideT tt) (tHide te) vs) σ H (.lst ((xs.filter p).map g)) :=
  (ec_lcP (T := fun x b => b = p x) (R := fun x d => d = g x) hi (fun ys e => by rw [e]; exact hz) (fun ys e => by rw [e]; exact hp) hw fun ys e i a b v w B ex eB da db => ⟨(turn i a b v w B (by rw [← e]; exact ex) eB da db).1, fun q => (turn i a b v w B (by rw [← e]; exact ex) eB da db).2 q.symm⟩).imp fun d ⟨ys, ds, e, ed, m⟩ => by
    rw [ed, m.fmap (fun _ _ _ q => q) (fun _ _ _ q => q), e]
theorem map_at {α β : Type} {l : List α} {f : α → β} {i : Nat} {y : β} (h : (l.map f)[i]? = some y) : ∃ x, l[i]? = some x ∧ y = f x := by
  rw [List.getElem?_map] at h
  cases q : l[i]? with
  | none =>
    rw [q] at h
    cases h
  | some x =>
    rw [q] at h
    exact ⟨x, rfl, (Option.some.inj h).symm⟩
end
end FW
set_option maxRecDepth 100000
set_option maxHeartbeats 4000000
/-! # FB4: statements, promises, calls at the level of data -/
namespace FW
open PySem L2
open Evl (Ex Ex.refl Ex.trans Ex.new Ex.mut EvT)
/-! ### promises -/
/-- a def that changes nothing known: of the values ds it makes a value of C -/
def spR (R : Hp → List Dt → (Dt → Prop) → Prop) : Sp := fun vs H Q _ => ∃ ds C, DqA H vs ds ∧ R H ds C ∧ ∀ v d H2, Ex H H2 → C d → Dq H2 v d → Q v H2
/-- one that may raise: out of E -/
def spRX (R : Hp → List Dt → (Dt → Prop) → (Value → Option Addr → Hp → Hp → Prop) → Prop) : Sp := fun vs H Q E => ∃ ds C Z, DqA H vs ds ∧ R H ds C Z ∧ (∀ v d H2, Ex H H2 → C d → Dq H2 v d → Q v H2) ∧ (∀ c d H2, Ex H H2 → Z c d H H2 → E c d H2)
section
variable {K : PySem.W.Frag} {σ : St} {H H' : Hp} {ta tb tc te tx tl : TE} {t u : TT} {C A B : Dt → Prop} {X : List Dt → Prop} {D : Ends} {tu tw tz : TS} {E : XK}
theorem app_nil' {vs : List V} : vs ++ ([] : List V) = vs := List.append_nil vs
theorem ec_call {R : Hp → List Dt → (Dt → Prop) → Prop} {ta : TA} {Cs : List (Dt → Prop)} (h : EvA ta σ H Cs) (hR : ∀ ds H1, Ex H H1 → All2 Cs ds → ∃ C', R H1 ds C' ∧ ∀ d, C' d → C d) : EvC (tCall (spR R) [] E ta) σ H C := fun H1 e Q q =>
  h H1 e _ fun vs ds H2 e2 cs k => by
    obtain ⟨C', r, hc⟩ := hR ds H2 (e.trans e2) cs
    refine ⟨ds, C', by rw [app_nil']; exact k, r, fun v d H3 e3 c dq => q v d H3 (e2.trans e3) (hc d c) dq⟩
theorem ed_call {R : Hp → List Dt → (Dt → Prop) → Prop} {ta : TA} {ds : List Dt} (h : EvAD ta σ H ds) (hR : ∀ H1, Ex H H1 → R H1 ds C) : EvC (tCall (spR R) [] E ta) σ H C := fun H1 e Q q =>
  h H1 e _ fun vs H2 e2 k => ⟨ds, C, by rw [app_nil']; exact k, hR H2 (e.trans e2), fun v d H3 e3 c dq => q v d H3 (e2.trans e3) c dq⟩
theorem ed_meth {R : Hp → List Dt → (Dt → Prop) → Prop} {ta : TA} {to : TE} {ds : List Dt} {Cc : Addr} {m : Str} {a dx : Addr} {fs : List (Str × V)} (ho : EvD to σ H (.obj a)) (hi : H a = some (.ins Cc dx fs)) (hm : fs.lookup m = none) (h : EvAD ta σ H ds) (hR : ∀ H1, Ex H H1 → R H1 (.obj a :: ds) C) :
    EvC (tMeth Cc m (spR R) [] E to ta) σ H C := fun H1 e Q q => ho H1 e _ fun x d H2 e2 c k => by
  subst c
  cases k
  refine ⟨a, dx, fs, rfl, (e.trans e2) _ _ hi, hm, h H2 (e.trans e2) _ fun vs H3 e3 k => ?_⟩
  exact ⟨.obj a :: ds, C, .cons (.obj a) (by rw [app_nil']; exact k), hR H3 ((e.trans e2).trans e3), fun v d H4 e4 c dq => q v d H4 ((e2.trans e3).trans e4) c dq⟩
/-! ### statements -/
theorem g_asg {i : Nat} (h : EvC te σ H C) (k : ∀ v d H1, Ex H H1 → C d → Dq H1 v d → tz D (σ.set i (some v)) H1) : tSeq (tAsg te (gName i)) tz D σ H := h H (Ex.refl H) _ fun v d H1 e c dq => k v d H1 e c dq
theorem g_asgD {i : Nat} {d : Dt} (h : EvD te σ H d) (k : ∀ v H1, Ex H H1 → Dq H1 v d → tz D (σ.set i (some v)) H1) : tSeq (tAsg te (gName i)) tz D σ H := h H (Ex.refl H) _ fun v d' H1 e c dq => by
  subst c
  exact k v H1 e dq
theorem g_ret (h : EvC te σ H C) (k : ∀ v d H1, Ex H H1 → C d → Dq H1 v d → D.rt v H1) : tRet te D σ H := h H (Ex.refl H) _ fun v d H1 e c dq => k v d H1 e c dq
theorem g_retS (h : EvC te σ H C) (k : ∀ v d H1, Ex H H1 → C d → Dq H1 v d → D.rt v H1) : tSeq (tRet te) tz D σ H := h H (Ex.refl H) _ fun v d H1 e c dq => k v d H1 e c dq
theorem g_drop (h : EvC te σ H C) (k : ∀ v d H1, Ex H H1 → C d → Dq H1 v d → tz D σ H1) : tSeq (tDrop te) tz D σ H := h H (Ex.refl H) _ fun v d H1 e c dq => k v d H1 e c dq
theorem g_if {T : Bool → Prop} (h : EvTC t σ H T) (h1 : T true → ∀ H1, Ex H H1 → tu { D with nx := tz D } σ H1) (h2 : T false → ∀ H1, Ex H H1 → tw { D with nx := tz D } σ H1) : tSeq (tIfS t tu tw) tz D σ H := h H (Ex.refl H) _ fun b H1 e tb => by
  cases b with
  | true =>
    show tu _ σ H1
    exact h1 tb H1 e
  | false =>
    show tw _ σ H1
    exact h2 tb H1 e
theorem g_when {T : Bool → Prop} (h : EvTC t σ H T) (h1 : T true → ∀ H1, Ex H H1 → tu { D with nx := tz D } σ H1) (h2 : T false → ∀ H1, Ex H H1 → tz D σ H1) : tSeq (tIfS t tu tNext) tz D σ H := g_if h h1 h2
/-- known tests -/
theorem g_ifD {b : Bool} (h : EvB t σ H b) (h1 : b = true → ∀ H1, Ex H H1 → tu { D with nx := tz D } σ H1) (h2 : b = false → ∀ H1, Ex H H1 → tw { D with nx := tz D } σ H1) : tSeq (tIfS t tu tw) tz D σ H := g_if h (fun e => h1 e.symm) fun e => h2 e.symm
theorem g_whenD {b : Bool} (h : EvB t σ H b) (h1 : b = true → ∀ H1, Ex H H1 → tu { D with nx := tz D } σ H1) (h2 : b = false → ∀ H1, Ex H H1 → tz D σ H1) : tSeq (tIfS t tu tNext) tz D σ H := g_ifD h h1 h2
theorem s_if {T : Bool → Prop} (h : EvTC t σ H T) (h1 : T true → ∀ H1, Ex H H1 → tu D σ H1) (h2 : T false → ∀ H1, Ex H H1 → tw D σ H1) : tIfS t tu tw D σ H := h H (Ex.refl H) _ fun b H1 e tb => by
  cases b with
  | true =>
    show tu _ σ H1
    exact h1 tb H1 e
  | false =>
    show tw _ σ H1
    exact h2 tb H1 e
theorem s_ifD {b : Bool} (h : EvB t σ H b) (h1 : b = true → ∀ H1, Ex H H1 → tu D σ H1) (h2 : b = false → ∀ H1, Ex H H1 → tw D σ H1) : tIfS t tu tw D σ H := s_if h (fun e => h1 e.symm) fun e => h2 e.symm
/-- a, b = e1, e2 -/
theorem g_par {i j : Nat} (ha : EvC ta σ H A) (hb : EvC tb σ H B) (k : ∀ v w a b H1, Ex H H1 → A a → B b → Dq H1 v a → Dq H1 w b → tz D ((σ.set i (some v)).set j (some w)) H1) : tSeq (tPar i j (tCons ta (tCons tb tNil))) tz D σ H :=
  ha H (Ex.refl H) _ fun v a H1 e1 ca dv => hb H1 e1 _ fun w b H2 e2 cb dw => ⟨v, w, rfl, k v w a b H2 (e1.trans e2) ca cb (dv.mono e2) dw⟩
/-- (a, b) = (e1, e2), by a tuple -/
theorem g_tup2 {i j : Nat} (ha : EvC ta σ H A) (hb : EvC tb σ H B) (k : ∀ v w a b H1, Ex H H1 → A a → B b → Dq H1 v a → Dq H1 w b → tz D ((σ.set i (some v)).set j (some w)) H1) :
    tSeq (tAsg (tTup (tCons ta (tCons tb tNil))) (gTup K 2 (gCons (gName i) (gCons (gName j) gNil)))) tz D σ H :=
  ha H (Ex.refl H) _ fun v a H1 e1 ca dv => hb H1 e1 _ fun w b H2 e2 cb dw => ⟨by show 2 ≤ sizeLine; decide, fun p hp => ⟨p, [v, w], rfl, sqT_of upd_same, rfl, v, [w], rfl, w, [], rfl, rfl,
    k v w a b _ ((e1.trans e2).trans (Ex.new hp)) ca cb (dv.mono (e2.trans (Ex.new hp))) (dw.mono (Ex.new hp))⟩⟩
theorem g_tup3 {i j l : Nat} (ha : EvC ta σ H A) (hb : EvC tb σ H B) (hc : EvC tc σ H C) (k : ∀ v w x a b c H1, Ex H H1 → A a → B b → C c → Dq H1 v a → Dq H1 w b → Dq H1 x c → tz D (((σ.set i (some v)).set j (some w)).set l (some x)) H1) :
    tSeq (tAsg (tTup (tCons ta (tCons tb (tCons tc tNil)))) (gTup K 3 (gCons (gName i) (gCons (gName j) (gCons (gName l) gNil))))) tz D σ H :=
  ha H (Ex.refl H) _ fun v a H1 e1 ca dv => hb H1 e1 _ fun w b H2 e2 cb dw => hc H2 (e1.trans e2) _ fun x c H3 e3 cc dx => ⟨by show 3 ≤ sizeLine; decide, fun p hp => ⟨p, [v, w, x], rfl, sqT_of upd_same, rfl, v, [w, x], rfl, w, [x], rfl, x, [], rfl, rfl,
    k v w x a b c _ (((e1.trans e2).trans e3).trans (Ex.new hp)) ca cb cc (dv.mono ((e2.trans e3).trans (Ex.new hp))) (dw.mono (e3.trans (Ex.new hp))) (dx.mono (Ex.new hp))⟩⟩
/-- a for whose turns change nothing known: the invariant by the turn -/
theorem g_forG {wi : TI} {g : TG} (hi : EvI wi σ H X)
    (hp : ∀ xs B0, X xs → Ex H B0 → ∃ Pv : Nat → St → Hp → Prop, Pv 0 σ B0 ∧ (∀ i σ' H', Pv i σ' H' → Ex B0 H') ∧
      (∀ (i : Nat) x v σ' H' H'', xs[i]? = some x → Pv i σ' H' → Ex H' H'' → Dq H'' v x → g v σ' H'' fun σ2 H2 => tu { D with nx := Pv (i + 1), ct := Pv (i + 1), bk := tz D } σ2 H2) ∧ ∀ σ' H', Pv xs.length σ' H' → tz D σ' H') :
    tSeq (tFor wi g tu) tz D σ H := hi H (Ex.refl H) _ fun xs J B0 e cx W => by
  obtain ⟨Pv, p0, pE, ps, pd⟩ := hp xs B0 cx e
  refine ⟨fun i m σ' H' => m = xs.length - i ∧ i ≤ xs.length ∧ Pv i σ' H', ⟨xs.length, by simp, Nat.zero_le _, p0⟩, ?_⟩
  rintro i m σ' H' ⟨rfl, hi', p⟩
  by_cases hlt : i < xs.length
  · refine .inr ⟨W.goes i H' hlt (pE _ _ _ p), Pv (i + 1), fun σ'' H'' p' => ⟨xs.length - (i + 1), by omega, rfl, hlt, p'⟩, fun v H'' y => ?_⟩
    obtain ⟨x, B', ex, e2, eB1, eB2, dx, _⟩ := W.yields i H' v H'' hlt (pE _ _ _ p) y
    exact ps i x v σ' H' H'' ex p e2 (dx.mono eB2)
  · have ei : i = xs.length := by omega
    subst ei
    exact .inl ⟨W.stops H' (pE _ _ _ p), pd σ' H' p⟩
theorem g_for {wi : TI} {j : Nat} (hi : EvI wi σ H X)
    (hp : ∀ xs B0, X xs → Ex H B0 → ∃ Pv : Nat → St → Hp → Prop, Pv 0 σ B0 ∧ (∀ i σ' H', Pv i σ' H' → Ex B0 H') ∧
      (∀ (i : Nat) x v σ' H', xs[i]? = some x → (∃ H0, Pv i σ' H0 ∧ Ex H0 H') → Dq H' v x → tu { D with nx := Pv (i + 1), ct := Pv (i + 1), bk := tz D } (σ'.set j (some v)) H') ∧ ∀ σ' H', Pv xs.length σ' H' → tz D σ' H') :
    tSeq (tFor wi (gName j) tu) tz D σ H := g_forG hi fun xs B0 cx e => by
  obtain ⟨Pv, p0, pE, ps, pd⟩ := hp xs B0 cx e
  exact ⟨Pv, p0, pE, fun i x v σ' H' H'' ex p e2 dx => ps i x v σ' H'' ex ⟨H', p, e2⟩ dx, pd⟩
theorem g_forP {wi : TI} {j l : Nat} (hi : EvI wi σ H X) (hx : ∀ xs, X xs → ∀ x, x ∈ xs → ∃ a b, x = .tup [a, b])
    (hp : ∀ xs B0, X xs → Ex H B0 → ∃ Pv : Nat → St → Hp → Prop, Pv 0 σ B0 ∧ (∀ i σ' H', Pv i σ' H' → Ex B0 H') ∧
      (∀ (i : Nat) a b v w σ' H', xs[i]? = some (.tup [a, b]) → (∃ H0, Pv i σ' H0 ∧ Ex H0 H') → Dq H' v a → Dq H' w b → tu { D with nx := Pv (i + 1), ct := Pv (i + 1), bk := tz D } ((σ'.set j (some v)).set l (some w)) H') ∧ ∀ σ' H', Pv xs.length σ' H' → tz D σ' H') :
    tSeq (tFor wi (gTup K 2 (gCons (gName j) (gCons (gName l) gNil))) tu) tz D σ H := g_forG hi fun xs B0 cx e => by
  obtain ⟨Pv, p0, pE, ps, pd⟩ := hp xs B0 cx e
  refine ⟨Pv, p0, pE, fun i x v σ' H' H'' ex p e2 dx => ?_, pd⟩
  obtain ⟨a, b, rfl⟩ := hx xs cx x (List.mem_of_getElem? ex)
  obtain ⟨t, vs', rfl, h1, k1⟩ := dq_tup dx
  obtain ⟨y, z, rfl, hy, hz⟩ := dqa2 k1
  exact ⟨t, [y, z], rfl, sqT_of h1, rfl, y, [z], rfl, z, [], rfl, rfl, ps i a b y z σ' H'' ex ⟨H', p, e2⟩ hy hz⟩
end
end FW
set_option maxRecDepth 100000
set_option maxHeartbeats 4000000
/-! # FT: the text by places; short rules over what the top holds -/
namespace FW
open PySem L2
open Evl (Ex Ex.refl Ex.trans Ex.new Ex.mut EvT)
def top (i : Nat) : Stmt := PySem.Challenge.pw_fourwalls_k57_whole_numbers_of_histories.main.body.getD i (.Pass ⟨0, 0, 0, 0⟩)
/-- the built-ins are the built-ins -/
structure Txt (mg : Str → Option Value) : Prop where
  len : mg "len" = none
  isinstance : mg "isinstance" = none
  str : mg "str" = none
  int : mg "int" = none
  bool : mg "bool" = none
  list : mg "list" = none
  tuple : mg "tuple" = none
  set : mg "set" = none
  dict : mg "dict" = none
  sorted : mg "sorted" = none
  all : mg "all" = none
  range : mg "range" = none
  enumerate : mg "enumerate" = none
  zip : mg "zip" = none
  abs : mg "abs" = none
/-- a def of the module as it stands behind the top -/
structure DefAt (K : PySem.W.Frag) (mg : Str → Option Value) (x : Str) (st : Stmt) : Prop where
  ex : ∃ f fd, Fun K x x st f fd ∧ mg x = some (.ref f)
/-- a def of the module and what it promises -/
structure Cal (P : Program) (w : World) (K : PySem.W.Frag) (mg : Str → Option Value) (base : Heap) (CX : CXT) (k : Nat) (x : Str) (ps : List Str) (sp : Sp) : Prop where
  ex : ∃ f fd, mg x = some (.ref f) ∧ PySem.W.keepIn K (.ref f) = true ∧ FnOk P w K mg base CX k f fd ps sp ∧ Binds K fd ps []
section
variable {X : Cx} {e a b c : Expr} {es : List Expr} {ta te tb : TE} {t : TA} {p pos p1 p2 : Pos}
theorem pe_cal {CX : CXT} {k j : Nat} {x : Str} {ps : List Str} {sp : Sp} {E : XK} (C : Cal X.prog X.w X.K X.mg X.base CX k x ps sp) (hr : Room j X.A) (hx : Passes CX X E) (ha : PA X (e :: es) t) (hk : k ≤ j := by decide) (hg : Gl X x := by rfl) (hd : (x == ("__debug__" : Str)) = false := by decide)
    (he : starEach (e :: es) X.env = (false, eval e X.env) :: starEach es X.env := by rfl) (hpl : (backTo pos (starEach es X.env)).any (·.1) = false := by rfl) : PE X (.Call (.Name x p) (e :: es) [] pos) (tCall sp [] E t) := by
  obtain ⟨f, fd, hm, hkp, F, hb⟩ := C.ex
  exact pe_call F (hr.mono hk) hg hm hkp hb .nil hx ha hd he hpl
theorem pe_len (T : Txt X.mg) (ha : PE X a ta) (hg : Gl X "len" := by rfl) (hs : starEach (a :: []) X.env = (false, eval a X.env) :: starEach [] X.env := by rfl) (hpl : (backTo pos (starEach [] X.env)).any (·.1) = false := by rfl) : PE X (.Call (.Name "len" p) [a] [] pos) (tCB (rLenU X.K) (tCons ta tNil)) :=
  pe_callB call_lenU hg T.len PySem.boot_len (pa_cons ha pa_nil hs) (by decide) (by decide) hs hpl
theorem pe_all (T : Txt X.mg) (hc : X.calm = true) (ha : PE X a ta) (hg : Gl X "all" := by rfl) (hs : starEach (a :: []) X.env = (false, eval a X.env) :: starEach [] X.env := by rfl) (hpl : (backTo pos (starEach [] X.env)).any (·.1) = false := by rfl) : PE X (.Call (.Name "all" p) [a] [] pos) (tCB (rAll X.K) (tCons ta tNil)) :=
  pe_callB (cr_all hc) hg T.all PyProof.Rows.boot_all (pa_cons ha pa_nil hs) (by decide) (by decide) hs hpl
/-- isinstance(x, T), T a built-in class -/
theorem pe_isi (T : Txt X.mg) (ha : PE X a ta) (hb : PE X b tb) (hg : Gl X "isinstance" := by rfl) (hs : starEach (a :: b :: []) X.env = (false, eval a X.env) :: starEach (b :: []) X.env := by rfl) (hs2 : starEach (b :: []) X.env = (false, eval b X.env) :: starEach [] X.env := by rfl)
    (hpl : (backTo pos (starEach (b :: []) X.env)).any (·.1) = false := by rfl) : PE X (.Call (.Name "isinstance" p) [a, b] [] pos) (tCB (rIsi X.K) (tCons ta (tCons tb tNil))) :=
  pe_callB call_isi hg T.isinstance PyProof.Rows.boot_isinstance (pa_cons ha (pa_cons hb pa_nil hs2) hs) (by decide) (by decide) hs hpl
theorem pe_isiT (T : Txt X.mg) (ha : PE X a ta) (hb : PE X b tb) (hg : Gl X "isinstance" := by rfl) (hs : starEach (a :: b :: []) X.env = (false, eval a X.env) :: starEach (b :: []) X.env := by rfl) (hs2 : starEach (b :: []) X.env = (false, eval b X.env) :: starEach [] X.env := by rfl)
    (hpl : (backTo pos (starEach (b :: []) X.env)).any (·.1) = false := by rfl) : PE X (.Call (.Name "isinstance" p) [a, b] [] pos) (tCB (rIsiT X.K) (tCons ta (tCons tb tNil))) :=
  pe_callB call_isiT hg T.isinstance PyProof.Rows.boot_isinstance (pa_cons ha (pa_cons hb pa_nil hs2) hs) (by decide) (by decide) hs hpl
theorem pe_tyStr (T : Txt X.mg) (hg : Gl X "str" := by rfl) : PE X (.Name "str" p) (tC (.ty "str")) := pe_bltn hg T.str PyProof.Rows.boot_str rfl
theorem pe_tyInt (T : Txt X.mg) (hg : Gl X "int" := by rfl) : PE X (.Name "int" p) (tC (.ty "int")) := pe_bltn hg T.int PyProof.Rows.boot_int rfl
theorem pe_tyBool (T : Txt X.mg) (hg : Gl X "bool" := by rfl) : PE X (.Name "bool" p) (tC (.ty "bool")) := pe_bltn hg T.bool PyProof.Rows.boot_bool rfl
theorem pe_tyList (T : Txt X.mg) (hg : Gl X "list" := by rfl) : PE X (.Name "list" p) (tC (.ty "list")) := pe_bltn hg T.list PyProof.Rows.boot_list rfl
theorem pe_tyTuple (T : Txt X.mg) (hg : Gl X "tuple" := by rfl) : PE X (.Name "tuple" p) (tC (.ty "tuple")) := pe_bltn hg T.tuple PyProof.Rows.boot_tuple rfl
end
/-! ### the classes of data -/
def tyD : Dt → Option String
  | .non => some "NoneType"
  | .bl _ => some "bool"
  | .int _ => some "int"
  | .str _ => some "str"
  | .lst _ => some "list"
  | .tup _ => some "tuple"
  | .obj _ => none
section
variable {K : PySem.W.Frag} {σ : St} {H H' : Hp} {ta tb tc te tx tl : TE} {t u : TT} {C A B : Dt → Prop}
theorem tyX_of {v : V} {d : Dt} {s : String} (h : Dq H v d) (e : tyD d = some s) : TyX K H v (.type s) := by
  cases h <;> simp only [tyD, Option.some.injEq, reduceCtorEq] at e <;> subst e
  · exact .base .non
  · exact .base (.bl _)
  · exact .base (.int _)
  · exact .base (.str _)
  · rename_i h _
    exact .base (.lst h)
  · rename_i h _
    exact .base (.tup h)
theorem ed_isi {a : Dt} {s n : String} {b : Bool} (ha : EvD ta σ H a) (e : tyD a = some s) (k : kitB s n = some b) : EvD (tCB (rIsi K) (tCons ta (tCons (tC (.ty n)) tNil))) σ H (.bl b) := fun H1 e1 Q q =>
  ha H1 e1 _ fun v d H2 e2 c dv => by
    subst c
    exact ⟨v, .ty n, .type s, .type n, b, rfl, .ty n, tyX_of dv e, kit_ty k, q _ _ H2 e2 rfl (.bl b)⟩
/-- isinstance(x, (list, tuple)) -/
theorem ed_isiT {a : Dt} {s n m : String} {b : Bool} (ha : EvD ta σ H a) (e : tyD a = some s) (k : PySem.W.kitAny K (.type s) [.type n, .type m] = some b) : EvD (tCB (rIsiT K) (tCons ta (tCons (tTup (tCons (tC (.ty n)) (tCons (tC (.ty m)) tNil))) tNil))) σ H (.bl b) := fun H1 e1 Q q =>
  ha H1 e1 _ fun v d H2 e2 c dv => by
    subst c
    refine ⟨by show 2 ≤ sizeLine; decide, fun p hp => ?_⟩
    exact ⟨v, p, [.ty n, .ty m], .type s, [.type n, .type m], b, rfl, upd_same, .cons (.ty n) (.cons (.ty m) .nil), tyX_of (dv.mono (Ex.new hp)) e, k, q _ _ _ (e2.trans (Ex.new hp)) rfl (.bl b)⟩
theorem bls_of {H : Hp} : ∀ {vs : List V} {bs : List Bool}, DqA H vs (bs.map Dt.bl) → vs = bs.map V.bl
  | [], [], _ => rfl
  | [], _ :: _, h => by cases h
  | _ :: _, [], h => by cases h
  | v :: vs, b :: bs, h => by
    cases h with
    | cons h k =>
      cases h
      rw [List.map_cons, bls_of k]
theorem ed_all {bs : List Bool} (ha : EvD ta σ H (.lst (bs.map Dt.bl))) : EvD (tCB (rAll K) (tCons ta tNil)) σ H (.bl (bs.all id)) := ec_cbD (ad_cons ha ad_nil) fun vs H1 _ k Q q => by
  obtain ⟨x, rfl, hx⟩ := dqa1 k
  obtain ⟨p, xs, rfl, h1, k1⟩ := dq_lst hx
  have e := bls_of k1
  subst e
  exact ⟨p, bs, rfl, sqL_of h1, q _ _ H1 (Ex.refl H1) rfl (.bl _)⟩
end
end FW
set_option maxRecDepth 100000
set_option maxHeartbeats 4000000
/-! # FE: the frame of a def's proof; classes of data -/
namespace FW
open PySem L2
open Evl (Ex Ex.refl Ex.trans Ex.new Ex.mut EvT)
section
variable {P : Program} {w : World} {K : PySem.W.Frag} {mg : Str → Option Value} {base : Heap}
theorem pe_globS {X : Cx} {x z : Str} {t : Tok} {pos : Pos} (hm : X.mg x = some (.str z t)) (hg : Gl X x := by rfl) (hd : (x == ("__debug__" : Str)) = false := by decide) : PE X (.Name x pos) (tC (.str z)) := pe_glob (v := .str z) hg hm ⟨t, rfl⟩ hd
theorem pe_globI {X : Cx} {x : Str} {z : Int} {t : Tok} {pos : Pos} (hm : X.mg x = some (.int z t)) (hg : Gl X x := by rfl) (hd : (x == ("__debug__" : Str)) = false := by decide) : PE X (.Name x pos) (tC (.int z)) := pe_glob (v := .int z) hg hm ⟨t, rfl⟩ hd
theorem pe_globR {X : Cx} {x : Str} {a : Addr} {pos : Pos} (hm : X.mg x = some (.ref a)) (hg : Gl X x := by rfl) (hd : (x == ("__debug__" : Str)) = false := by decide) : PE X (.Name x pos) (tC (.ref a)) := pe_glob (v := .ref a) hg hm rfl hd
theorem cal_mk {CX : CXT} {k : Nat} {x : Str} {ps : List Str} {sp : Sp} {st : Stmt} (F : DefAt K mg x st)
    (h : ∀ f fd, Fun K x x st f fd → FnOk P w K mg base CX k f fd ps sp)
    (hb : ∀ (kV doc pm : Value) (an : Option Addr) (cdv ct : Value) (us : List Value), us.length = ps.length → bindArgs (PySem.W.fnOf x x (defArgs st) (defBody st) (defScope st) .none kV doc pm an cdv ct) ⟨us, []⟩ = pure (ps.zip us)) : Cal P w K mg base CX k x ps sp := by
  obtain ⟨f, fd, F, hm⟩ := F.ex
  exact ⟨f, fd, hm, F.kp, h f fd F, F.binds hb⟩
/-- a def whose promise is spR: its body from the values on -/
theorem cal_of {k : Nat} {x : Str} {N ps : List Str} {R : Hp → List Dt → (Dt → Prop) → Prop} {st : Stmt} (S : FnScope N ps (defScope st)) (F : DefAt K mg x st)
    (len : ∀ H ds C, R H ds C → ds.length = ps.length)
    (hb : ∀ (kV doc pm : Value) (an : Option Addr) (cdv ct : Value) (us : List Value), us.length = ps.length → bindArgs (PySem.W.fnOf x x (defArgs st) (defBody st) (defScope st) .none kV doc pm an cdv ct) ⟨us, []⟩ = pure (ps.zip us))
    (hbody : ∀ (f cdv : _) (A : Around) (outer : List Env) (s : Shared) (H : Hp), Room k (A.deeper (PyProof.Rows.envOfC x (defScope st) s.heap.objs.size f cdv)) → ∀ (E : XK), ∃ t, PSs (cxOf CX0 P w K mg base N x (defScope st) f cdv A outer s H E).nox (defBody st) t ∧
      ∀ (ds : List Dt) (C : Dt → Prop) (vs : List V), DqA H vs ds → R H ds C → ∀ D : Ends, (∀ v d H2, Ex H H2 → C d → Dq H2 v d → D.rt v H2) → (∀ σ H2, Ex H H2 → C .non → D.nx σ H2) → t D (start N vs) H) : Cal P w K mg base CX0 (k + 1) x ps (spR R) := by
  refine cal_mk F (fun f fd F => ?_) hb
  refine F.ok S (fun vs H Q E h => ?_) (fun cdv A outer s H vs Q E hr h => ?_)
  · obtain ⟨ds, C, hd, hR, _⟩ := h
    rw [hd.len]
    exact len H ds C hR
  · obtain ⟨ds, C, hd, hR, k⟩ := h
    obtain ⟨t, ht, hq⟩ := hbody f cdv A outer s H hr E
    exact ⟨t, ht, hq ds C vs hd hR _ (fun v d H2 e c q => k v d H2 e c q) fun σ H2 e c => k .non .non H2 e c .non⟩
end
/-! ### classes of data -/
def noObj : Dt → Prop
  | .obj _ => False
  | _ => True
def isStrD : Dt → Bool
  | .str _ => true
  | _ => false
def isIntD : Dt → Bool
  | .int _ => true
  | .bl _ => true
  | _ => false
def isBlD : Dt → Bool
  | .bl _ => true
  | _ => false
def isLstD : Dt → Bool
  | .lst _ => true
  | _ => false
def isTupD : Dt → Bool
  | .tup _ => true
  | _ => false
theorem kits : ∀ s ∈ ["NoneType", "bool", "int", "str", "list", "tuple"], kitB s "str" = some (s == "str") ∧ kitB s "int" = some (s == "int" || s == "bool") ∧ kitB s "bool" = some (s == "bool") ∧ kitB s "list" = some (s == "list") ∧ kitB s "tuple" = some (s == "tuple") := by decide +kernel
theorem tyD_mem {a : Dt} (h : noObj a) : ∃ s, tyD a = some s ∧ s ∈ ["NoneType", "bool", "int", "str", "list", "tuple"] := by
  cases a <;> first | exact h.elim | exact ⟨_, rfl, by decide⟩
section
variable {K : PySem.W.Frag} {σ : St} {H H' : Hp} {ta tb tc te tx tl : TE} {t u : TT} {C A B : Dt → Prop}
theorem ed_isStr {a : Dt} (ha : EvD ta σ H a) (h : noObj a) : EvD (tCB (rIsi K) (tCons ta (tCons (tC (.ty "str")) tNil))) σ H (.bl (isStrD a)) := by
  obtain ⟨s, e, m⟩ := tyD_mem h
  refine ed_isi ha e ?_
  rw [(kits s m).1]
  cases a <;> simp only [tyD, Option.some.injEq, reduceCtorEq] at e <;> subst e <;> simp [isStrD, isIntD, isBlD, isLstD, isTupD]
theorem ed_isInt {a : Dt} (ha : EvD ta σ H a) (h : noObj a) : EvD (tCB (rIsi K) (tCons ta (tCons (tC (.ty "int")) tNil))) σ H (.bl (isIntD a)) := by
  obtain ⟨s, e, m⟩ := tyD_mem h
  refine ed_isi ha e ?_
  rw [(kits s m).2.1]
  cases a <;> simp only [tyD, Option.some.injEq, reduceCtorEq] at e <;> subst e <;> simp [isStrD, isIntD, isBlD, isLstD, isTupD]
theorem ed_isBl {a : Dt} (ha : EvD ta σ H a) (h : noObj a) : EvD (tCB (rIsi K) (tCons ta (tCons (tC (.ty "bool")) tNil))) σ H (.bl (isBlD a)) := by
  obtain ⟨s, e, m⟩ := tyD_mem h
  refine ed_isi ha e ?_
  rw [(kits s m).2.2.1]
  cases a <;> simp only [tyD, Option.some.injEq, reduceCtorEq] at e <;> subst e <;> simp [isStrD, isIntD, isBlD, isLstD, isTupD]
theorem ed_isLst {a : Dt} (ha : EvD ta σ H a) (h : noObj a) : EvD (tCB (rIsi K) (tCons ta (tCons (tC (.ty "list")) tNil))) σ H (.bl (isLstD a)) := by
  obtain ⟨s, e, m⟩ := tyD_mem h
  refine ed_isi ha e ?_
  rw [(kits s m).2.2.2.1]
  cases a <;> simp only [tyD, Option.some.injEq, reduceCtorEq] at e <;> subst e <;> simp [isStrD, isIntD, isBlD, isLstD, isTupD]
theorem ed_isTup {a : Dt} (ha : EvD ta σ H a) (h : noObj a) : EvD (tCB (rIsi K) (tCons ta (tCons (tC (.ty "tuple")) tNil))) σ H (.bl (isTupD a)) := by
  obtain ⟨s, e, m⟩ := tyD_mem h
  refine ed_isi ha e ?_
  rw [(kits s m).2.2.2.2]
  cases a <;> simp only [tyD, Option.some.injEq, reduceCtorEq] at e <;> subst e <;> simp [isStrD, isIntD, isBlD, isLstD, isTupD]
/-- isinstance(x, (list, tuple)) -/
theorem ed_isSeq {a : Dt} (ha : EvD ta σ H a) (h : noObj a) : EvD (tCB (rIsiT K) (tCons ta (tCons (tTup (tCons (tC (.ty "list")) (tCons (tC (.ty "tuple")) tNil))) tNil))) σ H (.bl (isLstD a || isTupD a)) := by
  obtain ⟨s, e, m⟩ := tyD_mem h
  refine ed_isiT ha e ?_
  unfold PySem.W.kitAny PySem.W.kitAny PySem.W.kitAny
  rw [kit_ty (kits s m).2.2.2.1, kit_ty (kits s m).2.2.2.2]
  cases a <;> simp only [tyD, Option.some.injEq, reduceCtorEq] at e <;> subst e <;> rfl
theorem ed_and0 (h1 : EvD ta σ H (.bl false)) : EvD (tAndV ta tb) σ H (.bl false) := ed_andV (b := false) h1 (fun h => by cases h)
theorem ed_and1 (h1 : EvD ta σ H (.bl true)) (h2 : EvC tb σ H C) : EvC (tAndV ta tb) σ H C := fun H1 e Q q => h1 H1 e _ fun v d H2 e2 c k => by
  subst c
  cases k
  refine ⟨true, rfl, ?_⟩
  show tb σ H2 Q
  exact h2 H2 (e.trans e2) Q fun v d H3 e3 c k => q v d H3 (e2.trans e3) c k
theorem ed_or1 (h1 : EvD ta σ H (.bl true)) : EvD (tOrV ta tb) σ H (.bl true) := ed_orV (b := false) h1 (fun h => by cases h)
theorem et_and0 (h1 : EvB t σ H false) : EvB (tAnd t u) σ H false := et_and (b := false) h1 (fun h => by cases h)
theorem et_or1 (h1 : EvB t σ H true) : EvB (tOr t u) σ H true := et_or (b := false) h1 (fun h => by cases h)
theorem EvB.is {b c : Bool} (h : EvB t σ H b) (e : b = c) : EvB t σ H c := h.to e
end
end FW
set_option maxRecDepth 100000
set_option maxHeartbeats 4000000
namespace FW
open PySem L2
open Evl (Ex Ex.refl Ex.trans Ex.new Ex.mut EvT)
section
variable {P : Program} {w : World} {K : PySem.W.Frag} {mg : Str → Option Value} {base : Heap}
abbrev st_is_number : Stmt := top 18
theorem sc_is_number : FnScope ["value", "least", "most"] ["value", "least", "most"] (defScope st_is_number) := ⟨rfl, rfl, rfl, by decide +kernel, rfl, by decide +kernel, by decide +kernel⟩
def isNumD : Dt → Int → Int → Bool
  | .int i, lo, hi => decide (lo ≤ i) && decide (i ≤ hi)
  | _, _, _ => false
def R_is_number (_ : Hp) (ds : List Dt) (C : Dt → Prop) : Prop := ∃ d lo hi, ds = [d, .int lo, .int hi] ∧ noObj d ∧ C = fun e => e = .bl (isNumD d lo hi)
theorem c_is_number (T : Txt mg) (F : DefAt K mg "is_number" st_is_number) : Cal P w K mg base CX0 1 "is_number" ["value", "least", "most"] (spR R_is_number) := by
  refine cal_of sc_is_number F (fun _ _ _ ⟨_, _, _, e, _⟩ => by rw [e]; rfl) (fun _ _ _ _ _ _ us hl => match us, hl with | [_, _, _], _ => rfl) fun f cdv A outer s H hr E => ?_
  refine ⟨_, (pss_one (ps_ret (pe_and (pe_isi T (pv 0) (pe_tyInt T)) (pe_and (pe_not (pe_isi T (pv 0) (pe_tyBool T))) (pe_one (pe_chain op_le op_le (pv 1) (pv 0) (pv 2))))))), ?_⟩
  rintro ds C vs hd ⟨d, lo, hi, rfl, no, rfl⟩ D kr kn
  obtain ⟨x, y, z, rfl, hx, hy, hz⟩ := dqa3 hd
  refine g_ret (C := fun e => e = .bl (isNumD d lo hi)) ?_ kr
  cases d with
  | int i => exact ed_and1 (ed_isInt (ed_var rfl hx) no) (ed_and1 (ed_notV (ed_isBl (ed_var rfl hx) no)) (ed_chain (ed_var rfl hy) (ed_var rfl hx) (ed_var rfl hz)))
  | bl b => exact ed_and1 (ed_isInt (ed_var rfl hx) no) (ed_and0 (ed_notV (ed_isBl (ed_var rfl hx) no)))
  | non => exact ed_and0 (ed_isInt (ed_var rfl hx) no)
  | str l => exact ed_and0 (ed_isInt (ed_var rfl hx) no)
  | lst l => exact ed_and0 (ed_isInt (ed_var rfl hx) no)
  | tup l => exact ed_and0 (ed_isInt (ed_var rfl hx) no)
  | obj a => exact no.elim
abbrev st_is_one : Stmt := top 22
theorem sc_is_one : FnScope ["value", "letters"] ["value", "letters"] (defScope st_is_one) := ⟨rfl, rfl, rfl, by decide +kernel, rfl, by decide +kernel, by decide +kernel⟩
/-- one of some letters -/
def R_is_one (_ : Hp) (ds : List Dt) (C : Dt → Prop) : Prop := ∃ c l, ds = [.str [c], .str l] ∧ C = fun e => e = .bl (decide (c ∈ l))
theorem c_is_one (T : Txt mg) (F : DefAt K mg "is_one" st_is_one) : Cal P w K mg base CX0 1 "is_one" ["value", "letters"] (spR R_is_one) := by
  refine cal_of sc_is_one F (fun _ _ _ ⟨_, _, e, _⟩ => by rw [e]; rfl) (fun _ _ _ _ _ _ us hl => match us, hl with | [_, _], _ => rfl) fun f cdv A outer s H hr E => ?_
  refine ⟨_, (pss_one (ps_ret (pe_and (pe_isi T (pv 0) (pe_tyStr T)) (pe_and (pe_cmpR op_eq (pe_len T (pv 0)) pe_int (nomark _)) (pe_one (pe_cmpR op_inSg (pv 0) (pv 1) rfl)))))), ?_⟩
  rintro ds C vs hd ⟨c, l, rfl, rfl⟩ D kr kn
  obtain ⟨x, y, rfl, hx, hy⟩ := dqa2 hd
  refine g_ret (C := fun e => e = .bl (decide (c ∈ l))) ?_ kr
  exact ed_and1 (ed_isStr (ed_var rfl hx) trivial) (ed_and1 (ed_eq (ed_len (ed_var rfl hx) rfl (by simp [okL])) ed_int rfl) (ed_inS (ed_var rfl hx) (ed_var rfl hy)))
abbrev st_is_string : Stmt := top 23
theorem sc_is_string : FnScope ["value", "faces", "letter"] ["value", "faces"] (defScope st_is_string) := ⟨rfl, rfl, rfl, by decide +kernel, rfl, by decide +kernel, by decide +kernel⟩
def isStringD : Dt → List Nat → Bool
  | .str l, fc => l.all fun c => decide (c ∈ fc)
  | _, _ => false
def R_is_string (_ : Hp) (ds : List Dt) (C : Dt → Prop) : Prop := ∃ d fc, ds = [d, .str fc] ∧ noObj d ∧ okL d ∧ C = fun e => e = .bl (isStringD d fc)
theorem map_all {α : Type} (l : List α) (f : α → Bool) : (l.map f).all id = l.all f := by simp [List.all_map]
theorem c_is_string (T : Txt mg) (F : DefAt K mg "is_string" st_is_string) : Cal P w K mg base CX0 1 "is_string" ["value", "faces"] (spR R_is_string) := by
  refine cal_of sc_is_string F (fun _ _ _ ⟨_, _, e, _⟩ => by rw [e]; rfl) (fun _ _ _ _ _ _ us hl => match us, hl with | [_, _], _ => rfl) fun f cdv A outer s H hr E => ?_
  refine ⟨_, (pss_one (ps_ret (pe_and (pe_isi T (pv 0) (pe_tyStr T)) (pe_one (pe_all T rfl (pe_lc (own := [("letter", 2)]) (g := gName 2) rfl sc_is_string.nd (pi_str (pv 0)) (blkOk_by (own := [("letter", 2)]) (N := ["value", "faces", "letter"]) (sc := defScope st_is_string) (by decide +kernel)) (fun _ _ _ _ _ => (pg_name (i := 2) sc_is_string.nd rfl (Or.inl rfl))) (fun _ _ _ _ _ => pts_nilH) (fun _ _ _ _ _ => pe_hide (pe_cmpR op_inSg (pv 2) (pv 1) rfl)))))))), ?_⟩
  rintro ds C vs hd ⟨d, fc, rfl, no, ok, rfl⟩ D kr kn
  obtain ⟨x, y, rfl, hx, hy⟩ := dqa2 hd
  refine g_ret (C := fun e => e = .bl (isStringD d fc)) ?_ kr
  cases d with
  | str l =>
    refine ed_and1 (ed_isStr (ed_var rfl hx) no) ?_
    refine EvD.to (ed_all (bs := l.map fun c => decide (c ∈ fc)) (EvD.to (ed_lcM (fun x => match x with | .str [c] => .bl (decide (c ∈ fc)) | _ => .non) (ei_str (ed_var rfl hx)) (by rw [List.length_map]; exact ok) (fun _ => rfl) fun i z v B ez eB dz => ?_) ?_)) ?_
    · obtain ⟨c, _, rfl⟩ := map_at ez
      exact ed_inS (ed_var rfl dz) (ed_var rfl (hy.mono eB))
    · rw [List.map_map, List.map_map]
      rfl
    · rw [map_all]
      rfl
  | bl b => exact ed_and0 (ed_isStr (ed_var rfl hx) no)
  | int b => exact ed_and0 (ed_isStr (ed_var rfl hx) no)
  | non => exact ed_and0 (ed_isStr (ed_var rfl hx) no)
  | lst l => exact ed_and0 (ed_isStr (ed_var rfl hx) no)
  | tup l => exact ed_and0 (ed_isStr (ed_var rfl hx) no)
  | obj a => exact no.elim
end
end FW
set_option maxRecDepth 100000
set_option maxHeartbeats 4000000
/-! # FR1: zip of a tuple and a text -/
namespace FW
open PySem PySem.Spec PyProof.Rows L2
open Evl (Ex Ex.refl Ex.trans Ex.new Ex.mut)
def ItzTS (K : PySem.W.Frag) (a : Addr) (z : Str) : It :=
  ⟨fun i H => ∃ (xs : List V) (x : V) (c : Nat), SqT K H a xs ∧ xs[i]? = some x ∧ z.cps[i]? = some c,
    fun i H v H' => ∃ T x c, v = .ref T ∧ H T = none ∧ H' = upd H T (.tup [x, .str ⟨#[c]⟩]) ∧ (∀ xs, SqT K H a xs → xs[i]? = some x) ∧ z.cps[i]? = some c,
    fun i H => ∃ xs : List V, SqT K H a xs ∧ i = min xs.length z.cps.size⟩
theorem turn_zipTS {P : Program} {w : World} {K : PySem.W.Frag} {elts : List Expr} {kk : Nat} {tpos : Pos} {a z TI TO i1 i2 : Addr} {x : Str} {tk : Tok} (S : ZipSep2 z TI TO i1 i2 [i1, a] [i2]) (hne : a ≠ i1) :
    Turn P w K (.Tuple elts kk tpos) (ItzTS K a x) [z, TI, TO, i1, i2] z (fun i h => IsZip h z TI TO .none ∧ IsTupOf2 h TI (.ref i1) (.ref i2) ∧ (∃ u v, IsTupOf2 h TO u v) ∧ h.IsTupleIter i1 a i ∧ h.IsStrIter i2 (strIterType x) x tk i) where
  mem := by simp
  obj := fun i h st c hc => by
    obtain ⟨hz, hTI, ⟨u, v, hTO⟩, ⟨o1, e1, _, d1⟩, ⟨o2, e2, _, d2⟩⟩ := st
    have e' : c = z ∨ c = TI ∨ c = TO ∨ c = i1 ∨ c = i2 := by simpa using hc
    rcases e' with q | q | q | q | q
    · rw [q]; exact ⟨_, hz, fun v q => nomatch q⟩
    · rw [q]; exact ⟨_, hTI, fun v q => nomatch q⟩
    · rw [q]; exact ⟨_, hTO, fun v q => nomatch q⟩
    · rw [q]; exact ⟨o1, e1, fun v q => by rw [d1] at q; cases q⟩
    · rw [q]; exact ⟨o2, e2, fun v q => by rw [d2] at q; cases q⟩
  keep := fun i h h' st k => by
    obtain ⟨hz, hTI, ⟨u, v, hTO⟩, h1, ⟨o2, e2, r2⟩⟩ := st
    exact ⟨k z (by simp) _ hz, k TI (by simp) _ hTI, ⟨u, v, k TO (by simp) _ hTO⟩, h1.at fun o q => k i1 (by simp) o q, ⟨o2, k i2 (by simp) _ e2, r2⟩⟩
  item := by
    intro X hP hw hK hc i pins s σ H E I hf st hg
    subst hP hw hK
    obtain ⟨hz, hTI, ⟨x0, y0, hTO⟩, h1, h2⟩ := st
    obtain ⟨xs, v1, c1, hqx, hx, hy⟩ := hg
    obtain ⟨its, rv, p, _⟩ := I.tuple hqx
    obtain ⟨u, hu, ru⟩ := rv.get hx
    have hh : X.A.in1.handled = none := by simp [I.ok.hd hc]
    have hzl : z < s.heap.objs.size := Heap.lt_size hz
    have D1 := Draws.tuple (prog := X.prog) (w := X.w) hh i1 a hne its.toArray
    have D2 := Draws.text (prog := X.prog) (w := X.w) hh i2 x tk
    have hi1 : i < its.toArray.size := by
      have q := (List.getElem?_eq_some_iff.mp hu).1
      simpa using q
    have hi2 : i < x.cps.size := by
      have q := hy
      rw [Array.getElem?_eq_some_iff] at q
      exact q.1
    refine wpAny_pyNext_zipD2_item S D1 D2 hz hTI hTO ⟨h1, p⟩ h2 hi1 hi2 fun u1 u2 h' tk' p1 p2 z' TO' st1' st2' hT hsz hk => ?_
    have e1 : u1 = u := by
      have q : its.toArray[i]? = some u1 := p1
      have q2 : its.toArray[i]? = some u := by simpa using hu
      rw [q2] at q
      exact (Option.some.inj q).symm
    subst e1
    obtain ⟨c, t2, ec, rfl⟩ : ∃ c t2, x.cps[i]? = some c ∧ u2 = .str ⟨#[c]⟩ t2 := p2
    have ec1 : c = c1 := by
      rw [hy] at ec
      exact (Option.some.inj ec).symm
    subst ec1
    refine ⟨_, rfl, wpAny_letOwnedTupleGo_zip (s := { s with heap := h', toks := tk' }) z' fun h'' z'' sb => ?_⟩
    have hT2 : h''.get? s.heap.objs.size = some { cls := .type "tuple", data := .seq #[u1, .str ⟨#[c]⟩ t2] } := (sb.2 _ (Nat.ne_of_gt hzl)).trans hT
    have new : ObjOk X.prog X.w (upd H s.heap.objs.size (.tup [v1, .str ⟨#[c]⟩])) h'' s.heap.objs.size (.tup [v1, .str ⟨#[c]⟩]) :=
      ⟨by show 2 ≤ sizeLine; decide, [u1, .str ⟨#[c]⟩ t2], .cons ru (.cons ⟨t2, rfl⟩ .nil), ⟨_, hT2, rfl, _, rfl⟩⟩
    have I1 : Inv X pins σ (upd H s.heap.objs.size (.tup [v1, .str ⟨#[c]⟩])) { s with heap := h'', toks := tk' } :=
      I.turnedNew (t' := tk') (ch := [z, TI, TO, i1, i2]) (fun c o hb q => (sb.2 c (fun q' => hb (by simp [q']))).trans (hk c o (fun q' => hb (by simp [q'])) (fun q' => hb (by simp [q'])) (fun q' => hb (by simp [q'])) (fun q' => hb (by simp [q'])) q)) hf (Nat.le_refl _) new
    refine ⟨.ref s.heap.objs.size, _, I1, rfl, ⟨_, v1, c, rfl, I.hok.fresh (Nat.le_refl _), rfl, fun l hl => by rw [I.tuple_inj hl hqx]; exact hx, ec⟩, ⟨z'', ?_, ⟨u1, .str ⟨#[c]⟩ t2, ?_⟩, ?_, ?_⟩, fun b hbm => ?_⟩
    · exact (sb.2 _ S.TIz).trans (hk _ _ S.TIz S.TITO S.TIi1 S.TIi2 hTI)
    · exact (sb.2 _ S.TOz).trans TO'
    · exact st1'.1.at fun o q => (sb.2 _ S.zi1.symm).trans q
    · obtain ⟨o2, e2, r2⟩ := st2'
      exact ⟨o2, (sb.2 _ S.zi2.symm).trans e2, r2⟩
    · have hlt : b < s.heap.objs.size := by
        have e' : b = z ∨ b = TI ∨ b = TO ∨ b = i1 ∨ b = i2 := by simpa using hbm
        rcases e' with q | q | q | q | q
        · rw [q]; exact hzl
        · rw [q]; exact Heap.lt_size hTI
        · rw [q]; exact Heap.lt_size hTO
        · rw [q]; obtain ⟨_, e1, _⟩ := h1; exact Heap.lt_size e1
        · rw [q]; obtain ⟨_, e2, _⟩ := h2; exact Heap.lt_size e2
      rw [upd_ne (Nat.ne_of_lt hlt)]
      exact (hf b hbm).1
  done := by
    intro X hP hw hK hc i pins s σ H E I hf st hg
    subst hP hw hK
    obtain ⟨hz, hTI, ⟨x0, y0, hTO⟩, h1, h2⟩ := st
    obtain ⟨xs, hqx, hend⟩ := hg
    obtain ⟨its, rv, p, _⟩ := I.tuple hqx
    have l1 := rv.length
    have hh : X.A.in1.handled = none := by simp [I.ok.hd hc]
    have D1 := Draws.tuple (prog := X.prog) (w := X.w) hh i1 a hne its.toArray
    have D2 := Draws.text (prog := X.prog) (w := X.w) hh i2 x tk
    have z1 : its.toArray.size = xs.length := by simp [l1]
    exact wpAny_pyNext_zipD2_end S D1 D2 hz hTI hTO ⟨h1, p⟩ h2 (by rw [z1]; omega) (by omega) (by rw [z1]; omega) fun h' tk' hk => ⟨rfl, I.turnedL (t' := tk') (ch := [z, TI, TO, i1, i2]) (fun c o hb q =>
      hk c o (fun q' => hb (by simp [q'])) (fun q' => hb (by simp [q'])) (fun q' => hb (by simp [q'])) (fun q' => hb (by simp [q'])) q) hf⟩
  self := fun A i s Q E st h => wpAny_pyIter_zip st.1 h
def iZipTS (K : PySem.W.Frag) (ta : TA) : TI := fun σ H R => ta σ H fun vs H1 => ∃ a xs z, vs = [.ref a, .str z] ∧ SqT K H1 a xs ∧ R (ItzTS K a z) H1
theorem pi_zipTS {X : Cx} {e e2 : Expr} {ta : TA} {p pos tpos : Pos} {elts : List Expr} {kk : Nat} (hg : Gl X "zip") (hm : X.mg "zip" = none) (ha : PA X [e, e2] ta)
    (hs : starEach [e, e2] X.env = (false, eval e X.env) :: starEach [e2] X.env := by rfl) (hpl : (backTo pos (starEach [e2] X.env)).any (·.1) = false := by rfl) :
    PI X (.Tuple elts kk tpos) (.Call (.Name "zip" p) [e, e2] [] pos) (iZipTS X.K ta) := by
  refine ⟨fun pins s σ H R I h => ?_⟩
  refine Call_ (ld_blt I hg hm PyProof.Rows.boot_zip (PyProof.Rows.callWith_type1 (thn (ha.run pos pins s σ H _ I h) fun us s1 ⟨vs, H1, I1, r1, q1⟩ => ?_) hs hpl))
  obtain ⟨a, xs, z, ex, hqx, q⟩ := q1
  subst ex
  cases r1 with
  | cons r rr =>
    cases rr with
    | cons r' rr =>
      cases rr
      cases r
      obtain ⟨tk, rfl⟩ := r'
      obtain ⟨its, rv, p1, _⟩ := I1.tuple hqx
      have la : a < s1.heap.objs.size := by
        obtain ⟨o, ho, _⟩ := p1
        exact Heap.lt_size ho
      refine zip_begins2 (begins_tuple a its.toArray) (begins_text z tk) p1 trivial fun h' hz hTI hTO h1 h2 hsz hk => wpAny_pyIter_zip hz ?_
      have I2 : Inv X pins σ H1 { s1 with heap := h' } := I1.kept (t' := s1.toks) hk
      refine ⟨s1.heap.objs.size + 4, [s1.heap.objs.size + 4, s1.heap.objs.size + 2, s1.heap.objs.size + 3, s1.heap.objs.size, s1.heap.objs.size + 1], _, _, H1, rfl, I2, turn_zipTS (tk := tk) (zip_sep2 (N := s1.heap.objs.size) (fp1 := [a]) (fp2 := []) (by simpa using la) (by simp)) (Nat.ne_of_lt la), ⟨hz, hTI, ⟨_, _, hTO⟩, ⟨_, h1, rfl, rfl⟩, ⟨_, h2, rfl, rfl⟩⟩, fun c hcm => ?_, q⟩
      have e' : c = s1.heap.objs.size + 4 ∨ c = s1.heap.objs.size + 2 ∨ c = s1.heap.objs.size + 3 ∨ c = s1.heap.objs.size ∨ c = s1.heap.objs.size + 1 := by simpa using hcm
      have hle : s1.heap.objs.size ≤ c := by
        rcases e' with z | z | z | z | z
        · rw [z]; exact Nat.le_add_right _ _
        · rw [z]; exact Nat.le_add_right _ _
        · rw [z]; exact Nat.le_add_right _ _
        · rw [z]; exact Nat.le_refl _
        · rw [z]; exact Nat.le_add_right _ _
      exact I1.fpOk hle (I1.hok.fresh hle)
/-- the pairs -/
def zipTS (xs : List Dt) (l : List Nat) : List Dt := (xs.zip l).map fun p => Dt.tup [p.1, .str [p.2]]
theorem zipTS_len (xs : List Dt) (l : List Nat) : (zipTS xs l).length = min xs.length l.length := by simp [zipTS]
theorem zipTS_at {xs : List Dt} {l : List Nat} {i : Nat} {x : Dt} {c : Nat} (h1 : xs[i]? = some x) (h2 : l[i]? = some c) : (zipTS xs l)[i]? = some (.tup [x, .str [c]]) := by
  unfold zipTS
  have e : (xs.zip l)[i]? = some (x, c) := List.getElem?_zip_eq_some.mpr ⟨h1, h2⟩
  rw [List.getElem?_map, e] <;> rfl
theorem ei_zipTS {K : PySem.W.Frag} {σ : L2.St} {H : Hp} {ta tb : TE} {xs : List Dt} {l : List Nat} (ha : EvD ta σ H (.tup xs)) (hb : EvD tb σ H (.str l)) : EvI (iZipTS K (tCons ta (tCons tb tNil))) σ H (fun ys => ys = zipTS xs l) := fun H1 e R q =>
  ha H1 e _ fun v d H2 e2 c k => hb H2 (e.trans e2) _ fun v' d' H3 e3 c' k' => by
    subst c c'
    obtain ⟨a, vs, rfl, h1, k1⟩ := dq_tup k
    cases k'
    have h3 : H3 a = some (.tup vs) := e3 _ _ h1
    have hl := k1.len
    refine ⟨a, vs, _, rfl, sqT_of h3, q _ _ H3 (e2.trans e3) rfl ⟨fun i H4 hi e4 => ?_, fun H4 e4 => ?_, fun i H4 v H5 hi e4 y => ?_⟩⟩
    · rw [zipTS_len] at hi
      have i1 : i < vs.length := by omega
      have i2 : i < l.length := by omega
      exact ⟨vs, vs[i], l[i], sqT_of (e4 _ _ h3), by simp [i1], by simpa [S] using i2⟩
    · exact ⟨vs, sqT_of (e4 _ _ h3), by rw [zipTS_len, hl] <;> rfl⟩
    · obtain ⟨T, x, c, rfl, hT, rfl, y, yc⟩ := y
      have e5 := y vs (sqT_of (e4 _ _ h3))
      obtain ⟨d, e6, e7⟩ := k1.get e5
      have e8 : l[i]? = some c := by
        have z : (S l).cps[i]? = some c := yc
        rw [← Array.getElem?_toList] at z
        exact z
      have hT2 : H3 T = none := Evl.fresh_back e4 hT
      refine ⟨_, upd H3 T (.tup [x, .str ⟨#[c]⟩]), zipTS_at e6 e8, Ex.new hT, Ex.new hT2, ex_upd e4, .tup upd_same (.cons (e7.mono (e3.trans (Ex.new hT2))) (.cons (.str [c]) .nil)), fun b z1 z2 => ?_⟩
      rw [upd_ne (fun z => z2 (by rw [z]; exact hT))]
      exact z1
end FW
set_option maxRecDepth 100000
set_option maxHeartbeats 4000000
/-! # FM0: the book in plain Lean -/
namespace FW
structure Ln where
  p0 : List Nat
  p1 : List Nat
  p2 : List Nat
  p3 : List Nat
  pc : List Nat
  cut : List Nat
def Ln.d (l : Ln) : Dt := .tup [.str l.p0, .str l.p1, .str l.p2, .str l.p3, .str l.pc, .str l.cut]
def takesL (p : List Nat) (c : Nat) : Bool := decide (p = [46]) || decide (c ∈ p)
def fitsL (l : Ln) (r : List Nat) (k : Nat) : Bool := takesL l.pc k && ([l.p0, l.p1, l.p2, l.p3].zip r).all fun p => takesL p.1 p.2
def lineAt (ls : List Ln) (r : List Nat) (k : Nat) : Option Nat := ls.findIdx? fun l => fitsL l r k
def cutAt (ls : List Ln) (r : List Nat) (k : Nat) : List Nat := ((lineAt ls r k).bind fun i => ls[i]?).elim [] Ln.cut
def okCut (c : List Nat) : Prop := c = [] ∨ ∃ o x y, c = [o, x, y]
def partsL (r c : List Nat) : List (List Nat) := match r, c with
  | [n, e, s, w], [o, x, y] => if o = 124 then [[n, x, s, w], [n, e, s, y]] else [[n, e, x, w], [y, e, s, w]]
  | r, _ => [r]
def is4 (r : List Nat) : Prop := ∃ n e s w, r = [n, e, s, w]
structure Spec where
  fc : List Nat
  ct : List Nat
  ls : List Ln
def Spec.d (s : Spec) : Dt := .lst [.str s.fc, .str s.ct, .lst (s.ls.map Ln.d)]
structure Spec.ok0 (s : Spec) : Prop where
  cuts : ∀ l ∈ s.ls, okCut l.cut
  len : s.ls.length ≤ 100
def natD (o : Option Nat) : Dt := match o with
  | none => .non
  | some i => .int (i : Int)
def dstr (l : List Nat) : Dt := .str l
theorem cutAt_ok {ls : List Ln} (h : ∀ l ∈ ls, okCut l.cut) (r : List Nat) (k : Nat) : okCut (cutAt ls r k) := by
  unfold cutAt
  cases e : (lineAt ls r k).bind fun i => ls[i]? with
  | none => exact .inl rfl
  | some l =>
    obtain ⟨i, _, e2⟩ := Option.bind_eq_some_iff.mp e
    exact h l (List.mem_of_getElem? e2)
end FW
set_option maxRecDepth 100000
set_option maxHeartbeats 4000000
/-! # FQ: short forms -/
namespace FW
open PySem L2
open Evl (Ex Ex.refl Ex.trans Ex.new Ex.mut EvT)
section
variable {K : PySem.W.Frag} {σ : St} {H H' : Hp} {ta tb tc te tx tl : TE} {t u : TT} {C A B : Dt → Prop}
theorem xv {i : Nat} {v : V} {d : Dt} (k : Dq H v d) (h : σ[i]? = some (some v) := by rfl) : EvD (tVar i) σ H d := ed_var h k
theorem xi {a c : Dt} {i : Int} (ha : EvD ta σ H a) (h : ixD a i = some c := by rfl) (ok : okL a := by first | exact trivial | exact Nat.le_of_ble_eq_true rfl | simp [okL]) : EvD (tOp (rIxU K) ta (tC (.int i))) σ H c := ed_ix ha ed_int h ok
theorem xa {a b c : Dt} (ha : EvD ta σ H a) (hb : EvD tb σ H b) (h : addD a b = some c := by rfl) (ok : okL c := by first | exact trivial | exact Nat.le_of_ble_eq_true rfl | simp [okL]) : EvD (tOp rAddU ta tb) σ H c := ed_add ha hb h ok
theorem xl {a : Dt} {n : Nat} (ha : EvD ta σ H a) (h : lenD a = some n := by rfl) (ok : okL a := by first | exact trivial | exact Nat.le_of_ble_eq_true rfl | simp [okL]) : EvD (tCB (rLenU K) (tCons ta tNil)) σ H (.int (n : Int)) := ed_len ha h ok
theorem eo_i {i : Int} : EvO (tPart (tC (.int i))) σ H (some i) := eo_some ed_int
theorem xs {a c : Dt} {lo hi : Option Int} {tl th : TO} (ha : EvD ta σ H a) (hl : EvO tl σ H lo) (hh : EvO th σ H hi) (h : slD a lo hi = some c := by rfl) (ok : okL a := by first | exact trivial | exact Nat.le_of_ble_eq_true rfl | simp [okL]) : EvD (tSl (rSlU K) ta tl th) σ H c := ed_sl ha hl hh h ok
theorem xq {a b : Dt} (ha : EvD ta σ H a) (hb : EvD tb σ H b) (h : scD a b = true := by rfl) : EvD (tOp rEq ta tb) σ H (.bl (eqS a b)) := ed_eq ha hb h
theorem xn {a b : Dt} (ha : EvD ta σ H a) (hb : EvD tb σ H b) (h : scD a b = true := by rfl) : EvD (tOp rNe ta tb) σ H (.bl (!eqS a b)) := ed_ne ha hb h
theorem tq {a b : Dt} (ha : EvD ta σ H a) (hb : EvD tb σ H b) (h : scD a b = true := by rfl) : EvB (tB (tOp rEq ta tb)) σ H (eqS a b) := et_B (ed_eq ha hb h)
theorem tn {a b : Dt} (ha : EvD ta σ H a) (hb : EvD tb σ H b) (h : scD a b = true := by rfl) : EvB (tB (tOp rNe ta tb)) σ H (!eqS a b) := et_B (ed_ne ha hb h)
theorem a1 (ha : EvD ta σ H a) : EvAD (tCons ta tNil) σ H [a] := ad_cons ha ad_nil
theorem a2 (ha : EvD ta σ H a) (hb : EvD tb σ H b) : EvAD (tCons ta (tCons tb tNil)) σ H [a, b] := ad_cons ha (a1 hb)
theorem a3 (ha : EvD ta σ H a) (hb : EvD tb σ H b) (hc : EvD tc σ H c) : EvAD (tCons ta (tCons tb (tCons tc tNil))) σ H [a, b, c] := ad_cons ha (a2 hb hc)
theorem a4 (ha : EvD ta σ H a) (hb : EvD tb σ H b) (hc : EvD tc σ H c) (hd : EvD te σ H d) : EvAD (tCons ta (tCons tb (tCons tc (tCons te tNil)))) σ H [a, b, c, d] := ad_cons ha (a3 hb hc hd)
theorem xL {ta : TA} {ds : List Dt} (h : EvAD ta σ H ds) (hl : ds.length ≤ 100000 := by first | exact Nat.le_of_ble_eq_true rfl | simp) : EvD (tLst ta) σ H (.lst ds) := ed_lst h hl
theorem xT {ta : TA} {ds : List Dt} (h : EvAD ta σ H ds) (hl : ds.length ≤ 100000 := by first | exact Nat.le_of_ble_eq_true rfl | simp) : EvD (tTup ta) σ H (.tup ds) := ed_tup h hl
variable {D : Ends} {tu tw tz : TS}
theorem rtD {d : Dt} {H0 : Hp} (h : EvD te σ H d) (e : Ex H0 H) (kr : ∀ v d' H2, Ex H0 H2 → d' = d → Dq H2 v d' → D.rt v H2) : tRet te D σ H := g_ret (C := fun d' => d' = d) h fun v d' H1 e1 c k => kr v d' H1 (e.trans e1) c k
theorem rtC {H0 : Hp} (h : EvC te σ H C) (e : Ex H0 H) (kr : ∀ v d' H2, Ex H0 H2 → C d' → Dq H2 v d' → D.rt v H2) : tRet te D σ H := g_ret h fun v d' H1 e1 c k => kr v d' H1 (e.trans e1) c k
theorem g_asgS {i : Nat} {d : Dt} (h : EvD te σ H d) (k : ∀ v H1, Ex H H1 → Dq H1 v d → D.nx (σ.set i (some v)) H1) : tAsg te (gName i) D σ H := h H (Ex.refl H) _ fun v d' H1 e c dq => by
  subst c
  exact k v H1 e dq
theorem g_parS {i j : Nat} (ha : EvC ta σ H A) (hb : EvC tb σ H B) (k : ∀ v w a b H1, Ex H H1 → A a → B b → Dq H1 v a → Dq H1 w b → D.nx ((σ.set i (some v)).set j (some w)) H1) : tPar i j (tCons ta (tCons tb tNil)) D σ H :=
  ha H (Ex.refl H) _ fun v a H1 e1 ca dv => hb H1 e1 _ fun w b H2 e2 cb dw => ⟨v, w, rfl, k v w a b H2 (e1.trans e2) ca cb (dv.mono e2) dw⟩
/-- (a, b, c, d) = (e1, ..), by a tuple -/
theorem g_tup4 {i j l m : Nat} {a b c d : Dt} (ha : EvD ta σ H a) (hb : EvD tb σ H b) (hc : EvD tc σ H c) (hd : EvD te σ H d)
    (k : ∀ v w x y H1, Ex H H1 → Dq H1 v a → Dq H1 w b → Dq H1 x c → Dq H1 y d → tz D ((((σ.set i (some v)).set j (some w)).set l (some x)).set m (some y)) H1) :
    tSeq (tAsg (tTup (tCons ta (tCons tb (tCons tc (tCons te tNil))))) (gTup K 4 (gCons (gName i) (gCons (gName j) (gCons (gName l) (gCons (gName m) gNil)))))) tz D σ H := by
  have z := xT (a4 ha hb hc hd) (by simp) H (Ex.refl H)
  refine z (fun v H' => gTup K 4 _ v σ H' (fun σ H => tz D σ H)) fun v d' H2 e2 ed kk => ?_
  subst ed
  obtain ⟨p, xs, rfl, hp, kp⟩ := dq_tup kk
  obtain ⟨v1, v2, v3, v4, rfl, d1, d2, d3, d4⟩ := dqa4 kp
  exact ⟨p, _, rfl, sqT_of hp, rfl, v1, [v2, v3, v4], rfl, v2, [v3, v4], rfl, v3, [v4], rfl, v4, [], rfl, rfl, k v1 v2 v3 v4 H2 e2 d1 d2 d3 d4⟩
end
theorem all_str {l : List (List Nat)} : (l.map Dt.str) = l.map dstr := rfl
end FW
set_option maxRecDepth 100000
set_option maxHeartbeats 4000000
/-! # FT2: methods, fields, the book in the heap -/
namespace FW
open PySem L2
open Evl (Ex Ex.refl Ex.trans Ex.new Ex.mut EvT)
/-- a method of a class of the module -/
structure MefAt (K : PySem.W.Frag) (Cc : Addr) (x q : Str) (st : Stmt) : Prop where
  ex : ∃ f fd, Fun K x q st f fd ∧ Meth K Cc x f
structure Mal (P : Program) (w : World) (K : PySem.W.Frag) (mg : Str → Option Value) (base : Heap) (CX : CXT) (k : Nat) (Cc : Addr) (x : Str) (ps : List Str) (sp : Sp) : Prop where
  ex : ∃ f fd, Meth K Cc x f ∧ FnOk P w K mg base CX k f fd ps sp ∧ Binds K fd ps []
section
variable {X : Cx} {e a b c : Expr} {es : List Expr} {ta te tb : TE} {t : TA} {p pos apos p1 p2 : Pos}
theorem pe_mcal {CX : CXT} {k j : Nat} {Cc : Addr} {o : Expr} {m : Str} {ps : List Str} {sp : Sp} {E : XK} {pl : Sem Bool} (c : Cls X.K Cc) (M : Mal X.prog X.w X.K X.mg X.base CX k Cc m ps sp) (hr : Room j X.A) (hx : Passes CX X E) (he : PE X o ta) (ha : PA X (e :: es) t) (hk : k ≤ j := by decide)
    (hst : starEach (e :: es) X.env = (false, eval e X.env) :: starEach es X.env := by rfl) (hpl : (backTo pos (starEach es X.env)).any (·.1) = false := by rfl)
    (ht : eval (.Call (.Attribute o m apos) (e :: es) [] pos) X.env = (do
      let ov ← eval o X.env
      standAt apos.atName
      let (f, first) ← holding [ov] (getMethod ov m pl)
      callWith pos f first (backTo pos (starEach (e :: es) X.env)) (backToKw pos (keywordEach [] X.env))) := by rfl) : PE X (.Call (.Attribute o m apos) (e :: es) [] pos) (tMeth Cc m sp [] E ta t) := by
  obtain ⟨f, fd, hm, F, hb⟩ := M.ex
  exact pe_meth he c hm F (hr.mono hk) hb .nil hx ha hst hpl ht
end
section
variable {P : Program} {w : World} {K : PySem.W.Frag} {mg : Str → Option Value} {base : Heap}
theorem mal_mk {CX : CXT} {k : Nat} {Cc : Addr} {x q : Str} {ps : List Str} {sp : Sp} {st : Stmt} (F : MefAt K Cc x q st)
    (h : ∀ f fd, Fun K x q st f fd → FnOk P w K mg base CX k f fd ps sp)
    (hb : ∀ (kV doc pm : Value) (an : Option Addr) (cdv ct : Value) (us : List Value), us.length = ps.length → bindArgs (PySem.W.fnOf x q (defArgs st) (defBody st) (defScope st) .none kV doc pm an cdv ct) ⟨us, []⟩ = pure (ps.zip us)) : Mal P w K mg base CX k Cc x ps sp := by
  obtain ⟨f, fd, F, hm⟩ := F.ex
  exact ⟨f, fd, hm, h f fd F, F.binds hb⟩
theorem mal_of {k : Nat} {Cc : Addr} {x q : Str} {N ps : List Str} {R : Hp → List Dt → (Dt → Prop) → Prop} {st : Stmt} (S : FnScope N ps (defScope st)) (F : MefAt K Cc x q st)
    (len : ∀ H ds C, R H ds C → ds.length = ps.length)
    (hb : ∀ (kV doc pm : Value) (an : Option Addr) (cdv ct : Value) (us : List Value), us.length = ps.length → bindArgs (PySem.W.fnOf x q (defArgs st) (defBody st) (defScope st) .none kV doc pm an cdv ct) ⟨us, []⟩ = pure (ps.zip us))
    (hbody : ∀ (f cdv : _) (A : Around) (outer : List Env) (s : Shared) (H : Hp), Room k (A.deeper (PyProof.Rows.envOfC q (defScope st) s.heap.objs.size f cdv)) → ∀ (E : XK), ∃ t, PSs (cxOf CX0 P w K mg base N q (defScope st) f cdv A outer s H E).nox (defBody st) t ∧
      ∀ (ds : List Dt) (C : Dt → Prop) (vs : List V), DqA H vs ds → R H ds C → ∀ D : Ends, (∀ v d H2, Ex H H2 → C d → Dq H2 v d → D.rt v H2) → (∀ σ H2, Ex H H2 → C .non → D.nx σ H2) → t D (start N vs) H) : Mal P w K mg base CX0 (k + 1) Cc x ps (spR R) := by
  refine mal_mk F (fun f fd F => ?_) hb
  refine F.ok S (fun vs H Q E h => ?_) (fun cdv A outer s H vs Q E hr h => ?_)
  · obtain ⟨ds, C, hd, hR, _⟩ := h
    rw [hd.len]
    exact len H ds C hR
  · obtain ⟨ds, C, hd, hR, k⟩ := h
    obtain ⟨t, ht, hq⟩ := hbody f cdv A outer s H hr E
    exact ⟨t, ht, hq ds C vs hd hR _ (fun v d H2 e c q => k v d H2 e c q) fun σ H2 e c => k .non .non H2 e c .non⟩
end
/-! ### fields -/
section
variable {K : PySem.W.Frag} {σ : St} {H H' : Hp} {ta tb tc te tx tl : TE} {t u : TT} {C A B : Dt → Prop}
theorem ed_fld {a Cc dx : Addr} {fs : List (Str × V)} {f : Str} {v : V} {d : Dt} (ha : EvD ta σ H (.obj a)) (hi : H a = some (.ins Cc dx fs)) (c : Cls K Cc) (n : NoAttr K Cc f) (hl : fs.lookup f = some v) (hd : Dq H v d) : EvD (tFld K ta f) σ H d := fun H1 e Q q =>
  ha H1 e _ fun x d' H2 e2 ed k => by
    subst ed
    cases k
    exact ⟨a, Cc, dx, fs, v, rfl, (e.trans e2) _ _ hi, c, n, hl, q v d H2 e2 rfl (hd.mono (e.trans e2))⟩
end
/-- the class of the books -/
structure BkCls (K : PySem.W.Frag) (Cb : Addr) : Prop where
  cls : Cls K Cb
  faces : NoAttr K Cb "faces"
  cutters : NoAttr K Cb "cutters"
  own_lines : NoAttr K Cb "own_lines"
def bkF (sp : Spec) (v : V) : List (Str × V) := [("faces", .str (S sp.fc)), ("cutters", .str (S sp.ct)), ("own_lines", v)]
def BkAt (Cb a : Addr) (sp : Spec) (H : Hp) : Prop := ∃ dx v, H a = some (.ins Cb dx (bkF sp v)) ∧ Dq H v (.lst (sp.ls.map Ln.d))
theorem BkAt.mono {Cb a : Addr} {sp : Spec} {H H' : Hp} (h : BkAt Cb a sp H) (e : Ex H H') : BkAt Cb a sp H' := by
  obtain ⟨dx, v, h1, h2⟩ := h
  exact ⟨dx, v, e _ _ h1, h2.mono e⟩
section
variable {K : PySem.W.Frag} {σ : St} {H H' : Hp} {ta tb tc te tx tl : TE} {Cb a : Addr} {sp : Spec}
theorem ed_faces (B : BkCls K Cb) (hb : BkAt Cb a sp H) (ha : EvD ta σ H (.obj a)) : EvD (tFld K ta "faces") σ H (.str sp.fc) := by
  obtain ⟨dx, v, h1, h2⟩ := hb
  exact ed_fld (v := .str (S sp.fc)) ha h1 B.cls B.faces (by rfl) (.str _)
theorem ed_cutters (B : BkCls K Cb) (hb : BkAt Cb a sp H) (ha : EvD ta σ H (.obj a)) : EvD (tFld K ta "cutters") σ H (.str sp.ct) := by
  obtain ⟨dx, v, h1, h2⟩ := hb
  exact ed_fld (v := .str (S sp.ct)) ha h1 B.cls B.cutters (by rfl) (.str _)
theorem ed_lines (B : BkCls K Cb) (hb : BkAt Cb a sp H) (ha : EvD ta σ H (.obj a)) : EvD (tFld K ta "own_lines") σ H (.lst (sp.ls.map Ln.d)) := by
  obtain ⟨dx, v, h1, h2⟩ := hb
  exact ed_fld (v := v) ha h1 B.cls B.own_lines (by rfl) h2
theorem ed_mb {R : Hp → List Dt → (Dt → Prop) → Prop} {ta : TA} {to : TE} {ds : List Dt} {m : Str} {C : Dt → Prop} {E : XK} (hb : BkAt Cb a sp H) (hm : m ∉ [("faces" : Str), "cutters", "own_lines"]) (ho : EvD to σ H (.obj a)) (h : EvAD ta σ H ds) (hR : ∀ H1, Ex H H1 → R H1 (.obj a :: ds) C) :
    EvC (tMeth Cb m (spR R) [] E to ta) σ H C := by
  obtain ⟨dx, v, h1, h2⟩ := hb
  refine ed_meth ho h1 ?_ h hR
  simp only [List.mem_cons, List.not_mem_nil, or_false, not_or] at hm
  obtain ⟨m1, m2, m3⟩ := hm
  have f : ∀ {x : Str}, m ≠ x → (m == x) = false := fun h => by simpa using h
  unfold bkF
  rw [List.lookup_cons, f m1, List.lookup_cons, f m2, List.lookup_cons, f m3] <;> rfl
end
end FW
set_option maxRecDepth 100000
set_option maxHeartbeats 4000000
/-! # FJ: joining and splitting at one sign, in plain lists -/
namespace FW
open PySem L2
open Evl (Ex Ex.refl Ex.trans Ex.new Ex.mut EvT)
def joinC (c : Nat) : List (List Nat) → List Nat
  | [] => []
  | [x] => x
  | x :: y :: r => x ++ c :: joinC c (y :: r)
theorem join_C (c : Nat) : ∀ xs : List (List Nat), Txt.join (S [c]) (xs.map S) = S (joinC c xs) := by
  have h : ∀ xs : List (List Nat), Str.join (S [c]) (xs.map S) = S (joinC c xs) := by
    intro xs
    induction xs with
    | nil => rfl
    | cons x r ih =>
      cases r with
      | nil => rfl
      | cons y r =>
        show S x ++ S [c] ++ Str.join (S [c]) ((y :: r).map S) = _
        rw [ih, S_app, S_app, List.append_assoc]
        rfl
  intro xs
  show Builtin.Str.glued _ _ = _
  rw [StrLaws.glued_eq_join]
  exact h xs
theorem join_0 : ∀ xs : List (List Nat), Txt.join (S []) (xs.map S) = S xs.flatten := by
  have h : ∀ xs : List (List Nat), Str.join (S []) (xs.map S) = S xs.flatten := by
    intro xs
    induction xs with
    | nil => rfl
    | cons x r ih =>
      cases r with
      | nil =>
        show S x = S (x ++ [])
        rw [List.append_nil]
      | cons y r =>
        show S x ++ S [] ++ Str.join (S []) ((y :: r).map S) = _
        rw [ih, S_app, S_app, List.append_nil]
        rfl
  intro xs
  show Builtin.Str.glued _ _ = _
  rw [StrLaws.glued_eq_join]
  exact h xs
theorem cut_uniq {c : Nat} : ∀ {x y a b : List Nat}, c ∉ x → c ∉ y → x ++ c :: a = y ++ c :: b → x = y ∧ a = b
  | [], [], a, b, _, _, h => by simpa using h
  | [], y :: ys, a, b, _, hy, h => by
    simp at h
    exact absurd (h.1 ▸ List.mem_cons_self ..) hy
  | x :: xs, [], a, b, hx, _, h => by
    simp at h
    exact absurd (h.1 ▸ List.mem_cons_self ..) hx
  | x :: xs, y :: ys, a, b, hx, hy, h => by
    simp at h
    obtain ⟨rfl, h⟩ := h
    obtain ⟨rfl, h2⟩ := cut_uniq (fun z => hx (List.mem_cons_of_mem _ z)) (fun z => hy (List.mem_cons_of_mem _ z)) h
    exact ⟨rfl, h2⟩
theorem join_uniq {c : Nat} : ∀ {xs ys : List (List Nat)}, xs ≠ [] → ys ≠ [] → (∀ x ∈ xs, c ∉ x) → (∀ y ∈ ys, c ∉ y) → joinC c xs = joinC c ys → xs = ys
  | [], _, h, _, _, _, _ => absurd rfl h
  | _, [], _, h, _, _, _ => absurd rfl h
  | [x], [y], _, _, _, _, e => by
    have e : x = y := e
    rw [e]
  | [x], y :: z :: r, _, _, hx, _, e => by
    have e : x = y ++ c :: joinC c (z :: r) := e
    have := hx x (List.mem_singleton_self _)
    rw [e] at this
    simp at this
  | x :: z :: r, [y], _, _, _, hy, e => by
    have e : x ++ c :: joinC c (z :: r) = y := e
    have := hy y (List.mem_singleton_self _)
    rw [← e] at this
    simp at this
  | x :: z :: r, y :: u :: s, _, _, hx, hy, e => by
    obtain ⟨rfl, e2⟩ := cut_uniq (hx x (List.mem_cons_self ..)) (hy y (List.mem_cons_self ..)) e
    rw [join_uniq (xs := z :: r) (ys := u :: s) (by simp) (by simp) (fun q h => hx q (List.mem_cons_of_mem _ h)) (fun q h => hy q (List.mem_cons_of_mem _ h)) e2]
def splitC (c : Nat) (l : List Nat) : List (List Nat) := (Txt.split (S l) (S [c])).map fun z => z.cps.toList
theorem split_C (c : Nat) (l : List Nat) : Txt.split (S l) (S [c]) = (splitC c l).map S := by
  unfold splitC
  rw [List.map_map]
  have : (S ∘ fun z : Str => z.cps.toList) = id := by
    funext z
    rfl
  rw [this, List.map_id]
theorem splitC_free {c : Nat} {l : List Nat} : ∀ p ∈ splitC c l, c ∉ p := by
  intro p hp
  unfold splitC at hp
  obtain ⟨z, hz, rfl⟩ := List.mem_map.mp hp
  exact StrLaws.split_free (S l) c z hz
theorem splitC_ne {c : Nat} {l : List Nat} : splitC c l ≠ [] := by
  intro h
  have := PyProof.Rows.split_pos (S l) (S [c])
  rw [split_C, h] at this
  simp at this
theorem join_splitC (c : Nat) (l : List Nat) : joinC c (splitC c l) = l := by
  have h := StrLaws.join_split (S l) (S [c])
  rw [← StrLaws.glued_eq_join] at h
  have h2 : Txt.join (S [c]) (Txt.split (S l) (S [c])) = S l := h
  rw [split_C, join_C] at h2
  exact S_inj h2
theorem split_joinC {c : Nat} {xs : List (List Nat)} (h : xs ≠ []) (hx : ∀ x ∈ xs, c ∉ x) : splitC c (joinC c xs) = xs :=
  join_uniq splitC_ne h splitC_free hx (join_splitC c _)
theorem joinC_len (c : Nat) : ∀ xs : List (List Nat), (joinC c xs).length ≤ (xs.map List.length).sum + xs.length
  | [] => Nat.zero_le _
  | [x] => by
    show x.length ≤ _
    simp only [List.map_cons, List.map_nil, List.sum_cons, List.sum_nil, List.length_cons, List.length_nil]
    omega
  | x :: y :: r => by
    have := joinC_len c (y :: r)
    show (x ++ c :: joinC c (y :: r)).length ≤ _
    simp only [List.length_append, List.length_cons, List.map_cons, List.sum_cons] at this ⊢
    omega
section
variable {K : PySem.W.Frag} {σ : St} {H H' : Hp} {to te : TE}
def rSplit : V → List V → Hp → VK → Prop := fun x xs H Q => ∃ a b, x = .str a ∧ xs = [.str b] ∧ (b.length == 0) = false ∧ a.length + 2 ≤ sizeLine ∧ rNewStrs (Txt.split a b) H Q
def rJoin (K : PySem.W.Frag) : V → List V → Hp → VK → Prop := fun x xs H Q => ∃ a p, ∃ ys : List Str, x = .str a ∧ xs = [.ref p] ∧ (SqL K H p (ys.map V.str) ∨ SqT K H p (ys.map V.str)) ∧ (ys.map (·.length)).sum + ys.length * a.length ≤ 16777216 ∧ Q (.str (Txt.join a ys)) H
theorem dqa_strs {H : Hp} : ∀ (xs : List (List Nat)), DqA H ((xs.map S).map V.str) (xs.map Dt.str)
  | [] => .nil
  | x :: xs => .cons (.str x) (dqa_strs xs)
theorem strs_of {H : Hp} : ∀ {vs : List V} {xs : List (List Nat)}, DqA H vs (xs.map Dt.str) → vs = (xs.map S).map V.str
  | [], [], _ => rfl
  | [], _ :: _, h => by cases h
  | _ :: _, [], h => by cases h
  | v :: vs, x :: xs, h => by
    cases h with
    | cons h k =>
      cases h
      rw [List.map_cons, List.map_cons, strs_of k]
theorem ed_split {l : List Nat} {c : Nat} (ho : EvD to σ H (.str l)) (he : EvD te σ H (.str [c])) (hl : l.length ≤ 100000) : EvD (tM1 rSplit to te) σ H (.lst ((splitC c l).map Dt.str)) := fun H1 e Q q =>
  ho H1 e _ fun x d H2 e2 ed k => by
    subst ed
    cases k
    refine ⟨⟨_, rfl⟩, he H2 (e.trans e2) _ fun y d' H3 e3 ed' k' => ?_⟩
    subst ed'
    cases k'
    refine ⟨_, _, rfl, rfl, rfl, ?_, fun p hp => ?_⟩
    · rw [S_len]
      exact Nat.le_trans (Nat.add_le_add_right hl 2) (by decide)
    · rw [split_C]
      exact q _ _ _ ((e2.trans e3).trans (Ex.new hp)) rfl (.lst upd_same (dqa_strs _))
theorem sum_map_S (xs : List (List Nat)) : ((xs.map S).map (·.length)).sum = (xs.map List.length).sum := by
  rw [List.map_map]
  rfl
theorem ed_joinC {c : Nat} {xs : List (List Nat)} (ho : EvD to σ H (.str [c])) (he : EvD te σ H (.lst (xs.map Dt.str))) (hl : (xs.map List.length).sum + xs.length ≤ 100000) : EvD (tM1 (rJoin K) to te) σ H (.str (joinC c xs)) := fun H1 e Q q =>
  ho H1 e _ fun x d H2 e2 ed k => by
    subst ed
    cases k
    refine ⟨⟨_, rfl⟩, he H2 (e.trans e2) _ fun y d' H3 e3 ed' k' => ?_⟩
    subst ed'
    obtain ⟨p, vs, rfl, h1, k1⟩ := dq_lst k'
    rw [strs_of k1] at h1
    refine ⟨_, p, xs.map S, rfl, rfl, .inl (sqL_of h1), ?_, ?_⟩
    · rw [sum_map_S, List.length_map]
      have : (S [c]).length = 1 := rfl
      rw [this]
      omega
    · rw [join_C]
      exact q _ _ _ (e2.trans e3) rfl (.str _)
theorem ed_join0 {xs : List (List Nat)} (ho : EvD to σ H (.str [])) (he : EvD te σ H (.lst (xs.map Dt.str))) (hl : (xs.map List.length).sum ≤ 100000) : EvD (tM1 (rJoin K) to te) σ H (.str xs.flatten) := fun H1 e Q q =>
  ho H1 e _ fun x d H2 e2 ed k => by
    subst ed
    cases k
    refine ⟨⟨_, rfl⟩, he H2 (e.trans e2) _ fun y d' H3 e3 ed' k' => ?_⟩
    subst ed'
    obtain ⟨p, vs, rfl, h1, k1⟩ := dq_lst k'
    rw [strs_of k1] at h1
    refine ⟨_, p, xs.map S, rfl, rfl, .inl (sqL_of h1), ?_, ?_⟩
    · rw [sum_map_S, List.length_map]
      have : (S []).length = 0 := rfl
      rw [this]
      omega
    · rw [join_0]
      exact q _ _ _ (e2.trans e3) rfl (.str _)
end
end FW
set_option maxRecDepth 100000
set_option maxHeartbeats 4000000
/-! # FR2: sorted(set(text)) of a text whose signs rise -/
namespace FW
open PySem PySem.Spec PyProof.Rows L2 PySem.Froz
open Evl (Ex Ex.refl Ex.trans Ex.new Ex.mut EvT)
section
variable {P : Program} {w : World} {A : Around} {E : Value → Shared → Prop} {s : Shared}
def KP (D : SD) (l : List Str) : Prop := (∀ e ∈ D.1.toList, ∃ k u, e.2 = Value.str k u) ∧ (D.1.toList.map fun e => strOf e.2).Perm l
def GoodT (D : SD) (led : Bool) : Prop := Ris D.2.2.place.toList ∧ D.2.2.led = led
theorem KP.perm {D D' : SD} {l : List Str} (K : KP D l) (p : D'.1.toList.Perm D.1.toList) : KP D' l := ⟨fun e he => K.1 e (p.mem_iff.mp he), (p.map _).trans K.2⟩
theorem tail_kp {ep : Nat} {es1 : Array (Int × Value)} {t2 : SetTable} {wd : Bool} {l : List Str} (K : KP (es1, ep, t2) l) : KP (tailTx ep es1 t2 wd) l := by
  unfold tailTx
  by_cases c : (!wd && t2.tooFull) = true
  · rw [if_pos c]
    exact K.perm (relayAll_perm t2 es1 _)
  · rw [if_neg c]
    exact K
theorem tail_good {ep : Nat} {es1 : Array (Int × Value)} {t2 : SetTable} {wd : Bool} {led : Bool} (G : GoodT (es1, ep, t2) led) : GoodT (tailTx ep es1 t2 wd) led := by
  unfold tailTx
  by_cases c : (!wd && t2.tooFull) = true
  · rw [if_pos c]
    exact ⟨relayAll_ris t2 es1 _, (relayAll_led t2 es1 _).trans G.2⟩
  · rw [if_neg c]
    exact G
theorem add_kp {D : SD} {l : List Str} {h : Int} {k : Str} {u : Tok} (K : KP D l) : KP (addTx h (.str k u) D) (k :: l) := by
  obtain ⟨es, ep, t⟩ := D
  have hp := layNew_perm t es h (.str k u)
  refine tail_kp (ep := ep) ?_
  rw [Array.toList_push] at hp
  refine ⟨fun e he => ?_, ?_⟩
  · rcases List.mem_append.mp (hp.mem_iff.mp he) with z | z
    · exact K.1 e z
    · rw [List.mem_singleton] at z
      rw [z]
      exact ⟨k, u, rfl⟩
  · refine (hp.map _).trans ?_
    rw [List.map_append]
    refine List.perm_append_comm.trans ?_
    exact K.2.cons k
theorem add_good {D : SD} {led : Bool} {h : Int} {v : Value} (G : GoodT D led) : GoodT (addTx h v D) led := by
  obtain ⟨es, ep, t⟩ := D
  have g1 := layNew_ris t es h v G.1
  have g2 := layNew_led t es h v
  have g3 : t.led = led := G.2
  refine tail_good (ep := ep) ?_
  show Ris (if (layNew t es h v).2.1.plain = true then { (layNew t es h v).2.1 with plain := false } else (layNew t es h v).2.1).place.toList ∧ (if (layNew t es h v).2.1.plain = true then { (layNew t es h v).2.1 with plain := false } else (layNew t es h v).2.1).led = led
  by_cases c : (layNew t es h v).2.1.plain = true
  · rw [if_pos c]
    exact ⟨g1, g2.trans g3⟩
  · rw [if_neg c]
    exact ⟨g1, g2.trans g3⟩
theorem run_kp : ∀ (cs : List Nat) (tk : Tok) (D : SD) (l : List Str), KP D l → KP (runD w cs tk D) ((cs.map sing).reverse ++ l)
  | [], _, _, _, K => K
  | c :: r, tk, D, l, K => by
    have z := run_kp r (tk + 2) _ _ (add_kp (h := hashStr w (sing c)) (k := sing c) (u := tk) K)
    rw [List.map_cons, List.reverse_cons, List.append_assoc]
    exact z
theorem run_good {led : Bool} : ∀ (cs : List Nat) (tk : Tok) (D : SD), GoodT D led → GoodT (runD w cs tk D) led
  | [], _, _, G => G
  | c :: r, tk, D, G => run_good r (tk + 2) _ (add_good G)
theorem run_tx : ∀ (cs : List Nat) (tk : Tok) (D : SD) (l : List Str), TxOk P w D l → TxOk P w (runD w cs tk D) ((cs.map sing).reverse ++ l)
  | [], _, _, _, K => K
  | c :: r, tk, D, l, K => by
    have z := run_tx r (tk + 2) _ _ (add_ok (k := sing c) tk K)
    rw [List.map_cons, List.reverse_cons, List.append_assoc]
    exact z
theorem sub_str_set : isSubtype (.type "str") (.type "set") = pure false := by rw [isSubtype_type]; kernel_rfl
theorem sub_str_frozenset : isSubtype (.type "str") (.type "frozenset") = pure false := by rw [isSubtype_type]; kernel_rfl
abbrev emptyD (w : World) : SD := (#[], 0, .fresh 0 0 (!w.params.followText "set-order"))
set_option maxHeartbeats 8000000 in
theorem call_set_txt {x : Str} {u : Tok} {Q : Value → Shared → Prop} (hh : A.handled = none) (hasc : x.cps.all (· < 128) = true) (nd : x.cps.toList.Nodup) (hb : x.cps.toList.length < 64)
    (h : ∀ (h' : Heap) (tk tk0 : Nat), h'.get? s.heap.objs.size = some (sObj "set" (runD w x.cps.toList tk0 (emptyD w))) → (∀ b o, s.heap.get? b = some o → h'.get? b = some o) → Q (.ref s.heap.objs.size) { s with heap := h', toks := tk }) :
    wpAny (model P w) A (call (.type "set") [.str x u]) Q E s := by
  obtain ⟨c, tl, hmro⟩ := F.called_set.mro
  have hmade := F.called_set.made
  have hsub := F.called_set.sub
  refine wpAny_call (codeAny_of_tree ?_)
  show wpAny _ _ (callAny (.type "set") _) _ _ _
  refine wpAny_pure ⟨Code.quiet_builtin _ (by decide +kernel), codeAny_builtin F.entry_type_call ?_⟩
  rw [Around.under_plain (weight_type_call_type "set" [.str x u] []) rfl]
  have h1 := F.called_set.notType
  have h2 := F.called_set.canCreate
  have hct := F.typeCall_set_1 (.str x u)
  repeat (any_goals (first | assumption | wp_step))
  refine codeAny_mono (code_set_led1 (.str x u) (E := E) (Q₁ := fun obj s₁ => obj = .ref s.heap.objs.size ∧ s₁ = { s with heap := s.heap.push (sObj "set" (emptyD w)) }) ⟨rfl, rfl⟩) fun r s₁ hr => ?_
  cases r with
  | error e => exact hr
  | ok fl =>
    cases fl with
    | ret obj =>
      obtain ⟨rfl, rfl⟩ := hr
      have hS : (s.heap.push (sObj "set" (emptyD w))).get? s.heap.objs.size = some (sObj "set" (emptyD w)) := Heap.get?_push_size _ rfl
      have hT : Shared.TypeIs { s with heap := s.heap.push (sObj "set" (emptyD w)) } (.ref s.heap.objs.size) "set" := ⟨_, hS, rfl⟩
      have hli := F.called_set.init.lookup
      have hbi := F.called_set.init.bind (.ref s.heap.objs.size)
      repeat (any_goals (first | assumption | wp_step))
      refine codeAny_mono (codeAny_call_builtin (R := wants (fun r s₂ => r = .none ∧ ∃ h' tk tk0, s₂ = { s with heap := h', toks := tk } ∧ h'.get? s.heap.objs.size = some (sObj "set" (runD w x.cps.toList tk0 (emptyD w))) ∧
          (∀ b o, s.heap.get? b = some o → h'.get? b = some o)) E) F.called_set.init.plain F.entry_set_init (check_set_init_1 hT ?_)) fun r₂ s₂ hr₂ => ?_
      · have hsls := sub_str_set
        have hslf := sub_str_frozenset
        have hne : (Value.type "str" == Value.type "dict") = false := by decide
        unfold Builtin.«set.__init__» noKeywords Builtin.Frozenset.updateFrom
        generalize hPI : pyIter = PI
        wp_walk
        subst hPI
        have hz1 : (s.heap.push (sObj "set" (emptyD w))).objs.size = s.heap.objs.size + 1 := Heap.size_push ..
        have hit : strIterType x = "str_ascii_iterator" := by
          unfold strIterType
          rw [if_pos hasc]
        refine wpAny_pyIter_strU ?_
        rw [hit]
        refine wpAny_bind (wpAny_runValue ?_)
        have hg1 : ((s.heap.push (sObj "set" (emptyD w))).push (itObj x u 0)).get? s.heap.objs.size = some (sObj "set" (emptyD w)) := Heap.get?_push_of_some _ hS
        have hg2 : ((s.heap.push (sObj "set" (emptyD w))).push (itObj x u 0)).get? (s.heap.push (sObj "set" (emptyD w))).objs.size = some (itObj x u 0) := Heap.get?_push_size _ rfl
        have hne2 : s.heap.objs.size ≠ (s.heap.push (sObj "set" (emptyD w))).objs.size := by
          rw [hz1]
          exact Nat.ne_of_lt (Nat.lt_succ_self _)
        refine code_update (a := s.heap.objs.size) (it := (s.heap.push (sObj "set" (emptyD w))).objs.size) hne2 (T := "set") (x := x) (u := u) (by simp [hh]) x.cps.toList 0 (emptyD w) [] _ rfl hg1 hg2 (TxOk.nil (by rfl)) (fun c _ h => by cases h) nd (by show 0 + x.cps.toList.length < 4096; omega) ?_
        refine wpAny_pure ?_
        show wpAny _ _ (ret Value.none) _ _ _
        refine wpAny_pure ⟨rfl, _, _, s.toks, rfl, ?_, fun b o e => ?_⟩
        · exact Heap.get?_push_of_some _ (Heap.get?_push_of_some _ (PySem.Heap.get?_update_of_ne _ hne2.symm (get_upd _ hg1 rfl)))
        · have hb0 : b < s.heap.objs.size := Heap.lt_size e
          have hb1 : b ≠ s.heap.objs.size := Nat.ne_of_lt hb0
          have hb2 : b ≠ (s.heap.push (sObj "set" (emptyD w))).objs.size := by
            rw [hz1]
            exact Nat.ne_of_lt (Nat.lt_succ_of_lt hb0)
          exact Heap.get?_push_of_some _ (Heap.get?_push_of_some _ (PySem.Heap.get?_update_of_ne _ (Ne.symm hb2) (PySem.Heap.get?_update_of_ne _ (Ne.symm hb1) (Heap.get?_push_of_some _ (Heap.get?_push_of_some _ e)))))
      · cases r₂ with
        | error e => exact hr₂
        | ok fl₂ =>
          cases fl₂ with
          | ret r =>
            obtain ⟨rfl, h', tk, tk0, rfl, hS', hk'⟩ := hr₂
            repeat (any_goals (first | assumption | wp_step))
            exact h _ _ _ hS' hk'
          | _ => exact hr₂.elim
    | _ => exact hr.elim
theorem strs_are : ∀ (l : List Value), (∀ v ∈ l, ∃ k tk, v = Value.str k tk) → StrsAre l (l.map strOf)
  | [], _ => .nil
  | v :: l, h => by
    obtain ⟨k, tk, rfl⟩ := h v List.mem_cons_self
    exact .cons k tk (strs_are l fun u hu => h u (List.mem_cons_of_mem _ hu))
theorem sorted_setS {a : Addr} {D : SD} {l : List Str} {led : Bool} {Q : Value → Shared → Prop} (ho : s.heap.get? a = some (sObj "set" D)) (F : TxOk P w D l) (K : KP D l) (G : GoodT D led) (hled : w.params.followText "set-order" = true ∨ led = true) (hh : A.handled = none) (h64 : l.length < 64)
    (hQ : ∀ s' p (out : Array Value) (c : Nat) (ss : List Str), (∀ b o, s.heap.get? b = some o → s'.heap.get? b = some o) → s'.gens = s.gens → s'.os = s.os → s.heap.objs.size ≤ p →
      s'.heap.get? p = some (seqObj "list" out c) → StrsAre out.toList ss → ss.Perm l → sortedS ss = true → Q (.ref p) s') :
    wpAny (model P w) A (call (.builtin "sorted") [.ref a]) Q E s := by
  obtain ⟨es, ep, t⟩ := D
  have hn : es.size = l.length := F.sz
  refine Calls.call_function_entry kind_sorted plain_sorted entry_sorted (args_sorted1 _) ?_
  unfold Builtin.«sorted»
  refine wpAny_bind (m := checkCount "sorted" 1 1 _) (wpAny_pure ?_)
  refine wpAny_bind (collect_set (A := A.in1) hh ⟨_, ho, rfl, rfl⟩ F.fit (by rw [hn]; show l.length < 4096; omega) G.1 (hled.imp id fun z => G.2.trans z) fun s1 vs k1 hz g1 o1 pm => ?_)
  have hvl : vs.length = l.length := by rw [pm.length_eq, List.length_map, Array.length_toList]; exact hn
  have hI : StrsAre vs (vs.map strOf) := strs_are vs fun v hv => by
    obtain ⟨e, he, q⟩ := List.mem_map.mp (pm.mem_iff.mp hv)
    obtain ⟨k, u, h1⟩ := K.1 e he
    exact ⟨k, u, by rw [← q]; exact h1⟩
  have pk : (vs.map strOf).Perm l := by
    have q := pm.map strOf
    rw [List.map_map] at q
    exact q.trans K.2
  refine wpAny_bind (wpAny_newList ?_ (by rw [hvl, sizeLine_eq]; omega))
  have hoL : (s1.heap.push (seqObj "list" vs.toArray 0)).get? s1.heap.objs.size = some (seqObj "list" vs.toArray 0) := Heap.get?_push_size _ rfl
  refine wpAny_bind (wpAny_holding (wpAny_call_entry slot_list_sort ⟨_, hoL, rfl⟩ entry_list_sort (list_sort_treeK strKind_oneLt hoL hI.keysOf (fun v₁ v₂ rest e => keyKind_strs (by rw [← e]; exact hI)) (by rw [hvl]; exact h64) fun st' a1 a2 => ⟨_, rfl, ?_⟩) (args_list_sort _)))
  obtain ⟨ss', h1, h2, h3⟩ := sorted_out_str hI a1 a2
  obtain ⟨c, hc⟩ := sortedHeap_at (vs := vs) (out := (arrOf st').map (·.2)) hoL
  refine wpAny_pure ⟨_, rfl, hQ _ s1.heap.objs.size _ c ss' (fun b u e => ?_) g1 o1 hz hc h1 (h2.trans pk) h3⟩
  have q := k1 b u e
  have hlt := Heap.lt_size q
  show (sortedHeap (s1.heap.push (seqObj "list" vs.toArray 0)) s1.heap.objs.size vs _).get? b = some u
  rw [sortedHeap_old (Nat.ne_of_lt hlt) (by rw [size_push']; exact Nat.lt_succ_of_lt hlt)]
  exact Heap.get?_push_of_some _ q
/-! ### what is sorted of signs that rise -/
theorem sing_lt {a b : Nat} (h : ltCps (sing b).cps.toList (sing a).cps.toList = false) : a ≤ b := by
  rw [show (sing b).cps.toList = [b] from rfl, show (sing a).cps.toList = [a] from rfl] at h
  by_cases e : b < a
  · simp [ltCps, e] at h
  · exact Nat.not_lt.mp e
theorem rising_pw : ∀ (p : Nat) (l : List Nat), risingS (sing p) (l.map sing) = true → (p :: l).Pairwise (· ≤ ·)
  | p, [], _ => by simp
  | p, x :: r, h => by
    have h' : (!ltCps (sing x).cps.toList (sing p).cps.toList && risingS (sing x) (r.map sing)) = true := h
    rw [Bool.and_eq_true] at h'
    have h1 : p ≤ x := sing_lt (by simpa using h'.1)
    have h2 := rising_pw x r h'.2
    refine List.pairwise_cons.mpr ⟨fun y hy => ?_, h2⟩
    rcases List.mem_cons.mp hy with z | z
    · rw [z]
      exact h1
    · exact Nat.le_trans h1 ((List.pairwise_cons.mp h2).1 y z)
theorem sorted_pw : ∀ (l : List Nat), sortedS (l.map sing) = true → l.Pairwise (· ≤ ·)
  | [], _ => List.Pairwise.nil
  | x :: r, h => rising_pw x r h
theorem sorted_sing {ss : List Str} {cs : List Nat} (hp : ss.Perm (cs.map sing)) (hs : sortedS ss = true) (hc : cs.Pairwise (· < ·)) : ss = cs.map sing := by
  have e : ss = (ss.map fun z => z.cps.toList.headD 0).map sing := by
    rw [List.map_map]
    have : ∀ z ∈ ss, (sing ∘ fun z : Str => z.cps.toList.headD 0) z = z := fun z hz => by
      obtain ⟨c, _, rfl⟩ := List.mem_map.mp (hp.mem_iff.mp hz)
      rfl
    exact (List.map_congr_left this |>.trans (List.map_id _)).symm
  have hp2 : (ss.map fun z => z.cps.toList.headD 0).Perm cs := by
    have z := hp.map fun z : Str => z.cps.toList.headD 0
    rw [List.map_map] at z
    have : (cs.map ((fun z : Str => z.cps.toList.headD 0) ∘ sing)) = cs := List.map_id _
    rw [this] at z
    exact z
  rw [e] at hs
  have h1 := sorted_pw _ hs
  have h2 : cs.Pairwise (· ≤ ·) := hc.imp Nat.le_of_lt
  have e2 := hp2.eq_of_pairwise (fun a b _ _ x y => Nat.le_antisymm x y) h1 h2
  rw [e, e2]
end
theorem vals_strs : ∀ {us : List Value} {ss : List Str}, StrsAre us ss → Vals (ss.map V.str) us
  | _, _, .nil => .nil
  | _, _, .cons y k t => .cons ⟨k, rfl⟩ (vals_strs t)
def tSrtSet (ta : TE) : TE := fun σ H Q => ta σ H fun x H1 => ∃ l : List Nat, x = .str (S l) ∧ l.Pairwise (· < ·) ∧ l.length < 64 ∧ (∀ c ∈ l, c < 128) ∧ ∀ p, H1 p = none → Q (.ref p) (upd H1 p (.lst (l.map fun c => V.str (S [c]))))
section
variable {X : Cx}
theorem pe_sortedSet {a : Expr} {ta : TE} {p p2 q pos : Pos} (hc : X.calm = true) (T : Txt X.mg) (ha : PE X a ta) (hg : Gl X "sorted" := by rfl) (hg2 : Gl X "set" := by rfl)
    (na : starEach [a] X.env = (false, eval a X.env) :: starEach [] X.env := by rfl) : PE X (.Call (.Name "sorted" p) [.Call (.Name "set" p2) [a] [] q] [] pos) (tSrtSet ta) := by
  refine ⟨fun pins s σ H Q I h => ?_⟩
  refine Call_ (ld_blt I hg T.sorted boot_sorted ?_)
  refine PyProof.Rows.callWith_builtin1 (PyProof.Rows.args_cons ?_ rfl) rfl rfl
  refine Call_ (ld_blt I hg2 T.set boot_set ?_)
  refine PyProof.Rows.callWith_type1 (PyProof.Rows.args_cons (thn (ha.run pins s σ H _ I h) fun v s1 ⟨x, H1, I1, r1, q1⟩ => PyProof.Rows.args_nil ?_) na) na rfl
  obtain ⟨l, rfl, hp, h64, h128, q1⟩ := q1
  obtain ⟨t, rfl⟩ := r1
  refine call_set_txt (I1.ok.hd hc) ?_ ?_ h64 fun h' tk tk0 ho k => ?_
  · show (S l).cps.all (· < 128) = true
    rw [← Array.all_toList]
    rw [List.all_eq_true]
    intro c hm
    exact decide_eq_true (h128 c hm)
  · exact hp.imp Nat.ne_of_lt
  · refine PyProof.Rows.args_nil ?_
    have I2 : Inv X pins σ H1 { s1 with heap := h', toks := tk } := I1.kept k
    have hK := run_kp (w := X.w) l tk0 (emptyD X.w) [] ⟨fun e he => by simp at he, .refl _⟩
    have hT := run_tx (P := X.prog) (w := X.w) l tk0 (emptyD X.w) [] (TxOk.nil (by rfl))
    have hG := run_good (w := X.w) (led := !X.w.params.followText "set-order") l tk0 (emptyD X.w) ⟨List.Pairwise.nil, rfl⟩
    refine sorted_setS (s := { s1 with heap := h', toks := tk }) ho hT hK hG (by cases X.w.params.followText "set-order" <;> simp) (I2.ok.hd hc) (by simpa using h64) fun s' p out c ss k2 g o hp2 hg hi hpm hs => ?_
    have hpm2 : ss.Perm (l.map sing) := by
      rw [List.append_nil] at hpm
      exact hpm.trans (List.reverse_perm _)
    have ess := sorted_sing hpm2 hs hp
    subst ess
    have hn : H1 p = none := I2.hok.fresh hp2
    have hlen : ((l.map sing).map V.str).length ≤ sizeLine := by
      rw [List.length_map, List.length_map, sizeLine_eq]
      omega
    have J : Inv X pins σ (upd H1 p (.lst ((l.map sing).map V.str))) { ({ s1 with heap := h', toks := tk } : Shared) with heap := s'.heap, gens := s'.gens, drawn := s'.drawn, toks := s'.toks } :=
      I2.call (ch := []) (Un.laid k2 hp2 hn) (I2.hok.laid k2 hp2 ⟨hlen, out.toList, c, vals_strs hi, hg⟩) (by rw [g]; exact I2.bare) (fun _ z => nomatch z)
    have e : s' = { s1 with heap := s'.heap, gens := s'.gens, drawn := s'.drawn, toks := s'.toks } := by
      obtain ⟨_, _, _, _, _⟩ := s'
      cases o
      rfl
    rw [e]
    refine ⟨.ref p, _, J, rfl, ?_⟩
    rw [List.map_map]
    exact q1 p hn
variable {K : PySem.W.Frag} {σ : L2.St} {H : Hp} {ta : TE}
theorem dqa_sing {H : Hp} : ∀ l : List Nat, DqA H (l.map fun c => V.str (S [c])) (l.map fun c => Dt.str [c])
  | [] => .nil
  | c :: l => .cons (.str [c]) (dqa_sing l)
theorem ed_srtSet {l : List Nat} (ha : EvD ta σ H (.str l)) (hp : l.Pairwise (· < ·)) (h64 : l.length < 64) (h128 : ∀ c ∈ l, c < 128) : EvD (tSrtSet ta) σ H (.lst (l.map fun c => Dt.str [c])) := fun H1 e Q q =>
  ha H1 e _ fun x d H2 e2 ed k => by
    subst ed
    cases k
    exact ⟨l, rfl, hp, h64, h128, fun p hn => q _ _ _ (e2.trans (Ex.new hn)) rfl (.lst upd_same (dqa_sing l))⟩
end
end FW
set_option maxRecDepth 100000
set_option maxHeartbeats 4000000
/-! # FR3: list(text), list(list), == of deep data -/
namespace FW
open PySem L2
open Evl (Ex Ex.refl Ex.trans Ex.new Ex.mut EvT)
section
variable {X : Cx}
def rListStr : List V → Hp → VK → Prop := fun xs H Q => ∃ l : List Nat, xs = [.str (S l)] ∧ l.length ≤ 100000 ∧ ∀ p, H p = none → Q (.ref p) (upd H p (.lst (l.map fun c => V.str (S [c]))))
theorem call_listS (hc : X.calm = true) : CallR X (.type "list") rListStr := by
  intro pins s σ H xs us Q I r h
  obtain ⟨l, rfl, hl, q⟩ := h
  cases r with
  | cons r rr =>
    cases rr
    obtain ⟨t, rfl⟩ := r
    refine call_list_str (I.ok.hd hc) (S l) t (fun h' tk acc' c' hk hS' hacc => ?_) (szl hl)
    have e : acc'.toList.length = l.length := by
      rw [Array.length_toList]
      exact hacc.1
    refine ⟨.ref s.heap.objs.size, upd H s.heap.objs.size (.lst (l.map fun c => V.str (S [c]))), I.laid (t' := tk) hk (Nat.le_refl _) (show ObjOk X.prog X.w _ _ _ (.lst (l.map fun c => V.str (S [c]))) from ⟨?_, acc'.toList, c', ?_, ?_⟩), rfl, q _ (I.hok.fresh (Nat.le_refl _))⟩
    · rw [List.length_map]
      exact szl hl
    · refine vals_of_at (by rw [List.length_map, e]) fun j x w h1 h2 => ?_
      obtain ⟨c, h3, rfl⟩ := map_at h1
      obtain ⟨c', u, h4, rfl⟩ := hacc.2 j w (by rw [← Array.getElem?_toList]; exact h2)
      have h5 : l[j]? = some c' := by
        have z : (S l).cps[j]? = some c' := h4
        rw [← Array.getElem?_toList] at z
        exact z
      rw [h3] at h5
      cases h5
      exact ⟨u, rfl⟩
    · simpa using hS'
def rListOf (K : PySem.W.Frag) : List V → Hp → VK → Prop := fun xs H Q => ∃ p ys, xs = [.ref p] ∧ (SqL K H p ys ∨ SqT K H p ys) ∧ ∀ l, H l = none → Q (.ref l) (upd H l (.lst ys))
theorem call_listOf : CallR X (.type "list") (rListOf X.K) := call_list_of
variable {a : Expr} {ta : TE} {p pos : Pos}
theorem pe_listS (T : Txt X.mg) (hc : X.calm = true) (ha : PE X a ta) (hg : Gl X "list" := by rfl) (hs : starEach (a :: []) X.env = (false, eval a X.env) :: starEach [] X.env := by rfl) (hpl : (backTo pos (starEach [] X.env)).any (·.1) = false := by rfl) : PE X (.Call (.Name "list" p) [a] [] pos) (tCB rListStr (tCons ta tNil)) :=
  pe_callTy (call_listS hc) hg T.list PyProof.Rows.boot_list (pa_cons ha pa_nil hs) (by decide) (by decide) hs hpl
theorem pe_listL (T : Txt X.mg) (ha : PE X a ta) (hg : Gl X "list" := by rfl) (hs : starEach (a :: []) X.env = (false, eval a X.env) :: starEach [] X.env := by rfl) (hpl : (backTo pos (starEach [] X.env)).any (·.1) = false := by rfl) : PE X (.Call (.Name "list" p) [a] [] pos) (tCB (rListOf X.K) (tCons ta tNil)) :=
  pe_callTy call_listOf hg T.list PyProof.Rows.boot_list (pa_cons ha pa_nil hs) (by decide) (by decide) hs hpl
end
section
variable {K : PySem.W.Frag} {σ : St} {H : Hp} {ta tb : TE}
theorem ed_listS {l : List Nat} (ha : EvD ta σ H (.str l)) (hl : l.length ≤ 100000) : EvD (tCB rListStr (tCons ta tNil)) σ H (.lst (l.map fun c => Dt.str [c])) := ec_cbD (ad_cons ha ad_nil) fun vs H1 _ k Q q => by
  obtain ⟨x, rfl, hx⟩ := dqa1 k
  cases hx
  exact ⟨l, rfl, hl, fun p hp => q _ _ _ (Ex.new hp) rfl (.lst upd_same (dqa_sing l))⟩
theorem ed_listL {ds : List Dt} (ha : EvD ta σ H (.lst ds) ∨ EvD ta σ H (.tup ds)) : EvD (tCB (rListOf K) (tCons ta tNil)) σ H (.lst ds) := by
  rcases ha with ha | ha
  · refine ec_cbD (ad_cons ha ad_nil) fun vs H1 _ k Q q => ?_
    obtain ⟨x, rfl, hx⟩ := dqa1 k
    obtain ⟨p, xs, rfl, h1, k1⟩ := dq_lst hx
    exact ⟨p, xs, rfl, .inl (sqL_of h1), fun l hl => q _ _ _ (Ex.new hl) rfl (.lst upd_same (k1.mono (Ex.new hl)))⟩
  · refine ec_cbD (ad_cons ha ad_nil) fun vs H1 _ k Q q => ?_
    obtain ⟨x, rfl, hx⟩ := dqa1 k
    obtain ⟨p, xs, rfl, h1, k1⟩ := dq_tup hx
    exact ⟨p, xs, rfl, .inr (sqT_of h1), fun l hl => q _ _ _ (Ex.new hl) rfl (.lst upd_same (k1.mono (Ex.new hl)))⟩
/-! ### deep equality of texts and pairs of texts -/
def pyS (ls : List (List Nat)) : PyData := .list (ls.map fun l => PyData.str (S l))
theorem dp_strs {H : Hp} : ∀ {vs : List V} {ls : List (List Nat)}, DqA H vs (ls.map Dt.str) → DpAll K H vs (ls.map fun l => PyData.str (S l))
  | [], [], _ => .nil
  | [], _ :: _, h => by cases h
  | _ :: _, [], h => by cases h
  | v :: vs, l :: ls, h => by
    cases h with
    | cons h k =>
      cases h
      exact .cons (.str _) (dp_strs k)
theorem eqv_strs : ∀ a b : List (List Nat), PyData.eqvAll (a.map fun l => PyData.str (S l)) (b.map fun l => PyData.str (S l)) = decide (a = b)
  | [], [] => by simp [PyData.eqvAll]
  | [], _ :: _ => by simp [PyData.eqvAll]
  | _ :: _, [] => by simp [PyData.eqvAll]
  | x :: a, y :: b => by
    show ((S x == S y) && PyData.eqvAll _ _) = _
    rw [eqv_strs a b]
    have : (S x == S y) = decide (x = y) := by
      by_cases e : x = y
      · rw [e]
        simp
      · rw [decide_eq_false e]
        simp
        exact fun z => e (S_inj z)
    rw [this]
    by_cases e : x = y <;> by_cases e2 : a = b <;> simp [e, e2]
def okTx (l : List Nat) : Prop := ∀ c ∈ l, c < 1114112
theorem okTx.is {l : List Nat} (h : okTx l) : PyData.strOk (S l) = true := by
  show (S l).cps.all (· < 0x110000) = true
  rw [← Array.all_toList, List.all_eq_true]
  exact fun c hm => decide_eq_true (h c hm)
theorem lay_strs : ∀ {ls : List (List Nat)}, (∀ l ∈ ls, okTx l) → PyData.canLayAll0 (ls.map fun l => PyData.str (S l)) = true ∧ PyData.depthAll (ls.map fun l => PyData.str (S l)) = 0
  | [], _ => ⟨rfl, rfl⟩
  | x :: ls, h => by
    obtain ⟨h1, h2⟩ := lay_strs (ls := ls) fun l hl => h l (List.mem_cons_of_mem _ hl)
    refine ⟨?_, ?_⟩
    · show (PyData.strOk (S x) && PyData.canLayAll0 _) = true
      rw [(h x (List.mem_cons_self ..)).is, h1] <;> rfl
    · show max 0 (PyData.depthAll _) = 0
      rw [h2] <;> rfl
theorem shaped_strs {ls : List (List Nat)} (h : ∀ l ∈ ls, okTx l) : SeqAt.shaped (pyS ls) = true := by
  obtain ⟨h1, h2⟩ := lay_strs h
  show (PyData.canLayAll0 _ && decide (PyData.depthAll _ + 1 ≤ 64)) = true
  rw [h1, h2] <;> rfl
abbrev Row := List (List Nat × List Nat)
def stepD (p : List Nat × List Nat) : Dt := .tup [.str p.1, .str p.2]
def rowD (r : Row) : Dt := .lst (r.map stepD)
def stepPy (p : List Nat × List Nat) : PyData := .tuple [.str (S p.1), .str (S p.2)]
def pyR (r : Row) : PyData := .list (r.map stepPy)
def okRow (r : Row) : Prop := ∀ p ∈ r, okTx p.1 ∧ okTx p.2
theorem dp_row {H : Hp} : ∀ {vs : List V} {r : Row}, DqA H vs (r.map stepD) → DpAll K H vs (r.map stepPy)
  | [], [], _ => .nil
  | [], _ :: _, h => by cases h
  | _ :: _, [], h => by cases h
  | v :: vs, p :: r, h => by
    cases h with
    | cons h k =>
      obtain ⟨t, ys, rfl, h1, k1⟩ := dq_tup h
      obtain ⟨x, y, rfl, hx, hy⟩ := dqa2 k1
      cases hx
      cases hy
      exact .cons (.tup (sqT_of h1) (.cons (.str _) (.cons (.str _) .nil))) (dp_row k)
theorem S_beq (x y : List Nat) : (S x == S y) = decide (x = y) := by
  by_cases e : x = y
  · rw [e]
    simp
  · rw [decide_eq_false e]
    simp
    exact fun z => e (S_inj z)
theorem eqv_row : ∀ a b : Row, PyData.eqvAll (a.map stepPy) (b.map stepPy) = decide (a = b)
  | [], [] => by simp [PyData.eqvAll]
  | [], _ :: _ => by simp [PyData.eqvAll]
  | _ :: _, [] => by simp [PyData.eqvAll]
  | x :: a, y :: b => by
    show (((S x.1 == S y.1) && ((S x.2 == S y.2) && true)) && PyData.eqvAll _ _) = _
    rw [eqv_row a b, S_beq, S_beq]
    obtain ⟨x1, x2⟩ := x
    obtain ⟨y1, y2⟩ := y
    by_cases e : x1 = y1 <;> by_cases e1 : x2 = y2 <;> by_cases e2 : a = b <;> simp [e, e1, e2]
theorem lay_row : ∀ {r : Row}, okRow r → PyData.canLayAll0 (r.map stepPy) = true ∧ PyData.depthAll (r.map stepPy) ≤ 1
  | [], _ => ⟨rfl, Nat.zero_le _⟩
  | x :: r, h => by
    obtain ⟨h1, h2⟩ := lay_row (r := r) fun l hl => h l (List.mem_cons_of_mem _ hl)
    obtain ⟨g1, g2⟩ := h x (List.mem_cons_self ..)
    refine ⟨?_, ?_⟩
    · show ((PyData.strOk (S x.1) && (PyData.strOk (S x.2) && true)) && PyData.canLayAll0 _) = true
      rw [g1.is, g2.is, h1] <;> rfl
    · show max (max 0 (max 0 0) + 1) (PyData.depthAll _) ≤ 1
      simp only [Nat.max_self, Nat.zero_add]
      exact Nat.max_le.mpr ⟨Nat.le_refl _, h2⟩
theorem shaped_row {r : Row} (h : okRow r) : SeqAt.shaped (pyR r) = true := by
  obtain ⟨h1, h2⟩ := lay_row h
  show (PyData.canLayAll0 _ && decide (PyData.depthAll _ + 1 ≤ 64)) = true
  rw [h1, decide_eq_true (by omega)] <;> rfl
theorem ed_eqSs {a b : List (List Nat)} (ha : EvD ta σ H (.lst (a.map Dt.str))) (hb : EvD tb σ H (.lst (b.map Dt.str))) (oa : ∀ l ∈ a, okTx l) (ob : ∀ l ∈ b, okTx l) : EvD (tOp (rEqD K) ta tb) σ H (.bl (decide (a = b))) := ec_op ha hb fun x y a' b' H1 _ ca cb hx hy Q q => by
  subst ca cb
  obtain ⟨p, xs, rfl, h1, k1⟩ := dq_lst hx
  obtain ⟨r, ys, rfl, h2, k2⟩ := dq_lst hy
  refine ⟨pyS a, pyS b, .lst (sqL_of h1) (dp_strs k1), .lst (sqL_of h2) (dp_strs k2), shaped_strs oa, shaped_strs ob, ?_⟩
  have e : PyData.eqv (pyS a) (pyS b) = decide (a = b) := eqv_strs a b
  rw [e]
  exact q _ _ H1 (Ex.refl H1) rfl (.bl _)
theorem ed_neRow {a b : Row} (ha : EvD ta σ H (rowD a)) (hb : EvD tb σ H (rowD b)) (oa : okRow a) (ob : okRow b) : EvD (tOp (rNeD K) ta tb) σ H (.bl (!decide (a = b))) := ec_op ha hb fun x y a' b' H1 _ ca cb hx hy Q q => by
  subst ca cb
  obtain ⟨p, xs, rfl, h1, k1⟩ := dq_lst hx
  obtain ⟨r, ys, rfl, h2, k2⟩ := dq_lst hy
  refine ⟨pyR a, pyR b, .lst (sqL_of h1) (dp_row k1), .lst (sqL_of h2) (dp_row k2), shaped_row oa, shaped_row ob, ?_⟩
  have e : PyData.eqv (pyR a) (pyR b) = decide (a = b) := eqv_row a b
  rw [e]
  exact q _ _ H1 (Ex.refl H1) rfl (.bl _)
end
section
variable {K : PySem.W.Frag} {σ : St} {H : Hp} {te : TE} {X : List Dt → Prop}
theorem dw_tup {a : Addr} {vs : List V} {xs : List Dt} {H2 : Hp} (h : H2 a = some (.tup vs)) (k : DqA H2 vs xs) : DWalk (Itt K a) H2 xs := by
  have hl := k.len
  refine ⟨fun i H3 hi e => ?_, fun H3 e => ?_, fun i H3 v H4 hi e y => ?_⟩
  · rw [← hl] at hi
    exact ⟨vs, vs[i], sqT_of (e _ _ h), by simp [hi]⟩
  · exact ⟨vs, sqT_of (e _ _ h), by rw [hl]; first | rfl | exact Nat.le_refl _⟩
  · obtain ⟨rfl, y⟩ := y
    have e1 := y vs (sqT_of (e _ _ h))
    obtain ⟨d, e2, e3⟩ := k.get e1
    exact ⟨d, H2, e2, Ex.refl _, Ex.refl _, e, e3, fun _ z _ => z⟩
theorem ei_tup (h : EvC te σ H (fun d => ∃ xs, d = .tup xs ∧ X xs)) : EvI (iTup K te) σ H X := fun H1 e R q => h H1 e _ fun v d H2 e2 c k => by
  obtain ⟨xs, rfl, cx⟩ := c
  obtain ⟨a, vs, rfl, h1, k1⟩ := dq_tup k
  exact ⟨a, rfl, ⟨vs, sqT_of h1⟩, q xs _ H2 e2 cx (dw_tup h1 k1)⟩
theorem ei_tupD {xs : List Dt} (h : EvD te σ H (.tup xs)) : EvI (iTup K te) σ H (fun ys => ys = xs) := ei_tup (h.imp fun d e => ⟨xs, e, rfl⟩)
end
theorem Room.hu {k : Nat} {A : Around} (r : Room k A) : A.units + 64 < cLine := by
  have := r.un
  omega
theorem Room.hu1 {k : Nat} {A : Around} (r : Room k A) : A.units + 1 < cLine := by
  have := r.un
  omega
end FW
set_option maxRecDepth 100000
set_option maxHeartbeats 4000000
/-! # FR4: enumerate(tuple); loops whose items stand in a part of the heap -/
namespace FW
section
open PySem
open Sem (wp)
open AutoSeq1 (wpAny_loadPart')
theorem meets_enumerate_newT (l : Addr) (items : Array Value) (n : Nat) (dct : Option Addr) (sl : Array (Option Value)) :
    Meets (Builtin.«enumerate.__new__» ⟨[.type "enumerate", .ref l], []⟩) (fun _ R s => s.heap.get? l = some { cls := .type "tuple", dict := dct, data := .seq items n, slots := sl } ∧
      R (.ok (.ret (.ref (s.heap.push { cls := .type "tuple_iterator", data := .fields #[.ref l, .int 0 0] }).objs.size)))
        { s with heap := (s.heap.push { cls := .type "tuple_iterator", data := .fields #[.ref l, .int 0 0] }).push { cls := .type "enumerate", data := .fields #[.none, .bool false, .ref s.heap.objs.size, rawInt 0, .none, .none] } }) :=
  .of_wp fun prog w A R s h => by
    obtain ⟨hp, g, d, tk, os⟩ := s; obtain ⟨hl, h⟩ := h
    have hsub := sub_enumerate
    have hL : Heap.IsTuple (Shared.heap ⟨hp, g, d, tk, os⟩) l items := ⟨_, hl, rfl, n, rfl⟩
    wp_walk using wpAny_loadPart' hl
    refine wpAny_stack_any fun st => wpAny_pure ?_
    split
    · rename_i c _ _ _ _ _
      cases (c == Value.type "enumerate")
      · wp_walk using wpAny_loadPart' hl, wpAny_pyIter_tuple hL
        exact ⟨_, rfl, h⟩
      · wp_walk using wpAny_loadPart' hl, wpAny_pyIter_tuple hL
        exact ⟨_, rfl, h⟩
    · wp_walk using wpAny_loadPart' hl, wpAny_pyIter_tuple hL
      exact ⟨_, rfl, h⟩
theorem call_enumerate_tuple {prog : Program} {w : World} {A : Around} {E : Value → Shared → Prop} {s : Shared} {l : Addr} {items : Array Value} {Q : Value → Shared → Prop} (hL : s.heap.IsTuple l items)
    (h : ∀ h', IsEnum h' (s.heap.objs.size + 1) s.heap.objs.size 0 .none → h'.IsTupleIter s.heap.objs.size l 0 → h'.objs.size = s.heap.objs.size + 2 →
      (∀ b o, s.heap.get? b = some o → h'.get? b = some o) → Q (.ref (s.heap.objs.size + 1)) { s with heap := h' }) :
    wpAny (model prog w) A (call (.type "enumerate") [.ref l]) Q E s := by
  obtain ⟨⟨c, dct, dt, sl⟩, hl, hc, n, hd⟩ := hL
  replace hc : c = .type "tuple" := hc
  replace hd : dt = .seq items n := hd
  subst hc hd
  refine callType_new F.called_enumerate (by decide) (F.typeCall_enumerate_1 _) (F.newCall_enumerate_1 _) (fun obj => F.args_object_init_2 obj _) F.entry_enumerate_new
    (meets_enumerate_newT l items n dct sl) ⟨hl, ?_⟩
  have hz : (s.heap.push { cls := .type "tuple_iterator", data := .fields #[.ref l, .int 0 0] }).objs.size = s.heap.objs.size + 1 := Heap.size_push ..
  show _ ∧ _
  rw [hz]
  have he : IsEnum ((s.heap.push { cls := .type "tuple_iterator", data := .fields #[.ref l, .int 0 0] }).push
      { cls := .type "enumerate", data := .fields #[.none, .bool false, .ref s.heap.objs.size, rawInt 0, .none, .none] }) (s.heap.objs.size + 1) s.heap.objs.size 0 .none := by
    have := Heap.get?_push_size (s.heap.push { cls := .type "tuple_iterator", data := .fields #[.ref l, .int 0 0] })
      (o := { cls := .type "enumerate", data := .fields #[.none, .bool false, .ref s.heap.objs.size, rawInt 0, .none, .none] }) rfl
    rw [hz] at this; exact this
  refine ⟨⟨_, he, rfl⟩, h _ he ⟨_, Heap.get?_push_of_some _ (Heap.get?_push_size _ rfl), rfl, rfl⟩ (by rw [Heap.size_push, hz]) fun b o x => Heap.get?_push_of_some _ (Heap.get?_push_of_some _ x)⟩
end
section
open PySem PySem.Spec PyProof.Rows L2
open Evl (Ex Ex.refl Ex.trans Ex.new Ex.mut)
def IteT (K : PySem.W.Frag) (a : Addr) : It :=
  ⟨fun i H => ∃ (xs : List V) (x : V), SqT K H a xs ∧ xs[i]? = some x, fun i H v H' => ∃ T x, v = .ref T ∧ H T = none ∧ H' = upd H T (.tup [.int (i : Nat), x]) ∧ ∀ xs, SqT K H a xs → xs[i]? = some x, fun i H => ∃ xs : List V, SqT K H a xs ∧ xs.length = i⟩
theorem turn_enumT {P : Program} {w : World} {K : PySem.W.Frag} {elts : List Expr} {kk : Nat} {tpos : Pos} (a e it : Addr) (hne : e ≠ it) (hea : e ≠ a) (hai : a ≠ it) :
    Turn P w K (.Tuple elts kk tpos) (IteT K a) [e, it] e (fun i h => (∃ old, IsEnum h e it ((i : Nat) : Int) old) ∧ h.IsTupleIter it a i) where
  mem := by simp
  obj := fun i h st b hb => by
    obtain ⟨⟨old, he⟩, ⟨o, ho, hc, hd⟩⟩ := st
    have e' : b = e ∨ b = it := by simpa using hb
    rcases e' with z | z
    · rw [z]; exact ⟨_, he, fun v q => nomatch q⟩
    · rw [z]; exact ⟨o, ho, fun v q => by rw [hd] at q; cases q⟩
  keep := fun i h h' st k => let ⟨⟨old, he⟩, hi⟩ := st; ⟨⟨old, k e (by simp) _ he⟩, hi.at fun o q => k it (by simp) o q⟩
  item := by
    intro X hP hw hK hc i pins s σ H E I hf st hg
    subst hP hw hK
    obtain ⟨⟨old, he⟩, hit⟩ := st
    obtain ⟨xs, x, hq, hx⟩ := hg
    obtain ⟨its, rv, p, hz⟩ := I.tuple hq
    obtain ⟨u, hu, ru⟩ := rv.get hx
    have hel : e < s.heap.objs.size := Heap.lt_size he
    have hil : it < s.heap.objs.size := by obtain ⟨_, q, _⟩ := hit; exact Heap.lt_size q
    have hh : X.A.in1.handled = none := by simp [I.ok.hd hc]
    have D := Draws.tuple (prog := X.prog) (w := X.w) hh it a hai its.toArray
    have hi1 : i < its.toArray.size := by
      have q := (List.getElem?_eq_some_iff.mp hu).1
      simpa using q
    refine wpAny_pyNext_enum_itemD D he ⟨hit, p⟩ hi1 hne (by simp [hne, hea]) fun u1 h' tk hP ho st' hT hsz hk => ?_
    have e1 : u1 = u := by
      have q : its.toArray[i]? = some u1 := hP
      have q2 : its.toArray[i]? = some u := by simpa using hu
      rw [q2] at q
      exact (Option.some.inj q).symm
    subst e1
    refine ⟨_, rfl, wpAny_letOwnedTupleGo_enum (s := { s with heap := h', toks := tk + 1 }) ho fun h'' he' sb => ?_⟩
    have hT2 : h''.get? s.heap.objs.size = some { cls := .type "tuple", data := .seq #[.int i tk, u1] } := (sb.2 _ (Nat.ne_of_gt hel)).trans hT
    have new : ObjOk X.prog X.w (upd H s.heap.objs.size (.tup [.int (i : Nat), x])) h'' s.heap.objs.size (.tup [.int (i : Nat), x]) :=
      ⟨by show 2 ≤ sizeLine; decide, [.int i tk, u1], .cons ⟨_, rfl⟩ (.cons ru .nil), ⟨_, hT2, rfl, _, rfl⟩⟩
    have I1 : Inv X pins σ (upd H s.heap.objs.size (.tup [.int (i : Nat), x])) { s with heap := h'', toks := tk + 1 } :=
      I.turnedNew (ch := [e, it]) (fun b ob hb q => (sb.2 b (fun z => hb (by simp [z]))).trans (hk b ob (fun z => hb (by simp [z])) (fun z => hb (by simp [z])) q)) hf (Nat.le_refl _) new
    refine ⟨.ref s.heap.objs.size, _, I1, rfl, ⟨_, x, rfl, I.hok.fresh (Nat.le_refl _), rfl, fun ys hy => by rw [I.tuple_inj hy hq]; exact hx⟩, ⟨⟨u1, ?_⟩, st'.1.at fun o q => (sb.2 it (Ne.symm hne)).trans q⟩, fun b hb => ?_⟩
    · have e1 : ((i + 1 : Nat) : Int) = (i : Int) + 1 := by omega
      rw [e1]; exact he'
    · have hb' : b < s.heap.objs.size := by
        have e' : b = e ∨ b = it := by simpa using hb
        rcases e' with z | z
        · rw [z]; exact hel
        · rw [z]; exact hil
      rw [upd_ne (Nat.ne_of_lt hb')]
      exact (hf b hb).1
  done := by
    intro X hP hw hK hc i pins s σ H E I hf st hg
    subst hP hw hK
    obtain ⟨⟨old, he⟩, hit⟩ := st
    obtain ⟨xs, hq, hx⟩ := hg
    obtain ⟨its, rv, p, hz⟩ := I.tuple hq
    obtain ⟨f0, f1, f2, f3, f4, f5⟩ := hf it (by simp)
    have hl := rv.length
    have hh : X.A.in1.handled = none := by simp [I.ok.hd hc]
    have D := Draws.tuple (prog := X.prog) (w := X.w) hh it a hai its.toArray
    have z1 : its.toArray.size = i := by simp; omega
    refine wpAny_pyNext_enum_endD D he ⟨by rw [z1]; exact hit, p⟩ fun h' eb => ⟨rfl, I.turned (t' := s.toks) (fun b o hb q => eb b o hb q) f0 f1 f3 f4 f5⟩
  self := fun A i s Q E st h => let ⟨⟨_, he⟩, _⟩ := st; wpAny_pyIter_enum he h
def iEnumT (K : PySem.W.Frag) (ta : TA) : TI := fun σ H R => ta σ H fun vs H1 => ∃ a xs, vs = [.ref a] ∧ SqT K H1 a xs ∧ R (IteT K a) H1
theorem pi_enumT {X : Cx} {e : Expr} {ta : TA} {p pos tpos : Pos} {elts : List Expr} {kk : Nat} (hg : Gl X "enumerate") (hm : X.mg "enumerate" = none) (ha : PA X [e] ta) (hs : starEach [e] X.env = [(false, eval e X.env)] := by rfl) :
    PI X (.Tuple elts kk tpos) (.Call (.Name "enumerate" p) [e] [] pos) (iEnumT X.K ta) := by
  refine ⟨fun pins s σ H R I h => ?_⟩
  refine Call_ (ld_blt I hg hm boot_enumerate (PyProof.Rows.callWith_type1 (thn (ha.run pos pins s σ H _ I h) fun us s1 ⟨vs, H1, I1, r1, q1⟩ => ?_) hs rfl))
  obtain ⟨a, xs, ex, hq, q⟩ := q1
  subst ex
  cases r1 with
  | cons r rr =>
    cases rr
    cases r
    obtain ⟨its, rv, p', hz⟩ := I1.tuple hq
    have la : a < s1.heap.objs.size := by
      obtain ⟨o, ho, _⟩ := p'
      exact Heap.lt_size ho
    refine call_enumerate_tuple p' fun h' he hit hsz hk => wpAny_pyIter_enum he ?_
    have I2 : Inv X pins σ H1 { s1 with heap := h' } := I1.kept (t' := s1.toks) hk
    refine ⟨s1.heap.objs.size + 1, [s1.heap.objs.size + 1, s1.heap.objs.size], _, _, H1, rfl, I2, turn_enumT a (s1.heap.objs.size + 1) s1.heap.objs.size (Nat.succ_ne_self _) (Nat.ne_of_gt (Nat.lt_succ_of_lt la)) (Nat.ne_of_lt la), ⟨⟨.none, he⟩, hit⟩, fun b hb => ?_, q⟩
    have e' : b = s1.heap.objs.size + 1 ∨ b = s1.heap.objs.size := by simpa using hb
    have hle : s1.heap.objs.size ≤ b := by
      rcases e' with z | z
      · rw [z]; exact Nat.le_add_right _ _
      · rw [z]; exact Nat.le_refl _
    exact I1.fpOk hle (I1.hok.fresh hle)
end
open PySem L2
open Evl (Ex Ex.refl Ex.trans Ex.new Ex.mut EvT)
/-! ### walks over what a part of the heap knows -/
theorem dw_enumT {K : PySem.W.Frag} {a : Addr} {vs : List V} {xs : List Dt} {B : Hp} (h1 : B a = some (.tup vs)) (k1 : DqA B vs xs) : DWalk (IteT K a) B (enumD xs) := by
  have hl := k1.len
  refine ⟨fun i H3 hi e3 => ?_, fun H3 e3 => ?_, fun i H3 v H4 hi e3 y => ?_⟩
  · rw [enumD_len, ← hl] at hi
    exact ⟨vs, vs[i], sqT_of (e3 _ _ h1), by simp [hi]⟩
  · exact ⟨vs, sqT_of (e3 _ _ h1), by rw [enumD_len, hl]⟩
  · obtain ⟨T, x, rfl, hT, rfl, y⟩ := y
    have e1 := y vs (sqT_of (e3 _ _ h1))
    obtain ⟨d, e4, e5⟩ := k1.get e1
    have hT2 : B T = none := Evl.fresh_back e3 hT
    refine ⟨_, upd B T (.tup [.int (i : Nat), x]), enumD_at e4, Ex.new hT, Ex.new hT2, ex_upd e3, .tup upd_same (.cons (.int _) (.cons (e5.mono (Ex.new hT2)) .nil)), fun a z1 z2 => ?_⟩
    rw [upd_ne (fun z => z2 (by rw [z]; exact hT))]
    exact z1
theorem dw_enum {K : PySem.W.Frag} {a : Addr} {vs : List V} {xs : List Dt} {B : Hp} (h1 : B a = some (.lst vs)) (k1 : DqA B vs xs) : DWalk (Ite K a) B (enumD xs) := by
  have hl := k1.len
  refine ⟨fun i H3 hi e3 => ?_, fun H3 e3 => ?_, fun i H3 v H4 hi e3 y => ?_⟩
  · rw [enumD_len, ← hl] at hi
    exact ⟨vs, vs[i], sqL_of (e3 _ _ h1), by simp [hi]⟩
  · exact ⟨vs, sqL_of (e3 _ _ h1), by rw [enumD_len, hl]; exact Nat.le_refl _⟩
  · obtain ⟨T, x, rfl, hT, rfl, y⟩ := y
    have e1 := y vs (sqL_of (e3 _ _ h1))
    obtain ⟨d, e4, e5⟩ := k1.get e1
    have hT2 : B T = none := Evl.fresh_back e3 hT
    refine ⟨_, upd B T (.tup [.int (i : Nat), x]), enumD_at e4, Ex.new hT, Ex.new hT2, ex_upd e3, .tup upd_same (.cons (.int _) (.cons (e5.mono (Ex.new hT2)) .nil)), fun a z1 z2 => ?_⟩
    rw [upd_ne (fun z => z2 (by rw [z]; exact hT))]
    exact z1
theorem dw_str {l : List Nat} {B : Hp} : DWalk (Its (S l)) B (l.map fun c => Dt.str [c]) := by
  refine ⟨fun i H3 hi _ => ?_, fun H3 _ => ?_, fun i H3 v H4 hi eB y => ?_⟩
  · rw [List.length_map] at hi
    exact hi
  · show _ ≤ _
    rw [List.length_map]
    exact Nat.le_refl _
  · obtain ⟨rfl, c, e1, rfl⟩ := y
    have e2 : l[i]? = some c := by
      have z : (S l).cps[i]? = some c := e1
      rw [← Array.getElem?_toList] at z
      exact z
    exact ⟨.str [c], B, by rw [List.getElem?_map, e2] <;> rfl, Ex.refl _, Ex.refl _, eB, .str [c], fun _ z _ => z⟩
theorem dw_range {n : Int} {B : Hp} : DWalk (Itr 0 n.toNat) B (rngD n) := by
  refine ⟨fun i H3 hi _ => ?_, fun H3 _ => ?_, fun i H3 v H4 hi eB y => ?_⟩
  · rw [rngD_len] at hi
    exact hi
  · show _ ≤ _
    rw [rngD_len]
    exact Nat.le_refl _
  · obtain ⟨rfl, rfl⟩ := y
    rw [rngD_len] at hi
    refine ⟨.int (i : Int), B, ?_, Ex.refl _, Ex.refl _, eB, ?_, fun _ z _ => z⟩
    · unfold rngD
      rw [List.getElem?_map, List.getElem?_range hi] <;> rfl
    · rw [Int.zero_add]
      exact .int _
section
variable {K : PySem.W.Frag} {σ : St} {H H' : Hp} {ta tb tc te tx tl : TE} {D : Ends} {tu tw tz : TS}
/-- a reading's value, known -/
def EvV (te : TE) (σ : St) (H : Hp) (v : V) : Prop := ∀ Q : VK, (∀ H2, Ex H H2 → Q v H2) → te σ H Q
theorem vv_var {i : Nat} {v : V} (h : σ[i]? = some (some v)) : EvV (tVar i) σ H v := fun Q q => ⟨v, h, q H (Ex.refl H)⟩
/-- what is walked: J over B's items xs -/
def WalkB (wi : TI) (σ : St) (H : Hp) (B : Hp) (xs : List Dt) : Prop := ∀ R : It → Hp → Prop, (∀ J H1, Ex H H1 → DWalk J B xs → R J H1) → wi σ H R
theorem wb_enum {B : Hp} {a : Addr} {vs : List V} {xs : List Dt} (h : EvV te σ H (.ref a)) (eB : Ex B H) (h1 : B a = some (.lst vs)) (k1 : DqA B vs xs) : WalkB (iEnum K (tCons te tNil)) σ H B (enumD xs) := fun R q =>
  h _ fun H2 e2 => ⟨a, vs, rfl, sqL_of ((eB.trans e2) _ _ h1), q _ _ e2 (dw_enum h1 k1)⟩
theorem wb_enumT {B : Hp} {a : Addr} {vs : List V} {xs : List Dt} (h : EvV te σ H (.ref a)) (eB : Ex B H) (h1 : B a = some (.tup vs)) (k1 : DqA B vs xs) : WalkB (iEnumT K (tCons te tNil)) σ H B (enumD xs) := fun R q =>
  h _ fun H2 e2 => ⟨a, vs, rfl, sqT_of ((eB.trans e2) _ _ h1), q _ _ e2 (dw_enumT h1 k1)⟩
theorem wb_list {B : Hp} {a : Addr} {vs : List V} {xs : List Dt} (h : EvV te σ H (.ref a)) (eB : Ex B H) (h1 : B a = some (.lst vs)) (k1 : DqA B vs xs) : WalkB (iList K te) σ H B xs := fun R q =>
  h _ fun H2 e2 => ⟨a, rfl, ⟨vs, sqL_of ((eB.trans e2) _ _ h1)⟩, q _ _ e2 (dw_list h1 k1)⟩
theorem wb_str {B : Hp} {l : List Nat} (h : EvD te σ H (.str l)) : WalkB (iStr te) σ H B (l.map fun c => Dt.str [c]) := fun R q => h H (Ex.refl H) _ fun v d H2 e2 c k => by
  subst c
  cases k
  exact ⟨_, rfl, q _ _ e2 dw_str⟩
theorem wb_range {B : Hp} {n : Int} (h : EvD te σ H (.int n)) (hn : n ≤ 100000 ∧ -100000 ≤ n) : WalkB (iRng1 (tCons te tNil)) σ H B (rngD n) := fun R q => h H (Ex.refl H) _ fun v d H2 e2 c k => by
  subst c
  cases k
  exact ⟨n, rfl, by omega, by omega, q _ _ e2 dw_range⟩
/-- a for by its invariant; B: what the walk needs -/
theorem g_forB {wi : TI} {g : TG} {B : Hp} {xs : List Dt} (hi : WalkB wi σ H B xs) (Pv : Nat → St → Hp → Prop) (p0 : ∀ H1, Ex H H1 → Pv 0 σ H1) (pE : ∀ i σ' H', Pv i σ' H' → Ex B H')
    (ps : ∀ (i : Nat) x v σ' H' H'', xs[i]? = some x → Pv i σ' H' → Ex H' H'' → Dq H'' v x → g v σ' H'' fun σ2 H2 => tu { D with nx := Pv (i + 1), ct := Pv (i + 1), bk := tz D } σ2 H2) (pd : ∀ σ' H', Pv xs.length σ' H' → tz D σ' H') :
    tSeq (tFor wi g tu) tz D σ H := hi _ fun J H1 e W => by
  refine ⟨fun i m σ' H' => m = xs.length - i ∧ i ≤ xs.length ∧ Pv i σ' H', ⟨xs.length, by simp, Nat.zero_le _, p0 H1 e⟩, ?_⟩
  rintro i m σ' H' ⟨rfl, hi', p⟩
  by_cases hlt : i < xs.length
  · refine .inr ⟨W.goes i H' hlt (pE _ _ _ p), Pv (i + 1), fun σ'' H'' p' => ⟨xs.length - (i + 1), by omega, rfl, hlt, p'⟩, fun v H'' y => ?_⟩
    obtain ⟨x, B', ex, e2, eB1, eB2, dx, _⟩ := W.yields i H' v H'' hlt (pE _ _ _ p) y
    exact ps i x v σ' H' H'' ex p e2 (dx.mono eB2)
  · have ei : i = xs.length := by omega
    subst ei
    exact .inl ⟨W.stops H' (pE _ _ _ p), pd σ' H' p⟩
theorem g_forB1 {wi : TI} {j : Nat} {B : Hp} {xs : List Dt} (hi : WalkB wi σ H B xs) (Pv : Nat → St → Hp → Prop) (p0 : ∀ H1, Ex H H1 → Pv 0 σ H1) (pE : ∀ i σ' H', Pv i σ' H' → Ex B H')
    (ps : ∀ (i : Nat) x v σ' H' H'', xs[i]? = some x → Pv i σ' H' → Ex H' H'' → Dq H'' v x → tu { D with nx := Pv (i + 1), ct := Pv (i + 1), bk := tz D } (σ'.set j (some v)) H'') (pd : ∀ σ' H', Pv xs.length σ' H' → tz D σ' H') :
    tSeq (tFor wi (gName j) tu) tz D σ H := g_forB hi Pv p0 pE ps pd
theorem g_forB2 {wi : TI} {j l : Nat} {B : Hp} {xs : List Dt} (hi : WalkB wi σ H B xs) (hx : ∀ x, x ∈ xs → ∃ a b, x = .tup [a, b]) (Pv : Nat → St → Hp → Prop) (p0 : ∀ H1, Ex H H1 → Pv 0 σ H1) (pE : ∀ i σ' H', Pv i σ' H' → Ex B H')
    (ps : ∀ (i : Nat) a b v w σ' H' H'', xs[i]? = some (.tup [a, b]) → Pv i σ' H' → Ex H' H'' → Dq H'' v a → Dq H'' w b → tu { D with nx := Pv (i + 1), ct := Pv (i + 1), bk := tz D } ((σ'.set j (some v)).set l (some w)) H'') (pd : ∀ σ' H', Pv xs.length σ' H' → tz D σ' H') :
    tSeq (tFor wi (gTup K 2 (gCons (gName j) (gCons (gName l) gNil))) tu) tz D σ H := g_forB hi Pv p0 pE (fun i x v σ' H' H'' ex p e2 dx => by
  obtain ⟨a, b, rfl⟩ := hx x (List.mem_of_getElem? ex)
  obtain ⟨t, vs', rfl, h1, k1⟩ := dq_tup dx
  obtain ⟨y, z, rfl, hy, hz⟩ := dqa2 k1
  exact ⟨t, [y, z], rfl, sqT_of h1, rfl, y, [z], rfl, z, [], rfl, rfl, ps i a b y z σ' H' H'' ex p e2 hy hz⟩) pd
theorem enumD_pair {xs : List Dt} : ∀ x, x ∈ enumD xs → ∃ a b, x = .tup [a, b] := fun x hm => by
  obtain ⟨j, hj⟩ := List.getElem?_of_mem hm
  obtain ⟨y, _, rfl⟩ := enumD_get hj
  exact ⟨_, _, rfl⟩
/-- xs.append(e), xs a list of the heap -/
theorem g_append {a : Addr} {vs : List V} {to : TE} {C : Dt → Prop} (ho : EvV to σ H (.ref a)) (hl : H a = some (.lst vs)) (hz : vs.length < 100000) (he : EvC te σ H C)
    (k : ∀ v d H1, Ex H H1 → C d → Dq H1 v d → tz D σ (upd H1 a (.lst (vs ++ [v])))) : tSeq (tDrop (tBM K "list" rAppend to (tCons te tNil))) tz D σ H := ho _ fun H1 e1 =>
  ⟨.inl ⟨rfl, _, SqL.of (e1 _ _ hl)⟩, he H1 e1 _ fun v d H2 e2 c dv => ⟨a, vs, v, rfl, rfl, (e1.trans e2) _ _ hl, szlt hz, k v d H2 (e1.trans e2) c dv⟩⟩
theorem s_append {a : Addr} {vs : List V} {to : TE} {C : Dt → Prop} (ho : EvV to σ H (.ref a)) (hl : H a = some (.lst vs)) (hz : vs.length < 100000) (he : EvC te σ H C)
    (k : ∀ v d H1, Ex H H1 → C d → Dq H1 v d → D.nx σ (upd H1 a (.lst (vs ++ [v])))) : tDrop (tBM K "list" rAppend to (tCons te tNil)) D σ H := ho _ fun H1 e1 =>
  ⟨.inl ⟨rfl, _, SqL.of (e1 _ _ hl)⟩, he H1 e1 _ fun v d H2 e2 c dv => ⟨a, vs, v, rfl, rfl, (e1.trans e2) _ _ hl, szlt hz, k v d H2 (e1.trans e2) c dv⟩⟩
/-- x = [] -/
theorem g_new {i : Nat} (k : ∀ L, H L = none → tz D (σ.set i (some (.ref L))) (upd H L (.lst []))) : tSeq (tAsg (tLst tNil) (gName i)) tz D σ H := ⟨by show 0 ≤ sizeLine; exact Nat.zero_le _, fun p hp => k p hp⟩
end
theorem hid_sub {H : Hp} {D : Addr} : Ex (hid H D) H := fun a o q => by
  by_cases z : a = D
  · rw [z, hid_same] at q
    cases q
  · rw [hid_ne z] at q
    exact q
theorem ex_put {B H : Hp} {L : Addr} {o : HO} (h : B L = none) (e : Ex B H) : Ex B (upd H L o) := fun a u q => by
  rw [upd_ne (ne_of_none q h)]
  exact e a u q
end FW
set_option maxRecDepth 100000
set_option maxHeartbeats 4000000
/-! # FR5: a static method; making an object with a starred argument -/
namespace FW
open PySem L2
open Evl (Ex Ex.refl Ex.trans Ex.new Ex.mut EvT)
/-- C.m is a staticmethod: its record at p, its def at g -/
structure SMet (K : PySem.W.Frag) (C : Addr) (mc : Value) (m : Str) (p g : Addr) : Prop where
  at_ : PySem.W.findCls K (.ref C) mc m = some (.get (.builtin "staticmethod.__get__") (.ref p) .none (.ref C))
  rc : ∃ rest, PySem.W.recIn K p "staticmethod" = some (.ref g :: rest)
  kp : PySem.W.keepIn K (.ref g) = true
structure Sal (P : Program) (w : World) (K : PySem.W.Frag) (mg : Str → Option Value) (base : Heap) (CX : CXT) (k : Nat) (C : Addr) (mc : Value) (m : Str) (ps : List Str) (sp : Sp) : Prop where
  ex : ∃ p g fd, SMet K C mc m p g ∧ FnOk P w K mg base CX k g fd ps sp ∧ Binds K fd ps []
def tSMeth (C : Addr) (sp : Sp) (E : XK) (ta : TE) (t : TA) : TE := fun σ H Q => ta σ H fun x H1 => x = .ref C ∧ t σ H1 fun vs H2 => sp (vs ++ []) H2 Q E
/-- making an instance by its __init__ -/
structure Ini (P : Program) (w : World) (K : PySem.W.Frag) (mg : Str → Option Value) (base : Heap) (CX : CXT) (k : Nat) (C : Addr) (sp : Sp) : Prop where
  ex : ∃ f, Mk K C f ∧ FnR P w K mg base CX k f sp
section
variable {X : Cx} {CX : CXT} {k j : Nat} {C : Addr} {mc : Value} {sp : Sp} {E : XK} {o e : Expr} {es : List Expr} {m x : Str} {ps : List Str} {pos apos p : Pos} {ta : TE} {t : TA} {pl : Sem Bool}
theorem pe_smeth (he : PE X o ta) (r : ClX.CRead X.K C mc) (M : Sal X.prog X.w X.K X.mg X.base CX k C mc m ps sp) (hr : Room j X.A) (hx : Passes CX X E) (ha : PA X (e :: es) t) (hk : k ≤ j := by decide)
    (hst : starEach (e :: es) X.env = (false, eval e X.env) :: starEach es X.env := by rfl) (hpl : (backTo pos (starEach es X.env)).any (·.1) = false := by rfl)
    (ht : eval (.Call (.Attribute o m apos) (e :: es) [] pos) X.env = (do
      let ov ← eval o X.env
      standAt apos.atName
      let (f, first) ← holding [ov] (getMethod ov m pl)
      callWith pos f first (backTo pos (starEach (e :: es) X.env)) (backToKw pos (keywordEach [] X.env))) := by rfl) :
    PE X (.Call (.Attribute o m apos) (e :: es) [] pos) (tSMeth C sp E ta t) := by
  obtain ⟨p, g, fd, sm, F, hb⟩ := M.ex
  refine ⟨fun pins s σ H Q I h => ?_⟩
  refine PySem.W.methodCall_KW (pl := pl) (thn (he.run pins s σ H _ I h) fun u s1 ⟨x, H1, I1, rx, ex, q⟩ => ?_) ht
  subst ex
  obtain rfl : u = Value.ref C := rx
  obtain ⟨rest, hp⟩ := sm.rc
  refine PySem.W.method_cls I1.kIn r.ga (PySem.W.cls_bind I1.kIn r.rd sm.at_ (wpAny_call (PySem.W.sm_get (s := { s1 with toks := s1.toks + 1 }) I1.kIn hp (PySem.W.handed_on rfl ?_))))
  refine PySem.W.callWith_K (h₀ := X.base) I.ok.mod.kin sm.kp (thn (ha.run pos pins { s1 with toks := s1.toks + 1 } σ H1 _ (I1.tok _) q) fun us s2 ⟨vs, H2, I2, r, q2⟩ => ⟨I2.kIn, ?_⟩) hst hpl
  exact run_fn F (hr.mono hk) hb .nil hx I2 r q2
theorem pe_makeS (M : Ini X.prog X.w X.K X.mg X.base CX k C sp) (hr : Room j X.A) (hm : X.mg x = some (.ref C)) (hx : Passes CX X E) (ha : PA X (e :: es) t) (hk : k + 1 ≤ j := by decide) (hg : Gl X x := by rfl) (hdb : (x == ("__debug__" : Str)) = false := by decide)
    (he : starEach (e :: es) X.env = (false, eval e X.env) :: starEach es X.env := by rfl) (hst : (backTo pos (starEach es X.env)).any (·.1) = true := by rfl) : PE X (.Call (.Name x p) (e :: es) [] pos) (StX.tMakeR C sp E t) := by
  obtain ⟨f, M, F⟩ := M.ex
  refine ⟨fun pins s σ H Q I h => ?_⟩
  refine wpAny_Call_Name_kw (ld_glob I hg hm ?_ hdb)
  refine PySem.W.callWith_S2 (h₀ := X.base) I.ok.mod.kin M.kp (thn (ha.run pos pins s σ H _ I h) fun us s1 ⟨vs, H1, I1, r, q⟩ => ⟨I1.kIn, ?_⟩) he hst
  exact StX.run_makeR M F (hr.mono hk) hx I1 r q
theorem pe_makeP (M : Ini X.prog X.w X.K X.mg X.base CX k C sp) (hr : Room j X.A) (hm : X.mg x = some (.ref C)) (hx : Passes CX X E) (ha : PA X (e :: es) t) (hk : k + 1 ≤ j := by decide) (hg : Gl X x := by rfl) (hdb : (x == ("__debug__" : Str)) = false := by decide)
    (he : starEach (e :: es) X.env = (false, eval e X.env) :: starEach es X.env := by rfl) (hpl : (backTo pos (starEach es X.env)).any (·.1) = false := by rfl) : PE X (.Call (.Name x p) (e :: es) [] pos) (StX.tMakeR C sp E t) := by
  obtain ⟨f, M, F⟩ := M.ex
  exact StX.pe_makeR M F (hr.mono hk) hg hm hx ha hdb he hpl
end
/-! ### data that do not know an object -/
mutual
theorem Dq.hid {H : Hp} {a : Addr} (h1 : ∀ xs, H a ≠ some (.lst xs)) (h2 : ∀ xs, H a ≠ some (.tup xs)) : ∀ {v : V} {d : Dt}, Dq H v d → Dq (hid H a) v d
  | _, _, .non => .non
  | _, _, .bl b => .bl b
  | _, _, .int i => .int i
  | _, _, .str l => .str l
  | _, _, .lst (a := b) h k => .lst (by rw [hid_ne (fun z => h1 _ (by rw [← z]; exact h))]; exact h) (DqA.hid h1 h2 k)
  | _, _, .tup (a := b) h k => .tup (by rw [hid_ne (fun z => h2 _ (by rw [← z]; exact h))]; exact h) (DqA.hid h1 h2 k)
  | _, _, .obj a => .obj a
theorem DqA.hid {H : Hp} {a : Addr} (h1 : ∀ xs, H a ≠ some (.lst xs)) (h2 : ∀ xs, H a ≠ some (.tup xs)) : ∀ {vs : List V} {ds : List Dt}, DqA H vs ds → DqA (hid H a) vs ds
  | _, _, .nil => .nil
  | _, _, .cons h k => .cons (Dq.hid h1 h2 h) (DqA.hid h1 h2 k)
end
section
variable {K : PySem.W.Frag} {σ : St} {H : Hp} {ta tv : TE} {D : Ends} {tz : TS}
/-- o.f = value -/
theorem g_fld {a Cc dx : Addr} {fs : List (Str × V)} {f : Str} {d : Dt} (hv : EvD tv σ H d) (ho : EvD ta σ H (.obj a)) (hi : H a = some (.ins Cc dx fs)) (c : Cls K Cc) (n : NoAttr K Cc f) (hl : fs.length < 1000)
    (k : ∀ v H1, Ex H H1 → Dq H1 v d → tz D σ (upd H1 a (.ins Cc dx (putF f v fs)))) : tSeq (sFld K ta tv f) tz D σ H := hv H (Ex.refl H) _ fun v d' H1 e1 ed dv => ho H1 e1 _ fun x d2 H2 e2 ed2 dx2 => by
  subst ed ed2
  cases dx2
  exact ⟨a, Cc, dx, fs, rfl, (e1.trans e2) _ _ hi, c, n, hl, k v H2 (e1.trans e2) (dv.mono e2)⟩
theorem s_fld {a Cc dx : Addr} {fs : List (Str × V)} {f : Str} {d : Dt} (hv : EvD tv σ H d) (ho : EvD ta σ H (.obj a)) (hi : H a = some (.ins Cc dx fs)) (c : Cls K Cc) (n : NoAttr K Cc f) (hl : fs.length < 1000)
    (k : ∀ v H1, Ex H H1 → Dq H1 v d → D.nx σ (upd H1 a (.ins Cc dx (putF f v fs)))) : sFld K ta tv f D σ H := hv H (Ex.refl H) _ fun v d' H1 e1 ed dv => ho H1 e1 _ fun x d2 H2 e2 ed2 dx2 => by
  subst ed ed2
  cases dx2
  exact ⟨a, Cc, dx, fs, rfl, (e1.trans e2) _ _ hi, c, n, hl, k v H2 (e1.trans e2) (dv.mono e2)⟩
/-- C.f, a constant of the class -/
theorem ed_cval {Cc : Addr} {mc : Value} {f : Str} {v : V} {u : Value} {d : Dt} (h : EvD ta σ H (.obj Cc)) (r : ClX.CRead K Cc mc) (c : ClX.CVal K Cc mc f v u) (hd : ∀ H, Dq H v d) : EvD (ClX.tCVal K ta f) σ H d := fun H1 e Q q =>
  h H1 e _ fun x d' H2 e2 ed k => by
    subst ed
    cases k
    exact ⟨Cc, mc, v, u, rfl, r, c, q v d H2 e2 rfl (hd H2)⟩
/-- C.m(..), a staticmethod -/
theorem ed_smeth {R : Hp → List Dt → (Dt → Prop) → Prop} {t : TA} {ds : List Dt} {Cc : Addr} {E : XK} {C : Dt → Prop} (ho : EvD ta σ H (.obj Cc)) (h : EvAD t σ H ds) (hR : ∀ H1, Ex H H1 → R H1 ds C) : EvC (tSMeth Cc (spR R) E ta t) σ H C := fun H1 e Q q =>
  ho H1 e _ fun x d H2 e2 ed k => by
    subst ed
    cases k
    exact ⟨rfl, h H2 (e.trans e2) _ fun vs H3 e3 ks => ⟨ds, C, by rw [List.append_nil]; exact ks, hR H3 ((e.trans e2).trans e3), fun v d H4 e4 c dq => q v d H4 ((e2.trans e3).trans e4) c dq⟩⟩
end
end FW
set_option maxRecDepth 100000
set_option maxHeartbeats 4000000
/-! # FS: the frames of a def's proof for any promise -/
namespace FW
open PySem L2
open Evl (Ex Ex.refl Ex.trans Ex.new Ex.mut EvT)
section
variable {P : Program} {w : World} {K : PySem.W.Frag} {mg : Str → Option Value} {base : Heap}
theorem fn_ofS {k : Nat} {x q : Str} {N ps : List Str} {sp : Sp} {st : Stmt} {f : Addr} {fd : FuncData} (S : FnScope N ps (defScope st)) (F : Fun K x q st f fd) (len : ∀ vs H Q E, sp vs H Q E → vs.length = ps.length)
    (hbody : ∀ (f cdv : _) (A : Around) (outer : List Env) (s : Shared) (H : Hp), Room k (A.deeper (PyProof.Rows.envOfC q (defScope st) s.heap.objs.size f cdv)) → ∀ (E : XK), ∃ t, PSs (cxOf CX0 P w K mg base N q (defScope st) f cdv A outer s H E).nox (defBody st) t ∧
      ∀ (vs : List V) (Q : VK), sp vs H Q E → t { nx := fun _ H' => Q .non H', rt := Q } (start N vs) H) : FnOk P w K mg base CX0 (k + 1) f fd ps sp := by
  refine F.ok S len (fun cdv A outer s H vs Q E hr h => ?_)
  obtain ⟨t, ht, hq⟩ := hbody f cdv A outer s H hr E
  exact ⟨t, ht, hq vs Q h⟩
theorem cal_ofS {k : Nat} {x : Str} {N ps : List Str} {sp : Sp} {st : Stmt} (S : FnScope N ps (defScope st)) (F : DefAt K mg x st) (len : ∀ vs H Q E, sp vs H Q E → vs.length = ps.length)
    (hb : ∀ (kV doc pm : Value) (an : Option Addr) (cdv ct : Value) (us : List Value), us.length = ps.length → bindArgs (PySem.W.fnOf x x (defArgs st) (defBody st) (defScope st) .none kV doc pm an cdv ct) ⟨us, []⟩ = pure (ps.zip us))
    (hbody : ∀ (f cdv : _) (A : Around) (outer : List Env) (s : Shared) (H : Hp), Room k (A.deeper (PyProof.Rows.envOfC x (defScope st) s.heap.objs.size f cdv)) → ∀ (E : XK), ∃ t, PSs (cxOf CX0 P w K mg base N x (defScope st) f cdv A outer s H E).nox (defBody st) t ∧
      ∀ (vs : List V) (Q : VK), sp vs H Q E → t { nx := fun _ H' => Q .non H', rt := Q } (start N vs) H) : Cal P w K mg base CX0 (k + 1) x ps sp := cal_mk F (fun f fd F => fn_ofS S F len hbody) hb
theorem sal_ofS {k : Nat} {C : Addr} {mc : Value} {x q : Str} {N ps : List Str} {sp : Sp} {st : Stmt} (S : FnScope N ps (defScope st)) (F : ∃ p g fd, SMet K C mc x p g ∧ Fun K x q st g fd) (len : ∀ vs H Q E, sp vs H Q E → vs.length = ps.length)
    (hb : ∀ (kV doc pm : Value) (an : Option Addr) (cdv ct : Value) (us : List Value), us.length = ps.length → bindArgs (PySem.W.fnOf x q (defArgs st) (defBody st) (defScope st) .none kV doc pm an cdv ct) ⟨us, []⟩ = pure (ps.zip us))
    (hbody : ∀ (f cdv : _) (A : Around) (outer : List Env) (s : Shared) (H : Hp), Room k (A.deeper (PyProof.Rows.envOfC q (defScope st) s.heap.objs.size f cdv)) → ∀ (E : XK), ∃ t, PSs (cxOf CX0 P w K mg base N q (defScope st) f cdv A outer s H E).nox (defBody st) t ∧
      ∀ (vs : List V) (Q : VK), sp vs H Q E → t { nx := fun _ H' => Q .non H', rt := Q } (start N vs) H) : Sal P w K mg base CX0 (k + 1) C mc x ps sp := by
  obtain ⟨p, g, fd, sm, F⟩ := F
  exact ⟨p, g, fd, sm, fn_ofS S F len hbody, F.binds hb⟩
/-- an __init__ with a star parameter -/
theorem ini_ofS {k : Nat} {C : Addr} {x q pv : Str} {N ps : List Str} {sp sp0 : Sp} {st : Stmt} (S : FnScope N (ps ++ [pv]) (defScope st)) (F : ∃ f fd, Mk K C f ∧ Fun K x q st f fd)
    (hb : ∀ (kV doc pm : Value) (an : Option Addr) (cdv ct : Value) (us rest : List Value), us.length = ps.length → bindArgs (PySem.W.fnOf x q (defArgs st) (defBody st) (defScope st) .none kV doc pm an cdv ct) ⟨us ++ rest, []⟩ = (newTuple rest >>= fun t => pure (ps.zip us ++ [(pv, t)])))
    (hs : ∀ vs H Q E, sp vs H Q E → ∃ ws rest, vs = ws ++ rest ∧ ws.length = ps.length ∧ rest.length ≤ sizeLine ∧ ∀ p, H p = Option.none → sp0 (ws ++ [V.ref p]) (upd H p (.tup rest)) Q E)
    (hbody : ∀ (f cdv : _) (A : Around) (outer : List Env) (s : Shared) (H : Hp), Room k (A.deeper (PyProof.Rows.envOfC q (defScope st) s.heap.objs.size f cdv)) → ∀ (E : XK), ∃ t, PSs (cxOf CX0 P w K mg base N q (defScope st) f cdv A outer s H E).nox (defBody st) t ∧
      ∀ (vs : List V) (Q : VK), sp0 vs H Q E → t { nx := fun _ H' => Q .non H', rt := Q } (start N vs) H) : Ini P w K mg base CX0 (k + 1) C sp := by
  obtain ⟨f, fd, M, F⟩ := F
  obtain ⟨oc, od, kV, doc, pm, an, cdv, ct, osl, rfl, lk, hcd⟩ := F.ex
  have R := StX.fn_star (P := P) (w := w) (mg := mg) (base := base) (k := k) (ps := ps) (pv := pv) (N := N) (sp := sp0) (CX := CX0) lk hcd S StX.cxUp_none (hb kV doc pm an cdv ct) fun A outer s H vs Q E hr h => by
    obtain ⟨t, ht, hq⟩ := hbody f cdv A outer s H hr E
    exact ⟨t, ht.nox, hq vs Q h⟩
  refine ⟨f, M, fun A outer s H us vs Q E hr e0 r h => R A outer s H us vs Q E hr e0 r (hs vs H Q E h)⟩
end
section
variable {σ : St} {H : Hp} {D : Ends} {t : TA}
theorem r_makeS {C : Addr} {sp : Sp} {E : XK} {ds : List Dt} (h : EvAD t σ H ds) (k : ∀ vs H2, Ex H H2 → DqA H2 vs ds → ∀ x dx, H2 x = none → H2 dx = none → dx ≠ x → sp (V.ref x :: vs) (upd (upd H2 dx (.own x)) x (.ins C dx [])) (fun v H3 => v = .non ∧ D.rt (.ref x) H3) E) : tRet (StX.tMakeR C sp E t) D σ H :=
  h H (Ex.refl H) _ fun vs H2 e kv x dx h1 h2 h3 => k vs H2 e kv x dx h1 h2 h3
end
end FW
set_option maxRecDepth 100000
set_option maxHeartbeats 4000000
/-! # FR6: a comprehension of two fors, the second over a text -/
namespace FW
open PySem L2
open Evl (Ex Ex.refl Ex.trans Ex.new Ex.mut EvT)
section
variable {K : PySem.W.Frag} {σ : St} {H : Hp}
theorem ed_lc2 {wi : TI} {te1 te : TE} {tt1 : TT} {vs vs1 : List Nat} {j1 j2 : Nat} {xs : List Dt} {l : List Nat} (p : Dt → Nat → Bool) (g : Dt → Nat → Dt) (hi : EvI wi σ H (fun ys => ys = xs)) (hz : xs.length * l.length + l.length ≤ 50000)
    (hw : ∀ v, wipe ((wipe σ vs).set j1 (some v)) vs = wipe σ vs)
    (hw1 : ∀ v w, wipe ((wipe ((wipe σ vs).set j1 (some v)) vs1).set j2 (some w)) vs1 = wipe ((wipe σ vs).set j1 (some v)) vs1)
    (hl : ∀ v B, Ex H B → EvD te1 ((wipe σ vs).set j1 (some v)) B (.str l))
    (turn : ∀ (i : Nat) x v B, xs[i]? = some x → Ex H B → Dq B v x → ∀ c ∈ l, ∀ w, Dq B w (.str [c]) → EvB tt1 ((wipe ((wipe σ vs).set j1 (some v)) vs1).set j2 (some w)) B (p x c) ∧ (p x c = true → EvD te ((wipe ((wipe σ vs).set j1 (some v)) vs1).set j2 (some w)) B (g x c))) :
    EvD (tLc2 wi (gName j1) tYes (iStr te1) (gName j2) (tHideT tt1) (tHide te) vs vs1) σ H (.lst (xs.flatMap fun x => (l.filter (p x)).map (g x))) := fun H0 e Q q => hi H0 e _ fun xs' J H1 e1 cx W Dl hD => by
  subst cx
  let F : Dt → List Dt := fun x => (l.filter (p x)).map (g x)
  let Pd : List Dt → Hp → Prop := fun ds H' => ∃ ws, Ex H1 (hid H' Dl) ∧ H' Dl = some (.lst ws) ∧ DqA (hid H' Dl) ws ds
  have back : ∀ {H' : Hp}, Ex H1 (hid H' Dl) → Ex H1 H' := fun {H'} z a o r => by
    have y := z a o r
    rw [hid_ne (ne_of_none r hD)] at y
    exact y
  have hidM : ∀ {H' H'' : Hp}, Ex H' H'' → Ex (hid H' Dl) (hid H'' Dl) := fun e2 a o r => by
    by_cases z : a = Dl
    · rw [z, hid_same] at r
      cases r
    · rw [hid_ne z] at r ⊢
      exact e2 a o r
  have grow : ∀ {ds : List Dt} {H' H'' : Hp}, Pd ds H' → Ex H' H'' → Pd ds H'' := fun ⟨ws, a, b, c⟩ e2 => by
    exact ⟨ws, a.trans (hidM e2), e2 _ _ b, c.mono (hidM e2)⟩
  have flen : ∀ ys : List Dt, (ys.flatMap F).length ≤ ys.length * l.length := fun ys => by
    induction ys with
    | nil => simp
    | cons y ys ih =>
      rw [List.flatMap_cons, List.length_append, List.length_cons, Nat.succ_mul]
      have : (F y).length ≤ l.length := by
        show ((l.filter (p y)).map (g y)).length ≤ _
        rw [List.length_map]
        exact List.length_filter_le _ _
      omega
  refine ⟨fun i m H' => m = xs'.length - i ∧ i ≤ xs'.length ∧ Pd ((xs'.take i).flatMap F) H', ⟨xs'.length, by simp, Nat.zero_le _, [], hid_ex hD (Ex.new hD), upd_same, .nil⟩, ?_⟩
  rintro i m H' ⟨rfl, hi', pd⟩
  have pdE : Ex H1 H' := by
    obtain ⟨ws, p1, _, _⟩ := pd
    exact back p1
  by_cases hlt : i < xs'.length
  · refine .inr ⟨W.goes i H' hlt pdE, Pd ((xs'.take (i + 1)).flatMap F), fun H'' p' => ⟨xs'.length - (i + 1), by omega, rfl, hlt, p'⟩, fun v H'' y => ?_⟩
    obtain ⟨ws0, p1, p2, p3⟩ := pd
    obtain ⟨x, B, ex, e2, eB1, eB2, dx, hB⟩ := W.yields i H' v H'' hlt pdE y
    have BD : B Dl = none := hB Dl hD (by rw [p2]; simp)
    have pd2 : Pd ((xs'.take i).flatMap F) H'' := grow ⟨ws0, p1, p2, p3⟩ e2
    have eHB : Ex H B := (e.trans e1).trans eB1
    have tk : (xs'.take (i + 1)).flatMap F = (xs'.take i).flatMap F ++ F x := by
      rw [List.take_succ, ex, List.flatMap_append]
      simp
    refine ⟨hw v, ?_⟩
    refine hl v H'' (eHB.trans eB2) H'' (Ex.refl _) _ fun z dz H3 e3 cz kz => ?_
    subst cz
    cases kz
    refine ⟨_, rfl, ?_⟩
    have bl : ∀ j : Nat, ((xs'.take i).flatMap F ++ ((l.take j).filter (p x)).map (g x)).length ≤ 50000 - 1 ∨ l.length ≤ j := fun j => by
      have h1 := flen (xs'.take i)
      have h2 : ((l.take j).filter (p x)).length ≤ (l.take j).length := List.length_filter_le _ _
      rw [List.length_append, List.length_map]
      rw [List.length_take] at h1 h2
      by_cases hj : l.length ≤ j
      · exact .inr hj
      · left
        have h3 : min i xs'.length * l.length ≤ xs'.length * l.length := Nat.mul_le_mul_right _ (Nat.min_le_right _ _)
        omega
    refine ⟨fun j k H => k = l.length - j ∧ j ≤ l.length ∧ Pd ((xs'.take i).flatMap F ++ ((l.take j).filter (p x)).map (g x)) H ∧ Ex B (hid H Dl), ⟨l.length, by simp, Nat.zero_le _, by simpa using grow pd2 e3, (hid_ex BD eB2).trans (hidM e3)⟩, ?_⟩
    rintro j k H' ⟨rfl, hj, pj, eBj⟩
    by_cases hjl : j < l.length
    · refine .inr ⟨by show j < (S l).cps.size; exact hjl, fun H4 => Pd ((xs'.take i).flatMap F ++ ((l.take (j + 1)).filter (p x)).map (g x)) H4 ∧ Ex B (hid H4 Dl), fun H4 p4 => ⟨l.length - (j + 1), by omega, rfl, hjl, p4.1, p4.2⟩, fun u H4 yu => ?_⟩
      obtain ⟨rfl, c, ec, rfl⟩ := yu
      have ec : l[j]? = some c := by
        have z : (S l).cps[j]? = some c := ec
        rw [← Array.getElem?_toList] at z
        exact z
      refine ⟨hw1 v _, ?_⟩
      obtain ⟨ws, q1, q2, q3⟩ := pj
      obtain ⟨ht, hv⟩ := turn i x v B ex eHB dx c (List.mem_of_getElem? ec) _ (.str [c])
      have tkj : (l.take (j + 1)).filter (p x) = (l.take j).filter (p x) ++ (if p x c then [c] else []) := by
        rw [List.take_succ, ec, List.filter_append]
        simp [List.filter_cons]
      refine ⟨Dl, ws, q2, ?_⟩
      refine ht (hid H4 Dl) eBj _ fun b H5 e4 tb hn => ?_
      subst tb
      have eH5 : hid (upd H5 Dl (.lst ws)) Dl = H5 := by
        funext a
        by_cases z : a = Dl
        · rw [z, hid_same, hn]
        · rw [hid_ne z, upd_ne z]
      cases hp : p x c with
      | false =>
        refine ⟨⟨ws, ?_, upd_same, ?_⟩, ?_⟩
        · rw [eH5]
          exact q1.trans e4
        · rw [eH5, tkj, hp]
          simpa using q3.mono e4
        · rw [eH5]
          exact eBj.trans e4
      | true =>
        refine ⟨Dl, ws, upd_same, ?_⟩
        rw [eH5]
        refine hv hp H5 (eBj.trans e4) _ fun y d H6 e5 cd dy hn6 => ?_
        subst cd
        have hlen : ws.length ≤ 49999 := by
          rw [q3.len]
          rcases bl j with z | z
          · exact z
          · omega
        refine ⟨ws, upd_same, szlt (by omega), ?_⟩
        have eH6 : hid (upd (upd H6 Dl (.lst ws)) Dl (.lst (ws ++ [y]))) Dl = H6 := by
          funext a
          by_cases z : a = Dl
          · rw [z, hid_same, hn6]
          · rw [hid_ne z, upd_ne z, upd_ne z]
        refine ⟨⟨ws ++ [y], ?_, upd_same, ?_⟩, ?_⟩
        · rw [eH6]
          exact q1.trans (e4.trans e5)
        · rw [eH6, tkj, hp]
          have z := (q3.mono (e4.trans e5)).app (.one dy)
          simpa using z
        · rw [eH6]
          exact eBj.trans (e4.trans e5)
    · have ej : j = l.length := by omega
      subst ej
      refine .inl ⟨by show (S l).cps.size ≤ l.length; exact Nat.le_refl _, ?_⟩
      rw [List.take_length] at pj
      show Pd ((xs'.take (i + 1)).flatMap F) H'
      rw [tk]
      exact pj
  · have ei : i = xs'.length := by omega
    subst ei
    rw [List.take_length] at pd
    obtain ⟨ws, p1, p2, p3⟩ := pd
    refine .inl ⟨W.stops H' pdE, q _ _ H' (e1.trans pdE) rfl (.lst p2 (p3.mono fun a o r => ?_))⟩
    by_cases z : a = Dl
    · rw [z, hid_same] at r
      cases r
    · rw [hid_ne z] at r
      exact r
end
end FW
set_option maxRecDepth 100000
set_option maxHeartbeats 4000000
/-! # FR7: dicts by texts; sorted of texts, any number -/
namespace FW
open PySem L2
open Evl (Ex Ex.refl Ex.trans Ex.new Ex.mut EvT)
abbrev Key' := L2.Key
def kS (l : List Nat) : L2.Key := .inr (S l)
theorem kS_inj {a b : List Nat} (h : kS a = kS b) : a = b := S_inj (Sum.inr.inj h)
section
variable {X : Cx}
def rSortedSA (K : PySem.W.Frag) : List V → Hp → VK → Prop := fun vs H Q => ∃ (a : Addr) (xs : List Str), vs = [V.ref a] ∧ SqL K H a (xs.map V.str) ∧ ∀ (ys : List Str) (p : Addr), ys.Perm xs → PyProof.Rows.sortedS ys = true → H p = none → Q (.ref p) (upd H p (.lst (ys.map V.str)))
theorem cr_sortedSA : CallR X (.builtin "sorted") (rSortedSA X.K) := by
  intro pins s σ H vs us Q I r h
  obtain ⟨a, xs, rfl, hs, q⟩ := h
  obtain ⟨its, rv, hl, hz⟩ := I.list hs
  rw [Vals.ref1 r]
  have hlen0 := rv.length
  rw [List.length_map] at hlen0 hz
  refine PyProof.Rows.sorted_strsAny hl.isList rv.strs (by rw [← hlen0]; exact hz) fun out ys h1 h2 h3 => ?_
  obtain ⟨ep, he'⟩ := PyProof.Rows.sortedAll_at s.heap its out
  have hlen : (ys.map V.str).length ≤ sizeLine := by rw [List.length_map, h2.length_eq]; exact hz
  exact ⟨.ref _, upd H (s.heap.objs.size + 1) (.lst (ys.map V.str)), I.laid (t' := s.toks) (fun _ _ => PyProof.Rows.sortedAll_old) (Nat.le_succ _) ⟨hlen, out.toList, ep, vals_of_strs h1, he'⟩, rfl, q ys _ h2 h3 (I.hok.fresh (Nat.le_succ _))⟩
variable {a : Expr} {ta : TE} {p pos : Pos}
theorem pe_sortedA (T : Txt X.mg) (ha : PE X a ta) (hg : Gl X "sorted" := by rfl) (hs : starEach (a :: []) X.env = (false, eval a X.env) :: starEach [] X.env := by rfl) (hpl : (backTo pos (starEach [] X.env)).any (·.1) = false := by rfl) : PE X (.Call (.Name "sorted" p) [a] [] pos) (tCB (rSortedSA X.K) (tCons ta tNil)) :=
  pe_callB cr_sortedSA hg T.sorted PyProof.Rows.boot_sorted (pa_cons ha pa_nil hs) (by decide) (by decide) hs hpl
theorem pe_listDk (T : Txt X.mg) (hc : X.calm = true) (ha : PE X a ta) (hg : Gl X "list" := by rfl) (hs : starEach (a :: []) X.env = (false, eval a X.env) :: starEach [] X.env := by rfl) (hpl : (backTo pos (starEach [] X.env)).any (·.1) = false := by rfl) : PE X (.Call (.Name "list" p) [a] [] pos) (tCB rListD (tCons ta tNil)) :=
  pe_callTy (call_list_dK hc) hg T.list PyProof.Rows.boot_list (pa_cons ha pa_nil hs) (by decide) (by decide) hs hpl
end
section
variable {K : PySem.W.Frag} {σ : St} {H : Hp} {ta tb td ty tv : TE} {D : Ends} {tz : TS} {C : Dt → Prop}
theorem ec_sortedA {ls : List (List Nat)} (ha : EvD ta σ H (.lst (ls.map Dt.str))) : EvC (tCB (rSortedSA K) (tCons ta tNil)) σ H (fun d => ∃ ms : List (List Nat), d = .lst (ms.map Dt.str) ∧ ms.Perm ls) := ec_cbD (ad_cons ha ad_nil) fun vs H1 _ k Q q => by
  obtain ⟨x, rfl, hx⟩ := dqa1 k
  obtain ⟨p, xs, rfl, h1, k1⟩ := dq_lst hx
  rw [strs_of k1] at h1
  refine ⟨p, ls.map S, rfl, sqL_of h1, fun ys r hp _ hr => ?_⟩
  have e : ys = (ys.map fun z => z.cps.toList).map S := by
    rw [List.map_map]
    have : (S ∘ fun z : Str => z.cps.toList) = id := by
      funext z
      rfl
    rw [this, List.map_id]
  have hp2 : (ys.map fun z => z.cps.toList).Perm ls := by
    have z := hp.map fun z : Str => z.cps.toList
    rw [List.map_map] at z
    have : (ls.map ((fun z : Str => z.cps.toList) ∘ S)) = ls := List.map_id _
    rw [this] at z
    exact z
  refine q _ _ _ (Ex.new hr) ⟨_, rfl, hp2⟩ (.lst upd_same ?_)
  have z := dqa_strs (H := upd H1 r (.lst (ys.map V.str))) (ys.map fun z => z.cps.toList)
  rw [← e] at z
  exact z
/-- a value, whatever the heap has grown to -/
def EvW (te : TE) (σ : St) (H : Hp) (v : V) : Prop := ∀ H1, Ex H H1 → EvV te σ H1 v
theorem vw_var {i : Nat} {v : V} (h : σ[i]? = some (some v)) : EvW (tVar i) σ H v := fun _ _ => vv_var h
theorem ed_dnotin {a : Addr} {kvs : List (L2.Key × V)} {l : List Nat} (hy : EvD ty σ H (.str l)) (hd : EvW td σ H (.ref a)) (hk : H a = some (.dK kvs)) : EvD (tDNotIn ty td) σ H (.bl (!(valV kvs (kS l)).isSome)) := fun H1 e Q q =>
  hy H1 e _ fun y d H2 e2 c k => by
    subst c
    cases k
    exact hd H2 (e.trans e2) _ fun H3 e3 => ⟨a, _, rfl, DGet.k (k := kS l) (((e.trans e2).trans e3) _ _ hk), q _ _ H3 (e2.trans e3) rfl (.bl _)⟩
theorem ed_dget {a : Addr} {kvs : List (L2.Key × V)} {l : List Nat} {v : V} {d : Dt} (hd : EvW td σ H (.ref a)) (hy : EvD ty σ H (.str l)) (hk : H a = some (.dK kvs)) (hv : valV kvs (kS l) = some v) (dv : Dq H v d) : EvD (tDGet td ty) σ H d := fun H1 e Q q =>
  hd H1 e _ fun H2 e2 => hy H2 (e.trans e2) _ fun y d' H3 e3 c k => by
    subst c
    cases k
    have g := DGet.k (k := kS l) (((e.trans e2).trans e3) _ _ hk)
    rw [hv] at g
    exact ⟨a, v, rfl, g, q v d H3 (e2.trans e3) rfl (dv.mono ((e.trans e2).trans e3))⟩
theorem g_dput {a : Addr} {kvs : List (L2.Key × V)} {l : List Nat} (hv : EvC tv σ H C) (hd : EvW td σ H (.ref a)) (hy : EvD ty σ H (.str l)) (hk : H a = some (.dK kvs)) (hz : kvs.length < 100000)
    (k : ∀ v d H1, Ex H H1 → C d → Dq H1 v d → tz D σ (upd H1 a (.dK (putK kvs (kS l) v)))) : tSeq (sDPut td ty tv) tz D σ H := hv H (Ex.refl H) _ fun v d H1 e1 c dv => hd H1 e1 _ fun H2 e2 => hy H2 (e1.trans e2) _ fun y d' H3 e3 c' k' => by
  subst c'
  cases k'
  exact ⟨a, _, rfl, .inl ⟨kvs, kS l, ((e1.trans e2).trans e3) _ _ hk, rfl, szlt hz, rfl⟩, k v d H3 ((e1.trans e2).trans e3) c (dv.mono (e2.trans e3))⟩
theorem s_dput {a : Addr} {kvs : List (L2.Key × V)} {l : List Nat} (hv : EvC tv σ H C) (hd : EvW td σ H (.ref a)) (hy : EvD ty σ H (.str l)) (hk : H a = some (.dK kvs)) (hz : kvs.length < 100000)
    (k : ∀ v d H1, Ex H H1 → C d → Dq H1 v d → D.nx σ (upd H1 a (.dK (putK kvs (kS l) v)))) : sDPut td ty tv D σ H := hv H (Ex.refl H) _ fun v d H1 e1 c dv => hd H1 e1 _ fun H2 e2 => hy H2 (e1.trans e2) _ fun y d' H3 e3 c' k' => by
  subst c'
  cases k'
  exact ⟨a, _, rfl, .inl ⟨kvs, kS l, ((e1.trans e2).trans e3) _ _ hk, rfl, szlt hz, rfl⟩, k v d H3 ((e1.trans e2).trans e3) c (dv.mono (e2.trans e3))⟩
end
/-- the keys -/
def keysL (kvs : List (L2.Key × V)) (L : List (List Nat)) : Prop := kvs.map (·.1) = L.map kS
theorem keys_none {kvs : List (L2.Key × V)} {L : List (List Nat)} {l : List Nat} (h : keysL kvs L) : (valV kvs (kS l)).isSome = decide (l ∈ L) := by
  rw [← valV_any]
  have : (kvs.any fun kv => decide (kv.1 = kS l)) = ((kvs.map (·.1)).any fun k => decide (k = kS l)) := by
    rw [List.any_map]
    rfl
  rw [this, h, List.any_map]
  by_cases e : l ∈ L
  · rw [decide_eq_true e, List.any_eq_true]
    exact ⟨l, e, by simp⟩
  · rw [decide_eq_false e, List.any_eq_false]
    intro x hx
    simp
    exact fun z => e (kS_inj z ▸ hx)
theorem keys_put {kvs : List (L2.Key × V)} {L : List (List Nat)} {l : List Nat} {v : V} (h : keysL kvs L) (hn : l ∉ L) : keysL (putK kvs (kS l) v) (L ++ [l]) := by
  have e : valV kvs (kS l) = none := by
    have z := keys_none (l := l) h
    rw [decide_eq_false hn] at z
    simpa using z
  rw [putK_new v e]
  unfold keysL at h ⊢
  rw [List.map_append, h, List.map_append]
  rfl
end FW
set_option maxRecDepth 100000
set_option maxHeartbeats 4000000
namespace FW
open PySem L2
open Evl (Ex Ex.refl Ex.trans Ex.new Ex.mut EvT)
section
variable {P : Program} {w : World} {K : PySem.W.Frag} {mg : Str → Option Value} {base : Heap}
abbrev st_takes : Stmt := top 45
theorem sc_takes : FnScope ["part", "letter"] ["part", "letter"] (defScope st_takes) := ⟨rfl, rfl, rfl, by decide +kernel, rfl, by decide +kernel, by decide +kernel⟩
def R_takes (_ : Hp) (ds : List Dt) (C : Dt → Prop) : Prop := ∃ p c, ds = [.str p, .str [c]] ∧ C = fun e => e = .bl (takesL p c)
theorem c_takes (T : Txt mg) (F : DefAt K mg "takes" st_takes) : Cal P w K mg base CX0 1 "takes" ["part", "letter"] (spR R_takes) := by
  refine cal_of sc_takes F (fun _ _ _ ⟨_, _, e, _⟩ => by rw [e]; rfl) (fun _ _ _ _ _ _ us hl => match us, hl with | [_, _], _ => rfl) fun f cdv A outer s H hr E => ?_
  refine ⟨_, (pss_one (ps_ret (pe_or (pe_cmpR op_eq (pv 0) pe_str (nomark _)) (pe_one (pe_cmpR op_inSg (pv 1) (pv 0) rfl))))), ?_⟩
  rintro ds C vs hd ⟨p, c, rfl, rfl⟩ D kr kn
  obtain ⟨x, y, rfl, hx, hy⟩ := dqa2 hd
  exact g_ret (C := fun e => e = .bl (takesL p c)) (ed_orV (ed_eq (ed_var rfl hx) ed_str rfl) fun _ => ed_inS (ed_var rfl hy) (ed_var rfl hx)) kr
theorem map_all2 {α : Type} (l : List α) (f : α → Bool) : (l.map fun x => Dt.bl (f x)) = (l.map f).map Dt.bl := by rw [List.map_map]; rfl
theorem zipD {ps : List (List Nat)} {r : List Nat} : zipTS (ps.map Dt.str) r = (ps.zip r).map fun q => Dt.tup [.str q.1, .str [q.2]] := by
  unfold zipTS
  rw [List.zip_map_left, List.map_map]
  rfl
abbrev st_fits : Stmt := top 46
theorem sc_fits : FnScope ["line", "room", "cutter", "part", "face"] ["line", "room", "cutter"] (defScope st_fits) := ⟨rfl, rfl, rfl, by decide +kernel, rfl, by decide +kernel, by decide +kernel⟩
def R_fits (_ : Hp) (ds : List Dt) (C : Dt → Prop) : Prop := ∃ l r k, ds = [Ln.d l, .str r, .str [k]] ∧ C = fun e => e = .bl (fitsL l r k)
theorem pair_at {i : Nat} {a b : Dt} {qs : List (List Nat × Nat)} (h : (qs.map fun q => Dt.tup [.str q.1, .str [q.2]])[i]? = some (.tup [a, b])) : ∃ p c, a = .str p ∧ b = .str [c] := by
  obtain ⟨q, _, e⟩ := map_at h
  simp at e
  exact ⟨q.1, q.2, e.1, e.2⟩
def takesD : Dt → Dt
  | .tup [.str p, .str [c]] => .bl (takesL p c)
  | _ => .non
theorem takes_all (ps : List (List Nat)) (r : List Nat) : (zipTS (ps.map Dt.str) r).map takesD = ((ps.zip r).map fun q => takesL q.1 q.2).map Dt.bl := by
  rw [zipD, List.map_map, List.map_map]
  rfl
theorem zipTS_pair {xs : List Dt} {r : List Nat} : ∀ x, x ∈ zipTS xs r → ∃ a b, x = .tup [a, b] := fun x h => by
  unfold zipTS at h
  rw [List.mem_map] at h
  obtain ⟨q, _, rfl⟩ := h
  exact ⟨_, _, rfl⟩
theorem zipTS_short {xs : List Dt} {r : List Nat} (h : xs.length ≤ 4) : (zipTS xs r).length ≤ 100000 := by
  rw [zipTS_len]
  omega
theorem c_fits (T : Txt mg) (F : DefAt K mg "fits" st_fits) (C_takes : Cal P w K mg base CX0 1 "takes" ["part", "letter"] (spR R_takes)) : Cal P w K mg base CX0 2 "fits" ["line", "room", "cutter"] (spR R_fits) := by
  refine cal_of sc_fits F (fun _ _ _ ⟨_, _, _, e, _⟩ => by rw [e]; rfl) (fun _ _ _ _ _ _ us hl => match us, hl with | [_, _, _], _ => rfl) fun f cdv A outer s H hr E => ?_
  refine ⟨_, (pss_one (ps_ret (pe_and (pe_cal C_takes hr pass0 (pa_cons (pe_ix ix_U (pv 0) pe_int (fun _ _ => rfl)) (pa_cons (pv 2) pa_nil))) (pe_one (pe_all T rfl (pe_lc (own := [("part", 3), ("face", 4)]) (g := gTup K 2 (gCons (gName 3) (gCons (gName 4) gNil))) rfl sc_fits.nd (pi_zipTS rfl T.zip (pa_cons (pe_slice sl_U (pv 0) po_none (po_some pe_int)) (pa_cons (pv 1) pa_nil))) (blkOk_by (own := [("part", 3), ("face", 4)]) (N := ["line", "room", "cutter", "part", "face"]) (sc := defScope st_fits) (by decide +kernel)) (fun _ _ _ _ _ => (pg_tup rfl (pgs_cons (pg_name (i := 3) sc_fits.nd rfl (Or.inl rfl)) (pgs_cons (pg_name (i := 4) sc_fits.nd rfl (Or.inl rfl)) pgs_nil)))) (fun _ _ _ _ _ => pts_nilH) (fun _ _ _ _ _ => pe_hide (pe_cal C_takes hr pass0 (pa_cons (pv 3) (pa_cons (pv 4) pa_nil)))))))))), ?_⟩
  rintro ds C vs hd ⟨l, r, k, rfl, rfl⟩ D kr kn
  obtain ⟨x, y, z, rfl, hx, hy, hz⟩ := dqa3 hd
  refine g_ret (C := fun e => e = .bl (fitsL l r k)) ?_ kr
  refine ed_andV (b := ([l.p0, l.p1, l.p2, l.p3].zip r).all fun p => takesL p.1 p.2) (ed_call (ad_cons (ed_ix (ed_var rfl hx) ed_int rfl (by simp [okL, Ln.d])) (ad_cons (ed_var rfl hz) ad_nil)) fun H1 e => ⟨l.pc, k, rfl, rfl⟩) fun _ => ?_
  refine EvD.to (ed_all (bs := ([l.p0, l.p1, l.p2, l.p3].zip r).map fun p => takesL p.1 p.2) (EvD.to (ed_lcMP takesD (ei_zipTS (ed_sl (ed_var rfl hx) eo_none (eo_some ed_int) rfl (by simp [okL, Ln.d])) (ed_var rfl hy)) (zipTS_short (Nat.le_refl 4)) zipTS_pair (fun _ _ => rfl) fun i a b v w B ez eB da db => ?_) ?_)) ?_
  · have ez : (zipTS ([l.p0, l.p1, l.p2, l.p3].map Dt.str) r)[i]? = some (.tup [a, b]) := ez
    rw [zipD] at ez
    obtain ⟨p, c, rfl, rfl⟩ := pair_at ez
    exact ed_call (ad_cons (ed_var rfl da) (ad_cons (ed_var rfl db) ad_nil)) fun H1 e => ⟨p, c, rfl, rfl⟩
  · exact congrArg Dt.lst (takes_all [l.p0, l.p1, l.p2, l.p3] r)
  · rw [map_all]
abbrev st_is_room : Stmt := top 24
theorem sc_is_room : FnScope ["value", "faces"] ["value", "faces"] (defScope st_is_room) := ⟨rfl, rfl, rfl, by decide +kernel, rfl, by decide +kernel, by decide +kernel⟩
def isRoomD (d : Dt) (fc : List Nat) : Bool := isStringD d fc && (match d with | .str l => decide (l.length = 4) | _ => false)
def R_is_room (_ : Hp) (ds : List Dt) (C : Dt → Prop) : Prop := ∃ d fc, ds = [d, .str fc] ∧ noObj d ∧ okL d ∧ C = fun e => e = .bl (isRoomD d fc)
theorem c_is_room (T : Txt mg) (F : DefAt K mg "is_room" st_is_room) (C_is_string : Cal P w K mg base CX0 1 "is_string" ["value", "faces"] (spR R_is_string)) : Cal P w K mg base CX0 2 "is_room" ["value", "faces"] (spR R_is_room) := by
  refine cal_of sc_is_room F (fun _ _ _ ⟨_, _, e, _⟩ => by rw [e]; rfl) (fun _ _ _ _ _ _ us hl => match us, hl with | [_, _], _ => rfl) fun f cdv A outer s H hr E => ?_
  refine ⟨_, (pss_one (ps_ret (pe_and (pe_cal C_is_string hr pass0 (pa_cons (pv 0) (pa_cons (pv 1) pa_nil))) (pe_one (pe_cmpR op_eq (pe_len T (pv 0)) pe_int (nomark _)))))), ?_⟩
  rintro ds C vs hd ⟨d, fc, rfl, no, ok, rfl⟩ D kr kn
  obtain ⟨x, y, rfl, hx, hy⟩ := dqa2 hd
  refine g_ret (C := fun e => e = .bl (isRoomD d fc)) ?_ kr
  refine ed_andV (ed_call (ad_cons (ed_var rfl hx) (ad_cons (ed_var rfl hy) ad_nil)) fun H1 e => ⟨d, fc, rfl, no, ok, rfl⟩) fun h => ?_
  cases d <;> first | (cases h; done) | skip
  rename_i l
  refine EvD.to (ed_eq (ed_len (ed_var rfl hx) rfl ok) ed_int rfl) (congrArg Dt.bl ?_)
  show decide ((l.length : Int) = 4) = decide (l.length = 4)
  exact decide_eq_decide.mpr (by omega)
abbrev st_parts_of : Stmt := top 26
theorem sc_parts_of : FnScope ["room", "cut", "north", "east", "south", "west"] ["room", "cut"] (defScope st_parts_of) := ⟨rfl, rfl, rfl, by decide +kernel, rfl, by decide +kernel, by decide +kernel⟩
def R_parts (_ : Hp) (ds : List Dt) (C : Dt → Prop) : Prop := ∃ r c, ds = [.str r, .str c] ∧ is4 r ∧ okCut c ∧ C = fun e => e = .lst ((partsL r c).map Dt.str)
theorem c_parts_of (T : Txt mg) (F : DefAt K mg "parts_of" st_parts_of) {t : Tok} (h_UPRIGHT : mg "UPRIGHT" = some (.str "|" t)) : Cal P w K mg base CX0 1 "parts_of" ["room", "cut"] (spR R_parts) := by
  refine cal_of sc_parts_of F (fun _ _ _ ⟨_, _, e, _⟩ => by rw [e]; rfl) (fun _ _ _ _ _ _ us hl => match us, hl with | [_, _], _ => rfl) fun f cdv A outer s H hr E => ?_
  refine ⟨_, (pss_cons (ps_if (pt_cmpR op_eq (pv 1) pe_str (nomark _)) (pss_one (ps_ret (pe_lst (pa_cons (pv 0) pa_nil)))) pss_nil)
      (pss_cons (ps_asg (pe_tup (pa_cons (pe_ix ix_U (pv 0) pe_int (fun _ _ => rfl)) (pa_cons (pe_ix ix_U (pv 0) pe_int (fun _ _ => rfl)) (pa_cons (pe_ix ix_U (pv 0) pe_int (fun _ _ => rfl)) (pa_cons (pe_ix ix_U (pv 0) pe_int (fun _ _ => rfl)) pa_nil))))) (pg_tup rfl (pgs_cons (pg_name (i := 2) sc_parts_of.nd rfl (Or.inl rfl)) (pgs_cons (pg_name (i := 3) sc_parts_of.nd rfl (Or.inl rfl)) (pgs_cons (pg_name (i := 4) sc_parts_of.nd rfl (Or.inl rfl)) (pgs_cons (pg_name (i := 5) sc_parts_of.nd rfl (Or.inl rfl)) pgs_nil))))))
      (pss_cons (ps_if (pt_cmpR op_eq (pe_ix ix_U (pv 1) pe_int (fun _ _ => rfl)) (pe_globS h_UPRIGHT) (nomark _)) (pss_one (ps_ret (pe_lst (pa_cons (pe_op op_addU (pe_op op_addU (pe_op op_addU (pv 2) (pe_ix ix_U (pv 1) pe_int (fun _ _ => rfl))) (pv 4)) (pv 5)) (pa_cons (pe_op op_addU (pe_op op_addU (pe_op op_addU (pv 2) (pv 3)) (pv 4)) (pe_ix ix_U (pv 1) pe_int (fun _ _ => rfl))) pa_nil))))) pss_nil)
      (pss_one (ps_ret (pe_lst (pa_cons (pe_op op_addU (pe_op op_addU (pe_op op_addU (pv 2) (pv 3)) (pe_ix ix_U (pv 1) pe_int (fun _ _ => rfl))) (pv 5)) (pa_cons (pe_op op_addU (pe_op op_addU (pe_op op_addU (pe_ix ix_U (pv 1) pe_int (fun _ _ => rfl)) (pv 3)) (pv 4)) (pv 5)) pa_nil)))))))), ?_⟩
  rintro ds C vs hd ⟨r, c, rfl, ⟨n, e, s', w', rfl⟩, oc, rfl⟩ D kr kn
  obtain ⟨x, y, rfl, hx, hy⟩ := dqa2 hd
  rcases oc with rfl | ⟨o, a, b, rfl⟩
  · refine g_whenD (tq (xv hy) ed_str) (fun _ H1 e1 => ?_) (fun q => by cases q)
    exact rtD (xL (a1 (xv (hx.mono e1)))) e1 kr
  · refine g_whenD (tq (xv hy) ed_str) (fun q => by cases q) fun _ H1 e1 => ?_
    have hx := hx.mono e1
    have hy := hy.mono e1
    refine g_tup4 (xi (xv hx)) (xi (xv hx)) (xi (xv hx)) (xi (xv hx)) fun v1 v2 v3 v4 H2 e2 d1 d2 d3 d4 => ?_
    have hy := hy.mono e2
    by_cases ho : o = 124
    · subst ho
      refine g_whenD (tq (xi (xv hy)) ed_str) (fun _ H3 e3 => ?_) (fun q => by cases q)
      exact rtD (xL (a2 (xa (xa (xa (xv (d1.mono e3)) (xi (xv (hy.mono e3)))) (xv (d3.mono e3))) (xv (d4.mono e3))) (xa (xa (xa (xv (d1.mono e3)) (xv (d2.mono e3))) (xv (d3.mono e3))) (xi (xv (hy.mono e3)))))) ((e1.trans e2).trans e3) kr
    · have hq : eqS (.str [o]) (.str ("|" : Str).cps.toList) = false := by
        show decide ([o] = [124]) = false
        simp [ho]
      refine g_whenD (tq (xi (xv hy)) ed_str) (fun q => by rw [hq] at q; cases q) fun _ H3 e3 => ?_
      have hp : partsL [n, e, s', w'] [o, a, b] = [[n, e, a, w'], [b, e, s', w']] := if_neg ho
      rw [hp] at kr
      exact rtD (xL (a2 (xa (xa (xa (xv (d1.mono e3)) (xv (d2.mono e3))) (xi (xv (hy.mono e3)))) (xv (d4.mono e3))) (xa (xa (xa (xi (xv (hy.mono e3))) (xv (d2.mono e3))) (xv (d3.mono e3))) (xv (d4.mono e3))))) ((e1.trans e2).trans e3) kr
abbrev st_law_split : Stmt := top 70
theorem sc_law_split : FnScope ["_law_room", "_law_cut_here"] ["_law_room", "_law_cut_here"] (defScope st_law_split) := ⟨rfl, rfl, rfl, by decide +kernel, rfl, by decide +kernel, by decide +kernel⟩
theorem c_law_split (T : Txt mg) (F : DefAt K mg "_law_split" st_law_split) : Cal P w K mg base CX0 1 "_law_split" ["_law_room", "_law_cut_here"] (spR R_parts) := by
  refine cal_of sc_law_split F (fun _ _ _ ⟨_, _, e, _⟩ => by rw [e]; rfl) (fun _ _ _ _ _ _ us hl => match us, hl with | [_, _], _ => rfl) fun f cdv A outer s H hr E => ?_
  refine ⟨_, (pss_cons (ps_if (pt_cmpR op_eq (pv 1) pe_str (nomark _)) (pss_one (ps_ret (pe_lst (pa_cons (pv 0) pa_nil)))) pss_nil)
      (pss_cons (ps_if (pt_cmpR op_eq (pe_ix ix_U (pv 1) pe_int (fun _ _ => rfl)) pe_str (nomark _)) (pss_one (ps_ret (pe_lst (pa_cons (pe_op op_addU (pe_op op_addU (pe_ix ix_U (pv 0) pe_int (fun _ _ => rfl)) (pe_ix ix_U (pv 1) pe_int (fun _ _ => rfl))) (pe_slice sl_U (pv 0) (po_some pe_int) po_none)) (pa_cons (pe_op op_addU (pe_slice sl_U (pv 0) po_none (po_some pe_int)) (pe_ix ix_U (pv 1) pe_int (fun _ _ => rfl))) pa_nil))))) pss_nil)
      (pss_one (ps_ret (pe_lst (pa_cons (pe_op op_addU (pe_op op_addU (pe_slice sl_U (pv 0) po_none (po_some pe_int)) (pe_ix ix_U (pv 1) pe_int (fun _ _ => rfl))) (pe_ix ix_U (pv 0) pe_int (fun _ _ => rfl))) (pa_cons (pe_op op_addU (pe_ix ix_U (pv 1) pe_int (fun _ _ => rfl)) (pe_slice sl_U (pv 0) (po_some pe_int) po_none)) pa_nil))))))), ?_⟩
  rintro ds C vs hd ⟨r, c, rfl, ⟨n, e, s', w', rfl⟩, oc, rfl⟩ D kr kn
  obtain ⟨x, y, rfl, hx, hy⟩ := dqa2 hd
  rcases oc with rfl | ⟨o, a, b, rfl⟩
  · refine g_whenD (tq (xv hy) ed_str) (fun _ H1 e1 => ?_) (fun q => by cases q)
    exact rtD (xL (a1 (xv (hx.mono e1)))) e1 kr
  · refine g_whenD (tq (xv hy) ed_str) (fun q => by cases q) fun _ H1 e1 => ?_
    have hx := hx.mono e1
    have hy := hy.mono e1
    by_cases ho : o = 124
    · subst ho
      refine g_whenD (tq (xi (xv hy)) ed_str) (fun _ H3 e3 => ?_) (fun q => by cases q)
      have hx := hx.mono e3
      have hy := hy.mono e3
      exact rtD (xL (a2 (xa (xa (xi (xv hx)) (xi (xv hy))) (xs (xv hx) eo_i eo_none)) (xa (xs (xv hx) eo_none eo_i) (xi (xv hy))))) (e1.trans e3) kr
    · have hq : eqS (.str [o]) (.str ("|" : Str).cps.toList) = false := by
        show decide ([o] = [124]) = false
        simp [ho]
      refine g_whenD (tq (xi (xv hy)) ed_str) (fun q => by rw [hq] at q; cases q) fun _ H3 e3 => ?_
      have hx := hx.mono e3
      have hy := hy.mono e3
      have hp : partsL [n, e, s', w'] [o, a, b] = [[n, e, a, w'], [b, e, s', w']] := if_neg ho
      rw [hp] at kr
      exact rtD (xL (a2 (xa (xa (xs (xv hx) eo_none eo_i) (xi (xv hy))) (xi (xv hx))) (xa (xi (xv hy)) (xs (xv hx) eo_i eo_none)))) (e1.trans e3) kr
end
end FW
set_option maxRecDepth 100000
set_option maxHeartbeats 4000000
namespace FW
open PySem L2
open Evl (Ex Ex.refl Ex.trans Ex.new Ex.mut EvT)
section
variable {P : Program} {w : World} {K : PySem.W.Frag} {mg : Str → Option Value} {base : Heap}
abbrev st_law_fits : Stmt := top 67
theorem sc_law_fits : FnScope ["_law_line", "_law_room", "_law_cutter", "_law_part_here", "_law_face"] ["_law_line", "_law_room", "_law_cutter"] (defScope st_law_fits) := ⟨rfl, rfl, rfl, by decide +kernel, rfl, by decide +kernel, by decide +kernel⟩
def lawD (c : Dt) : Dt := match c with
  | .tup [.str p, .str [c]] => .bl (takesL p c)
  | _ => .non
theorem c_law_fits (T : Txt mg) (F : DefAt K mg "_law_fits" st_law_fits) : Cal P w K mg base CX0 2 "_law_fits" ["_law_line", "_law_room", "_law_cutter"] (spR R_fits) := by
  refine cal_of sc_law_fits F (fun _ _ _ ⟨_, _, _, e, _⟩ => by rw [e]; rfl) (fun _ _ _ _ _ _ us hl => match us, hl with | [_, _, _], _ => rfl) fun f cdv A outer s H hr E => ?_
  refine ⟨_, (pss_cons (ps_if (PW.pt (pw_and (pt_cmpR op_ne (pe_ix ix_U (pv 0) pe_int (fun _ _ => rfl)) pe_str (nomark _)) (pw_and1 (pt_cmpR op_niSg (pv 2) (pe_ix ix_U (pv 0) pe_int (fun _ _ => rfl)) rfl)))) (pss_one (ps_ret pe_bl)) pss_nil)
      (pss_one (ps_ret (pe_all T rfl (pe_lc (own := [("_law_part_here", 3), ("_law_face", 4)]) (g := gTup K 2 (gCons (gName 3) (gCons (gName 4) gNil))) rfl sc_law_fits.nd (pi_zipTS rfl T.zip (pa_cons (pe_slice sl_U (pv 0) po_none (po_some pe_int)) (pa_cons (pv 1) pa_nil))) (blkOk_by (own := [("_law_part_here", 3), ("_law_face", 4)]) (N := ["_law_line", "_law_room", "_law_cutter", "_law_part_here", "_law_face"]) (sc := defScope st_law_fits) (by decide +kernel)) (fun _ _ _ _ _ => (pg_tup rfl (pgs_cons (pg_name (i := 3) sc_law_fits.nd rfl (Or.inl rfl)) (pgs_cons (pg_name (i := 4) sc_law_fits.nd rfl (Or.inl rfl)) pgs_nil)))) (fun _ _ _ _ _ => pts_nilH) (fun _ _ _ _ _ => pe_hide (pe_or (pe_cmpR op_eq (pv 3) pe_str (nomark _)) (pe_one (pe_cmpR op_inSg (pv 4) (pv 3) rfl))))))))), ?_⟩
  rintro ds C vs hd ⟨l, r, k, rfl, rfl⟩ D kr kn
  obtain ⟨x, y, z, rfl, hx, hy, hz⟩ := dqa3 hd
  refine g_whenD (et_and (tn (xi (xv hx)) ed_str) fun _ => et_B (ed_niS (xv hz) (xi (xv hx)))) (fun q H1 e1 => ?_) fun q H1 e1 => ?_
  · have q : (!decide (l.pc = [46]) && !decide (k ∈ l.pc)) = true := q
    have e : fitsL l r k = false := by
      unfold fitsL takesL
      cases h1 : decide (l.pc = [46]) <;> cases h2 : decide (k ∈ l.pc) <;> simp [h1, h2] at q ⊢
    rw [e] at kr
    exact rtD ed_bl e1 kr
  · have q : (!decide (l.pc = [46]) && !decide (k ∈ l.pc)) = false := q
    have e : fitsL l r k = ([l.p0, l.p1, l.p2, l.p3].zip r).all fun p => takesL p.1 p.2 := by
      unfold fitsL
      have : takesL l.pc k = true := by
        unfold takesL
        cases h1 : decide (l.pc = [46]) <;> cases h2 : decide (k ∈ l.pc) <;> simp [h1, h2] at q ⊢
      rw [this] <;> rfl
    rw [e] at kr
    have hx := hx.mono e1
    have hy := hy.mono e1
    refine rtD ?_ e1 kr
    refine EvD.to (ed_all (bs := ([l.p0, l.p1, l.p2, l.p3].zip r).map fun p => takesL p.1 p.2) (EvD.to (ed_lcMP takesD (ei_zipTS (xs (xv hx) eo_none eo_i rfl) (xv hy)) (zipTS_short (Nat.le_refl 4)) zipTS_pair (fun _ _ => rfl) fun i a b v w B ez eB da db => ?_) ?_)) ?_
    · have ez : (zipTS ([l.p0, l.p1, l.p2, l.p3].map Dt.str) r)[i]? = some (.tup [a, b]) := ez
      rw [zipD] at ez
      obtain ⟨p, c, rfl, rfl⟩ := pair_at ez
      exact ed_orV (xq (xv da) ed_str) fun _ => ed_inS (xv db) (xv da)
    · exact congrArg Dt.lst (takes_all [l.p0, l.p1, l.p2, l.p3] r)
    · rw [map_all]
theorem findIdx_at {α : Type} {p : α → Bool} : ∀ {l : List α} {i : Nat} {x : α}, l[i]? = some x → p x = true → (∀ j < i, ∀ y, l[j]? = some y → p y = false) → l.findIdx? p = some i
  | [], i, x, h, _, _ => by simp at h
  | z :: l, 0, x, h, hp, _ => by
    simp at h
    subst h
    simp [List.findIdx?_cons, hp]
  | z :: l, i + 1, x, h, hp, hn => by
    have h0 := hn 0 (Nat.succ_pos _) z rfl
    rw [List.findIdx?_cons, h0]
    have := findIdx_at (l := l) (i := i) (by simpa using h) hp fun j hj y hy => hn (j + 1) (Nat.succ_lt_succ hj) y (by simpa using hy)
    rw [this] <;> rfl
theorem findIdx_no {α : Type} {p : α → Bool} {l : List α} (hn : ∀ (j : Nat) y, l[j]? = some y → p y = false) : l.findIdx? p = none := by
  rw [List.findIdx?_eq_none_iff]
  intro y hy
  obtain ⟨j, hj⟩ := List.getElem?_of_mem hy
  exact hn j y hj
abbrev st_law_line_at : Stmt := top 68
theorem sc_law_line_at : FnScope ["_law_spec", "_law_room", "_law_cutter", "_law_at", "_law_line"] ["_law_spec", "_law_room", "_law_cutter"] (defScope st_law_line_at) := ⟨rfl, rfl, rfl, by decide +kernel, rfl, by decide +kernel, by decide +kernel⟩
def R_law_line_at (_ : Hp) (ds : List Dt) (C : Dt → Prop) : Prop := ∃ sp r k, ds = [Spec.d sp, .str r, .str [k]] ∧ sp.ls.length ≤ 100000 ∧ C = fun e => e = natD (lineAt sp.ls r k)
theorem c_law_line_at (T : Txt mg) (F : DefAt K mg "_law_line_at" st_law_line_at) (C__law_fits : Cal P w K mg base CX0 2 "_law_fits" ["_law_line", "_law_room", "_law_cutter"] (spR R_fits)) : Cal P w K mg base CX0 3 "_law_line_at" ["_law_spec", "_law_room", "_law_cutter"] (spR R_law_line_at) := by
  refine cal_of sc_law_line_at F (fun _ _ _ ⟨_, _, _, e, _⟩ => by rw [e]; rfl) (fun _ _ _ _ _ _ us hl => match us, hl with | [_, _, _], _ => rfl) fun f cdv A outer s H hr E => ?_
  refine ⟨_, (pss_cons (ps_for PassesOwn.never rfl (pi_enum rfl T.enumerate (pa_cons (pe_ix ix_U (pv 0) pe_int (fun _ _ => rfl)) pa_nil)) (pg_tup rfl (pgs_cons (pg_name (i := 3) sc_law_line_at.nd rfl (Or.inl rfl)) (pgs_cons (pg_name (i := 4) sc_law_line_at.nd rfl (Or.inl rfl)) pgs_nil))) (pss_one (ps_if (pt_val (pe_cal C__law_fits hr pass0 (pa_cons (pv 4) (pa_cons (pv 1) (pa_cons (pv 2) pa_nil))))) (pss_one (ps_ret (pv 3))) pss_nil)))
      (pss_one (ps_ret pe_non))), ?_⟩
  rintro ds C vs hd ⟨sp, r, k, rfl, ok, rfl⟩ D kr kn
  obtain ⟨x, y, z, rfl, hx, hy, hz⟩ := dqa3 hd
  refine g_forP (ei_enumD (xi (xv hx))) (fun xs e x hm => ?_) fun xs B0 e e0 => ?_
  · obtain ⟨j, hj⟩ := List.getElem?_of_mem hm
    rw [e] at hj
    obtain ⟨y, _, rfl⟩ := enumD_get hj
    exact ⟨_, _, rfl⟩
  · subst e
    refine ⟨fun i σ' H' => Ex B0 H' ∧ (∃ a b, σ' = [some x, some y, some z, a, b]) ∧ ∀ j < i, ∀ l, sp.ls[j]? = some l → fitsL l r k = false, ⟨Ex.refl _, ⟨none, none, rfl⟩, fun j hj => absurd hj (Nat.not_lt_zero _)⟩, fun i σ' H' h => h.1, fun i a b v w' σ' H' ex ⟨H0, ⟨eb, ⟨a0, b0, hσ⟩, hno⟩, e2⟩ dv dw => ?_, fun σ' H' ⟨eb, _, hno⟩ => ?_⟩
    · subst hσ
      obtain ⟨y', ey, e3⟩ := enumD_get ex
      simp at e3
      obtain ⟨rfl, rfl⟩ := e3
      obtain ⟨l, el, rfl⟩ := map_at ey
      have e4 : Ex H H' := e0.trans (eb.trans e2)
      refine s_ifD (b := fitsL l r k) (et_T (ed_call (a3 (xv dw) (xv (hy.mono e4)) (xv (hz.mono e4))) fun H1 e => ⟨l, r, k, rfl, rfl⟩)) (fun hf H1 e1 => ?_) fun hf H1 e1 => ?_
      · have : lineAt sp.ls r k = some i := findIdx_at el hf hno
        rw [this] at kr
        exact rtD (xv (dv.mono e1)) (e4.trans e1) kr
      · refine ⟨eb.trans (e2.trans e1), ⟨_, _, rfl⟩, fun j hj l' el' => ?_⟩
        rcases Nat.lt_succ_iff_lt_or_eq.mp hj with h | h
        · exact hno j h l' el'
        · subst h
          rw [el] at el'
          cases el'
          exact hf
    · have : lineAt sp.ls r k = none := findIdx_no fun j l el => hno j (by
        rw [enumD_len, List.length_map]
        by_cases h : j < sp.ls.length
        · exact h
        · rw [List.getElem?_eq_none (Nat.not_lt.mp h)] at el
          cases el) l el
      rw [this] at kr
      exact rtD ed_non (e0.trans eb) kr
end
end FW
set_option maxRecDepth 100000
set_option maxHeartbeats 4000000
namespace FW
open PySem L2
open Evl (Ex Ex.refl Ex.trans Ex.new Ex.mut EvT)
section
variable {P : Program} {w : World} {K : PySem.W.Frag} {mg : Str → Option Value} {base : Heap}
theorem lineAt_get {ls : List Ln} {r : List Nat} {k i : Nat} (h : lineAt ls r k = some i) : ∃ l, ls[i]? = some l ∧ cutAt ls r k = l.cut := by
  have hi := (List.findIdx?_eq_some_iff_getElem.mp h).1
  refine ⟨ls[i], by simp [hi], ?_⟩
  unfold cutAt
  rw [h]
  simp [hi]
theorem cutAt_none {ls : List Ln} {r : List Nat} {k : Nat} (h : lineAt ls r k = none) : cutAt ls r k = [] := by
  unfold cutAt
  rw [h] <;> rfl
theorem atI_nat {α : Type} {xs : List α} {i : Nat} {x : α} (h : xs[i]? = some x) : L2.atI xs (i : Int) = some x := by
  have hi : i < xs.length := (List.getElem?_eq_some_iff.mp h).1
  have e : ixN xs.length (i : Int) = some i := by
    unfold ixN
    simp
    omega
  unfold L2.atI
  rw [e]
  exact h
abbrev st_law_cut : Stmt := top 69
theorem sc_law_cut : FnScope ["_law_spec", "_law_room", "_law_cutter", "_law_at"] ["_law_spec", "_law_room", "_law_cutter"] (defScope st_law_cut) := ⟨rfl, rfl, rfl, by decide +kernel, rfl, by decide +kernel, by decide +kernel⟩
def R_law_cut (_ : Hp) (ds : List Dt) (C : Dt → Prop) : Prop := ∃ sp r k, ds = [Spec.d sp, .str r, .str [k]] ∧ sp.ls.length ≤ 100000 ∧ C = fun e => e = .str (cutAt sp.ls r k)
theorem c_law_cut (T : Txt mg) (F : DefAt K mg "_law_cut" st_law_cut) (C__law_line_at : Cal P w K mg base CX0 3 "_law_line_at" ["_law_spec", "_law_room", "_law_cutter"] (spR R_law_line_at)) : Cal P w K mg base CX0 4 "_law_cut" ["_law_spec", "_law_room", "_law_cutter"] (spR R_law_cut) := by
  refine cal_of sc_law_cut F (fun _ _ _ ⟨_, _, _, e, _⟩ => by rw [e]; rfl) (fun _ _ _ _ _ _ us hl => match us, hl with | [_, _, _], _ => rfl) fun f cdv A outer s H hr E => ?_
  refine ⟨_, (pss_cons (ps_set (i := 3) sc_law_cut.nd rfl (Or.inl rfl) (pe_cal C__law_line_at hr pass0 (pa_cons (pv 0) (pa_cons (pv 1) (pa_cons (pv 2) pa_nil)))))
      (pss_one (ps_ret (pe_ifExp (pt_cmp (pc_isN (pv 3))) pe_str (pe_ix ix_U (pe_ix ix_U (pe_ix ix_U (pv 0) pe_int (fun _ _ => rfl)) (pv 3) (fun _ _ => rfl)) pe_int (fun _ _ => rfl)))))), ?_⟩
  rintro ds C vs hd ⟨sp, r, k, rfl, ok, rfl⟩ D kr kn
  obtain ⟨x, y, z, rfl, hx, hy, hz⟩ := dqa3 hd
  refine g_asgD (d := natD (lineAt sp.ls r k)) (ed_call (a3 (xv hx) (xv hy) (xv hz)) fun H1 e => ⟨sp, r, k, rfl, ok, rfl⟩) fun v H1 e1 dv => ?_
  cases ha : lineAt sp.ls r k with
  | none =>
    rw [ha] at dv
    rw [cutAt_none ha] at kr
    exact rtC (ed_if (et_B (b := true) (ed_isN (xv dv) fun H v h => by rw [dq_non h] <;> rfl)) (fun _ => ed_str) fun q => by cases q) e1 kr
  | some i =>
    rw [ha] at dv
    obtain ⟨l, hl, hc⟩ := lineAt_get ha
    rw [hc] at kr
    have hl' : (sp.ls.map Ln.d)[i]? = some l.d := by rw [List.getElem?_map, hl] <;> rfl
    exact rtC (ed_if (et_B (b := false) (ed_isN (xv dv) fun H v h => by rw [dq_int h] <;> rfl)) (fun q => by cases q) fun _ => xi (a := l.d) (ed_ix (a := .lst (sp.ls.map Ln.d)) (xi (a := Spec.d sp) (xv (hx.mono e1))) (xv dv) (atI_nat hl') (by simpa [okL] using ok))) e1 kr
abbrev st_law_parts : Stmt := top 71
theorem sc_law_parts : FnScope ["_law_spec", "_law_room", "_law_cutter"] ["_law_spec", "_law_room", "_law_cutter"] (defScope st_law_parts) := ⟨rfl, rfl, rfl, by decide +kernel, rfl, by decide +kernel, by decide +kernel⟩
def R_law_parts (_ : Hp) (ds : List Dt) (C : Dt → Prop) : Prop := ∃ sp r k, ds = [Spec.d sp, .str r, .str [k]] ∧ sp.ls.length ≤ 100000 ∧ is4 r ∧ (∀ l ∈ sp.ls, okCut l.cut) ∧ C = fun e => e = .lst ((partsL r (cutAt sp.ls r k)).map Dt.str)
theorem c_law_parts (T : Txt mg) (F : DefAt K mg "_law_parts" st_law_parts) (C__law_cut : Cal P w K mg base CX0 4 "_law_cut" ["_law_spec", "_law_room", "_law_cutter"] (spR R_law_cut)) (C__law_split : Cal P w K mg base CX0 1 "_law_split" ["_law_room", "_law_cut_here"] (spR R_parts)) : Cal P w K mg base CX0 5 "_law_parts" ["_law_spec", "_law_room", "_law_cutter"] (spR R_law_parts) := by
  refine cal_of sc_law_parts F (fun _ _ _ ⟨_, _, _, e, _⟩ => by rw [e]; rfl) (fun _ _ _ _ _ _ us hl => match us, hl with | [_, _, _], _ => rfl) fun f cdv A outer s H hr E => ?_
  refine ⟨_, (pss_one (ps_ret (pe_cal C__law_split hr pass0 (pa_cons (pv 1) (pa_cons (pe_cal C__law_cut hr pass0 (pa_cons (pv 0) (pa_cons (pv 1) (pa_cons (pv 2) pa_nil)))) pa_nil))))), ?_⟩
  rintro ds C vs hd ⟨sp, r, k, rfl, ok, r4, oc, rfl⟩ D kr kn
  obtain ⟨x, y, z, rfl, hx, hy, hz⟩ := dqa3 hd
  exact rtC (ed_call (a2 (xv hy) (ed_call (a3 (xv hx) (xv hy) (xv hz)) fun H1 e => ⟨sp, r, k, rfl, ok, rfl⟩)) fun H1 e => ⟨r, cutAt sp.ls r k, rfl, r4, cutAt_ok oc r k, rfl⟩) (Ex.refl H) kr
/-! ### the methods of a book -/
variable {Cb : Addr}
structure Bok (sp : Spec) : Prop where
  len : sp.ls.length ≤ 100
  cuts : ∀ l ∈ sp.ls, okCut l.cut
def rmOf (r fc : List Nat) : Prop := is4 r ∧ ∀ c ∈ r, c ∈ fc
theorem rmOf.is {r fc : List Nat} (h : rmOf r fc) : isRoomD (.str r) fc = true := by
  obtain ⟨⟨n, e, s, w, rfl⟩, h⟩ := h
  unfold isRoomD isStringD
  simpa using h
theorem rmOf.okL {r fc : List Nat} (h : rmOf r fc) : FW.okL (.str r) := by
  obtain ⟨⟨n, e, s, w, rfl⟩, h⟩ := h
  simp [FW.okL]
def R_bk (Cb : Addr) (g : Spec → List Nat → Nat → Dt) (H : Hp) (ds : List Dt) (C : Dt → Prop) : Prop := ∃ a sp r k, ds = [.obj a, .str r, .str [k]] ∧ BkAt Cb a sp H ∧ Bok sp ∧ rmOf r sp.fc ∧ k ∈ sp.ct ∧ C = fun e => e = g sp r k
def gLineAt (sp : Spec) (r : List Nat) (k : Nat) : Dt := natD (lineAt sp.ls r k)
def gCut (sp : Spec) (r : List Nat) (k : Nat) : Dt := .str (cutAt sp.ls r k)
def gParts (sp : Spec) (r : List Nat) (k : Nat) : Dt := .lst ((partsL r (cutAt sp.ls r k)).map Dt.str)
abbrev P_bk : List Str := ["self", "room", "cutter"]
abbrev st_Book_line_at : Stmt := inClass (top 42) 3
theorem sc_Book_line_at : FnScope ["self", "room", "cutter", "at", "line"] ["self", "room", "cutter"] (defScope st_Book_line_at) := ⟨rfl, rfl, rfl, by decide +kernel, rfl, by decide +kernel, by decide +kernel⟩
theorem m_line_at (T : Txt mg) (B : BkCls K Cb) (F : MefAt K Cb "line_at" "Book.line_at" st_Book_line_at) (C_is_room : Cal P w K mg base CX0 2 "is_room" ["value", "faces"] (spR R_is_room)) (C_is_one : Cal P w K mg base CX0 1 "is_one" ["value", "letters"] (spR R_is_one))
    (C_fits : Cal P w K mg base CX0 2 "fits" ["line", "room", "cutter"] (spR R_fits)) : Mal P w K mg base CX0 3 Cb "line_at" P_bk (spR (R_bk Cb gLineAt)) := by
  refine mal_of sc_Book_line_at F (fun _ _ _ ⟨_, _, _, _, e, _⟩ => by rw [e]; rfl) (fun _ _ _ _ _ _ us hl => match us, hl with | [_, _, _], _ => rfl) fun f cdv A outer s H hr E => ?_
  refine ⟨_, (pss_cons (ps_if (pt_not (pt_val (pe_cal C_is_room hr pass0 (pa_cons (pv 1) (pa_cons (pe_fld (pv 0) rfl) pa_nil))))) (pss_one ps_never) pss_nil)
      (pss_cons (ps_if (pt_not (pt_val (pe_cal C_is_one hr pass0 (pa_cons (pv 2) (pa_cons (pe_fld (pv 0) rfl) pa_nil))))) (pss_one ps_never) pss_nil)
      (pss_cons (ps_for PassesOwn.never rfl (pi_enum rfl T.enumerate (pa_cons (pe_fld (pv 0) rfl) pa_nil)) (pg_tup rfl (pgs_cons (pg_name (i := 3) sc_Book_line_at.nd rfl (Or.inl rfl)) (pgs_cons (pg_name (i := 4) sc_Book_line_at.nd rfl (Or.inl rfl)) pgs_nil))) (pss_one (ps_if (pt_val (pe_cal C_fits hr pass0 (pa_cons (pv 4) (pa_cons (pv 1) (pa_cons (pv 2) pa_nil))))) (pss_one (ps_ret (pv 3))) pss_nil)))
      (pss_one (ps_ret pe_non))))), ?_⟩
  rintro ds C vs hd ⟨a, sp, r, k, rfl, hb, ok, hrm, hk, rfl⟩ D kr kn
  obtain ⟨x, y, z, rfl, hx, hy, hz⟩ := dqa3 hd
  refine g_whenD (b := false) (EvB.to (et_not (et_T (ed_call (a2 (xv hy) (ed_faces B hb (xv hx))) fun H1 e => ⟨_, _, rfl, trivial, hrm.okL, rfl⟩))) (by rw [hrm.is] <;> rfl)) (fun q => by cases q) fun _ H1 e1 => ?_
  have hx := hx.mono e1
  have hy := hy.mono e1
  have hz := hz.mono e1
  have hb := hb.mono e1
  refine g_whenD (b := false) (EvB.to (et_not (et_T (ed_call (a2 (xv hz) (ed_cutters B hb (xv hx))) fun H1 e => ⟨_, _, rfl, rfl⟩))) (by simp [hk])) (fun q => by cases q) fun _ H2 e2 => ?_
  have hx := hx.mono e2
  have hy := hy.mono e2
  have hz := hz.mono e2
  have hb := hb.mono e2
  refine g_forP (ei_enumD (ed_lines B hb (xv hx))) (fun xs e x hm => ?_) fun xs B0 e e0 => ?_
  · obtain ⟨j, hj⟩ := List.getElem?_of_mem hm
    rw [e] at hj
    obtain ⟨y, _, rfl⟩ := enumD_get hj
    exact ⟨_, _, rfl⟩
  · subst e
    refine ⟨fun i σ' H' => Ex B0 H' ∧ (∃ a b, σ' = [some x, some y, some z, a, b]) ∧ ∀ j < i, ∀ l, sp.ls[j]? = some l → fitsL l r k = false, ⟨Ex.refl _, ⟨none, none, rfl⟩, fun j hj => absurd hj (Nat.not_lt_zero _)⟩, fun i σ' H' h => h.1, fun i a b v w' σ' H' ex ⟨H0, ⟨eb, ⟨a0, b0, hσ⟩, hno⟩, e3⟩ dv dw => ?_, fun σ' H' ⟨eb, _, hno⟩ => ?_⟩
    · subst hσ
      obtain ⟨y', ey, e4⟩ := enumD_get ex
      simp at e4
      obtain ⟨rfl, rfl⟩ := e4
      obtain ⟨l, el, rfl⟩ := map_at ey
      have e4 : Ex H2 H' := e0.trans (eb.trans e3)
      refine s_ifD (b := fitsL l r k) (et_T (ed_call (a3 (xv dw) (xv (hy.mono e4)) (xv (hz.mono e4))) fun H1 e => ⟨l, r, k, rfl, rfl⟩)) (fun hf H3 e5 => ?_) fun hf H3 e5 => ?_
      · have : lineAt sp.ls r k = some i := findIdx_at el hf hno
        unfold gLineAt at kr
        rw [this] at kr
        exact rtD (xv (dv.mono e5)) ((e1.trans e2).trans (e4.trans e5)) kr
      · refine ⟨eb.trans (e3.trans e5), ⟨_, _, rfl⟩, fun j hj l' el' => ?_⟩
        rcases Nat.lt_succ_iff_lt_or_eq.mp hj with h | h
        · exact hno j h l' el'
        · subst h
          rw [el] at el'
          cases el'
          exact hf
    · have : lineAt sp.ls r k = none := findIdx_no fun j l el => hno j (by
        rw [enumD_len, List.length_map]
        by_cases h : j < sp.ls.length
        · exact h
        · rw [List.getElem?_eq_none (Nat.not_lt.mp h)] at el
          cases el) l el
      unfold gLineAt at kr
      rw [this] at kr
      exact rtD ed_non ((e1.trans e2).trans (e0.trans eb)) kr
abbrev st_Book_cut : Stmt := inClass (top 42) 4
theorem sc_Book_cut : FnScope ["self", "room", "cutter", "at"] ["self", "room", "cutter"] (defScope st_Book_cut) := ⟨rfl, rfl, rfl, by decide +kernel, rfl, by decide +kernel, by decide +kernel⟩
theorem m_cut (T : Txt mg) (B : BkCls K Cb) (F : MefAt K Cb "cut" "Book.cut" st_Book_cut) (M_line_at : Mal P w K mg base CX0 3 Cb "line_at" P_bk (spR (R_bk Cb gLineAt))) : Mal P w K mg base CX0 4 Cb "cut" P_bk (spR (R_bk Cb gCut)) := by
  refine mal_of sc_Book_cut F (fun _ _ _ ⟨_, _, _, _, e, _⟩ => by rw [e]; rfl) (fun _ _ _ _ _ _ us hl => match us, hl with | [_, _, _], _ => rfl) fun f cdv A outer s H hr E => ?_
  refine ⟨_, (pss_cons (ps_set (i := 3) sc_Book_cut.nd rfl (Or.inl rfl) (pe_mcal B.cls M_line_at hr pass0 (pv 0) (pa_cons (pv 1) (pa_cons (pv 2) pa_nil))))
      (pss_one (ps_ret (pe_ifExp (pt_cmp (pc_isN (pv 3))) pe_str (pe_ix ix_U (pe_ix ix_U (pe_fld (pv 0) rfl) (pv 3) (fun _ _ => rfl)) pe_int (fun _ _ => rfl)))))), ?_⟩
  rintro ds C vs hd ⟨a, sp, r, k, rfl, hb, ok, hrm, hk, rfl⟩ D kr kn
  obtain ⟨x, y, z, rfl, hx, hy, hz⟩ := dqa3 hd
  refine g_asgD (d := gLineAt sp r k) (ed_mb hb (by decide) (xv hx) (a2 (xv hy) (xv hz)) fun H1 e => ⟨a, sp, r, k, rfl, hb.mono e, ok, hrm, hk, rfl⟩) fun v H1 e1 dv => ?_
  unfold gLineAt at dv
  unfold gCut at kr
  cases ha : lineAt sp.ls r k with
  | none =>
    rw [ha] at dv
    rw [cutAt_none ha] at kr
    exact rtC (ed_if (et_B (b := true) (ed_isN (xv dv) fun H v h => by rw [dq_non h] <;> rfl)) (fun _ => ed_str) fun q => by cases q) e1 kr
  | some i =>
    rw [ha] at dv
    obtain ⟨l, hl, hc⟩ := lineAt_get ha
    rw [hc] at kr
    have hl' : (sp.ls.map Ln.d)[i]? = some l.d := by rw [List.getElem?_map, hl] <;> rfl
    exact rtC (ed_if (et_B (b := false) (ed_isN (xv dv) fun H v h => by rw [dq_int h] <;> rfl)) (fun q => by cases q) fun _ => xi (a := l.d) (ed_ix (a := .lst (sp.ls.map Ln.d)) (ed_lines B (hb.mono e1) (xv (hx.mono e1))) (xv dv) (atI_nat hl') (by have := ok.len; simp [okL]; omega))) e1 kr
abbrev st_Book_parts : Stmt := inClass (top 42) 5
theorem sc_Book_parts : FnScope ["self", "room", "cutter"] ["self", "room", "cutter"] (defScope st_Book_parts) := ⟨rfl, rfl, rfl, by decide +kernel, rfl, by decide +kernel, by decide +kernel⟩
theorem m_parts (T : Txt mg) (B : BkCls K Cb) (F : MefAt K Cb "parts" "Book.parts" st_Book_parts) (M_cut : Mal P w K mg base CX0 4 Cb "cut" P_bk (spR (R_bk Cb gCut))) (C_parts_of : Cal P w K mg base CX0 1 "parts_of" ["room", "cut"] (spR R_parts)) : Mal P w K mg base CX0 5 Cb "parts" P_bk (spR (R_bk Cb gParts)) := by
  refine mal_of sc_Book_parts F (fun _ _ _ ⟨_, _, _, _, e, _⟩ => by rw [e]; rfl) (fun _ _ _ _ _ _ us hl => match us, hl with | [_, _, _], _ => rfl) fun f cdv A outer s H hr E => ?_
  refine ⟨_, (pss_one (ps_ret (pe_cal C_parts_of hr pass0 (pa_cons (pv 1) (pa_cons (pe_mcal B.cls M_cut hr pass0 (pv 0) (pa_cons (pv 1) (pa_cons (pv 2) pa_nil))) pa_nil))))), ?_⟩
  rintro ds C vs hd ⟨a, sp, r, k, rfl, hb, ok, hrm, hk, rfl⟩ D kr kn
  obtain ⟨x, y, z, rfl, hx, hy, hz⟩ := dqa3 hd
  exact rtC (ed_call (a2 (xv hy) (ed_mb hb (by decide) (xv hx) (a2 (xv hy) (xv hz)) fun H1 e => ⟨a, sp, r, k, rfl, hb.mono e, ok, hrm, hk, rfl⟩)) fun H1 e => ⟨r, cutAt sp.ls r k, rfl, hrm.1, cutAt_ok ok.cuts r k, rfl⟩) (Ex.refl H) kr
abbrev st_one_way : Stmt := top 35
theorem sc_one_way : FnScope ["many", "left"] ["many", "left"] (defScope st_one_way) := ⟨rfl, rfl, rfl, by decide +kernel, rfl, by decide +kernel, by decide +kernel⟩
def R_w (g : Nat → Nat → Nat) (_ : Hp) (ds : List Dt) (C : Dt → Prop) : Prop := ∃ m l : Nat, ds = [.int (m : Int), .int (l : Int)] ∧ m ≤ 100 ∧ l ≤ m ∧ C = fun e => e = .int (g m l : Nat)
def g1 (_ _ : Nat) : Nat := 1
theorem c_one_way (T : Txt mg) (F : DefAt K mg "one_way" st_one_way) : Cal P w K mg base CX0 1 "one_way" ["many", "left"] (spR (R_w g1)) := by
  refine cal_of sc_one_way F (fun _ _ _ ⟨_, _, e, _⟩ => by rw [e]; rfl) (fun _ _ _ _ _ _ us hl => match us, hl with | [_, _], _ => rfl) fun f cdv A outer s H hr E => ?_
  refine ⟨_, (pss_one (ps_ret pe_int)), ?_⟩
  rintro ds C vs hd ⟨m, l, rfl, hm, hl, rfl⟩ D kr kn
  exact rtD ed_int (Ex.refl H) kr
end
end FW
set_option maxRecDepth 100000
set_option maxHeartbeats 4000000
namespace FW
open PySem L2
open Evl (Ex Ex.refl Ex.trans Ex.new Ex.mut EvT)
section
variable {P : Program} {w : World} {K : PySem.W.Frag} {mg : Str → Option Value} {base : Heap}
structure Rising (l ls : List Nat) : Prop where
  pw : l.Pairwise (· < ·)
  ne : 1 ≤ l.length
  le : l.length < 64
  asc : ∀ c ∈ l, c < 128
  sub : ∀ c ∈ l, c ∈ ls
abbrev st_is_rising : Stmt := top 19
theorem sc_is_rising : FnScope ["value", "letters", "most", "letter"] ["value", "letters", "most"] (defScope st_is_rising) := ⟨rfl, rfl, rfl, by decide +kernel, rfl, by decide +kernel, by decide +kernel⟩
def R_is_rising (_ : Hp) (ds : List Dt) (C : Dt → Prop) : Prop := ∃ l ls m, ds = [.str l, .str ls, .int m] ∧ Rising l ls ∧ (l.length : Int) ≤ m ∧ C = fun e => e = .bl true
theorem c_is_rising (T : Txt mg) (F : DefAt K mg "is_rising" st_is_rising) : Cal P w K mg base CX0 1 "is_rising" ["value", "letters", "most"] (spR R_is_rising) := by
  refine cal_of sc_is_rising F (fun _ _ _ ⟨_, _, _, e, _⟩ => by rw [e]; rfl) (fun _ _ _ _ _ _ us hl => match us, hl with | [_, _, _], _ => rfl) fun f cdv A outer s H hr E => ?_
  refine ⟨_, (pss_cons (ps_if (PW.pt (pw_or (pt_not (pt_val (pe_isi T (pv 0) (pe_tyStr T)))) (pw_or1 (pt_not (pt_chain op_le op_le pe_int (pe_len T (pv 0)) (pv 2)))))) (pss_one (ps_ret pe_bl)) pss_nil)
      (pss_one (ps_ret (pe_and (pe_all T rfl (pe_lc (own := [("letter", 3)]) (g := gName 3) rfl sc_is_rising.nd (pi_str (pv 0)) (blkOk_by (own := [("letter", 3)]) (N := ["value", "letters", "most", "letter"]) (sc := defScope st_is_rising) (by decide +kernel)) (fun _ _ _ _ _ => (pg_name (i := 3) sc_is_rising.nd rfl (Or.inl rfl))) (fun _ _ _ _ _ => pts_nilH) (fun _ _ _ _ _ => pe_hide (pe_cmpR op_inSg (pv 3) (pv 1) rfl)))) (pe_one (pe_cmpR (op_eqD (FW.Room.hu hr)) (pe_listS T rfl (pv 0)) (pe_sortedSet rfl T (pv 0)) (nomark _))))))), ?_⟩
  rintro ds C vs hd ⟨l, ls, m, rfl, R, hm, rfl⟩ D kr kn
  obtain ⟨x, y, z, rfl, hx, hy, hz⟩ := dqa3 hd
  have ok : okL (.str l) := Nat.le_trans (Nat.le_of_lt R.le) (by decide)
  refine g_whenD (b := false) (EvB.to (et_or (b := false) (et_not (et_T (ed_isStr (xv hx) trivial))) fun _ => EvB.to (et_not (et_T (ed_chain ed_int (xl (xv hx) rfl ok) (xv hz)))) (c := false) ?_) rfl) (fun q => by cases q) fun _ H1 e1 => ?_
  · have h1 := R.ne
    have h2 : decide ((1 : Int) ≤ (l.length : Int)) = true := decide_eq_true (by omega)
    have h3 : decide ((l.length : Int) ≤ m) = true := decide_eq_true hm
    rw [h2, h3] <;> rfl
  · have hx := hx.mono e1
    have hy := hy.mono e1
    refine rtD (EvD.to (ed_andV (a := true) (b := true) (EvD.to (ed_all (bs := l.map fun c => decide (c ∈ ls)) (EvD.to (ed_lcM (fun x => match x with | .str [c] => .bl (decide (c ∈ ls)) | _ => .non) (ei_str (xv hx)) (by rw [List.length_map]; exact ok) (fun _ => rfl) fun i z v B ez eB dz => ?_) ?_)) ?_) fun _ => ?_) rfl) e1 kr
    · obtain ⟨c, _, rfl⟩ := map_at ez
      exact ed_inS (xv dz) (xv (hy.mono eB))
    · rw [List.map_map, List.map_map]
      rfl
    · rw [map_all]
      congr 1
      rw [List.all_eq_true]
      exact fun c hc => decide_eq_true (R.sub c hc)
    · have e : (l.map fun c => Dt.str [c]) = (l.map fun c => [c]).map Dt.str := by
        rw [List.map_map]
        rfl
      have ox : ∀ z ∈ l.map fun c => [c], okTx z := fun z hz => by
        obtain ⟨c, hc, rfl⟩ := List.mem_map.mp hz
        intro d hd
        rw [List.mem_singleton] at hd
        rw [hd]
        exact Nat.lt_trans (R.asc c hc) (by decide)
      exact EvD.to (ed_eqSs (a := l.map fun c => [c]) (b := l.map fun c => [c]) (EvD.to (ed_listS (xv hx) ok) (congrArg Dt.lst e)) (EvD.to (ed_srtSet (xv hx) R.pw R.le R.asc) (congrArg Dt.lst e)) ox ox) (by simp)
abbrev st_is_faces : Stmt := top 20
theorem sc_is_faces : FnScope ["value"] ["value"] (defScope st_is_faces) := ⟨rfl, rfl, rfl, by decide +kernel, rfl, by decide +kernel, by decide +kernel⟩
def R_r1 (ls : List Nat) (n : Nat) (_ : Hp) (ds : List Dt) (C : Dt → Prop) : Prop := ∃ l, ds = [.str l] ∧ Rising l ls ∧ l.length ≤ n ∧ C = fun e => e = .bl true
abbrev lowerL : List Nat := [97, 98, 99, 100, 101, 102, 103, 104, 105, 106, 107, 108, 109, 110, 111, 112, 113, 114, 115, 116, 117, 118, 119, 120, 121, 122]
abbrev upperL : List Nat := [65, 66, 67, 68, 69, 70, 71, 72, 73, 74, 75, 76, 77, 78, 79, 80, 81, 82, 83, 84, 85, 86, 87, 88, 89, 90]
abbrev P_ris : List Str := ["value", "letters", "most"]
theorem c_is_faces (T : Txt mg) (F : DefAt K mg "is_faces" st_is_faces) {t : Tok} (h_LOWER : mg "LOWER" = some (.str "abcdefghijklmnopqrstuvwxyz" t)) (C_is_rising : Cal P w K mg base CX0 1 "is_rising" P_ris (spR R_is_rising)) : Cal P w K mg base CX0 2 "is_faces" ["value"] (spR (R_r1 lowerL 6)) := by
  refine cal_of sc_is_faces F (fun _ _ _ ⟨_, e, _⟩ => by rw [e]; rfl) (fun _ _ _ _ _ _ us hl => match us, hl with | [_], _ => rfl) fun f cdv A outer s H hr E => ?_
  refine ⟨_, (pss_one (ps_ret (pe_cal C_is_rising hr pass0 (pa_cons (pv 0) (pa_cons (pe_globS h_LOWER) (pa_cons pe_int pa_nil)))))), ?_⟩
  rintro ds C vs hd ⟨l, rfl, R, hm, rfl⟩ D kr kn
  obtain ⟨x, rfl, hx⟩ := dqa1 hd
  exact rtC (ed_call (a3 (xv hx) ed_str ed_int) fun H1 e => ⟨l, _, 6, rfl, R, by omega, rfl⟩) (Ex.refl H) kr
abbrev st_is_cutters : Stmt := top 21
theorem sc_is_cutters : FnScope ["value"] ["value"] (defScope st_is_cutters) := ⟨rfl, rfl, rfl, by decide +kernel, rfl, by decide +kernel, by decide +kernel⟩
theorem c_is_cutters (T : Txt mg) (F : DefAt K mg "is_cutters" st_is_cutters) {t : Tok} (h_UPPER : mg "UPPER" = some (.str "ABCDEFGHIJKLMNOPQRSTUVWXYZ" t)) (C_is_rising : Cal P w K mg base CX0 1 "is_rising" P_ris (spR R_is_rising)) : Cal P w K mg base CX0 2 "is_cutters" ["value"] (spR (R_r1 upperL 4)) := by
  refine cal_of sc_is_cutters F (fun _ _ _ ⟨_, e, _⟩ => by rw [e]; rfl) (fun _ _ _ _ _ _ us hl => match us, hl with | [_], _ => rfl) fun f cdv A outer s H hr E => ?_
  refine ⟨_, (pss_one (ps_ret (pe_cal C_is_rising hr pass0 (pa_cons (pv 0) (pa_cons (pe_globS h_UPPER) (pa_cons pe_int pa_nil)))))), ?_⟩
  rintro ds C vs hd ⟨l, rfl, R, hm, rfl⟩ D kr kn
  obtain ⟨x, rfl, hx⟩ := dqa1 hd
  exact rtC (ed_call (a3 (xv hx) ed_str ed_int) fun H1 e => ⟨l, _, 4, rfl, R, by omega, rfl⟩) (Ex.refl H) kr
/-- a part of a line -/
def PartOk (p ls : List Nat) : Prop := p = [46] ∨ (Rising p ls ∧ p.length ≤ ls.length)
theorem PartOk.len {p ls : List Nat} (h : PartOk p ls) : p.length < 64 := by
  rcases h with rfl | ⟨h, _⟩
  · decide
  · exact h.le
abbrev st_is_part : Stmt := top 43
theorem sc_is_part : FnScope ["value", "letters"] ["value", "letters"] (defScope st_is_part) := ⟨rfl, rfl, rfl, by decide +kernel, rfl, by decide +kernel, by decide +kernel⟩
def R_is_part (_ : Hp) (ds : List Dt) (C : Dt → Prop) : Prop := ∃ p ls, ds = [.str p, .str ls] ∧ PartOk p ls ∧ ls.length ≤ 1000 ∧ C = fun e => e = .bl true
theorem c_is_part (T : Txt mg) (F : DefAt K mg "is_part" st_is_part) (C_is_rising : Cal P w K mg base CX0 1 "is_rising" P_ris (spR R_is_rising)) : Cal P w K mg base CX0 2 "is_part" ["value", "letters"] (spR R_is_part) := by
  refine cal_of sc_is_part F (fun _ _ _ ⟨_, _, e, _⟩ => by rw [e]; rfl) (fun _ _ _ _ _ _ us hl => match us, hl with | [_, _], _ => rfl) fun f cdv A outer s H hr E => ?_
  refine ⟨_, (pss_one (ps_ret (pe_and (pe_isi T (pv 0) (pe_tyStr T)) (pe_one (pe_or (pe_cmpR op_eq (pv 0) pe_str (nomark _)) (pe_one (pe_cal C_is_rising hr pass0 (pa_cons (pv 0) (pa_cons (pv 1) (pa_cons (pe_len T (pv 1)) pa_nil)))))))))), ?_⟩
  rintro ds C vs hd ⟨p, ls, rfl, hp, hl, rfl⟩ D kr kn
  obtain ⟨x, y, rfl, hx, hy⟩ := dqa2 hd
  refine rtD (ed_and1 (ed_isStr (xv hx) trivial) ?_) (Ex.refl H) kr
  rcases hp with rfl | ⟨hp, hq⟩
  · exact ed_or1 (xq (xv hx) ed_str)
  · refine EvD.to (ed_orV (b := true) (xq (xv hx) ed_str) fun _ => ed_call (a3 (xv hx) (xv hy) (xl (xv hy) rfl (by show ls.length ≤ 100000; omega))) fun H1 e => ⟨p, ls, _, rfl, hp, by omega, rfl⟩) (by simp)
/-- a cut's sort and faces -/
def CutOk (c fc : List Nat) : Prop := ∃ o x y, c = [o, x, y] ∧ (o = 124 ∨ o = 45) ∧ x ∈ fc ∧ y ∈ fc
abbrev st_is_cut : Stmt := top 25
theorem sc_is_cut : FnScope ["value", "faces"] ["value", "faces"] (defScope st_is_cut) := ⟨rfl, rfl, rfl, by decide +kernel, rfl, by decide +kernel, by decide +kernel⟩
def R_is_cut (_ : Hp) (ds : List Dt) (C : Dt → Prop) : Prop := ∃ c fc, ds = [.str c, .str fc] ∧ CutOk c fc ∧ C = fun e => e = .bl true
theorem c_is_cut (T : Txt mg) (F : DefAt K mg "is_cut" st_is_cut) {t t' : Tok} (h_UPRIGHT : mg "UPRIGHT" = some (.str "|" t)) (h_LEVEL : mg "LEVEL" = some (.str "-" t')) (C_is_string : Cal P w K mg base CX0 1 "is_string" ["value", "faces"] (spR R_is_string)) : Cal P w K mg base CX0 2 "is_cut" ["value", "faces"] (spR R_is_cut) := by
  refine cal_of sc_is_cut F (fun _ _ _ ⟨_, _, e, _⟩ => by rw [e]; rfl) (fun _ _ _ _ _ _ us hl => match us, hl with | [_, _], _ => rfl) fun f cdv A outer s H hr E => ?_
  refine ⟨_, (pss_cons (ps_if (PW.pt (pw_or (pt_not (pt_val (pe_isi T (pv 0) (pe_tyStr T)))) (pw_or (pt_cmpR op_ne (pe_len T (pv 0)) pe_int (nomark _)) (pw_or1 (pt_cmpR op_notIn_seq (pe_ix ix_U (pv 0) pe_int (fun _ _ => rfl)) (pe_tup (pa_cons (pe_globS h_UPRIGHT) (pa_cons (pe_globS h_LEVEL) pa_nil))) rfl))))) (pss_one (ps_ret pe_bl)) pss_nil)
      (pss_one (ps_ret (pe_cal C_is_string hr pass0 (pa_cons (pe_slice sl_U (pv 0) (po_some pe_int) po_none) (pa_cons (pv 1) pa_nil)))))), ?_⟩
  rintro ds C vs hd ⟨c, fc, rfl, ⟨o, a, b, rfl, ho, ha, hb⟩, rfl⟩ D kr kn
  obtain ⟨x, y, rfl, hx, hy⟩ := dqa2 hd
  refine g_whenD (b := false) (EvB.to (et_or (b := false) (et_not (et_T (ed_isStr (xv hx) trivial))) fun _ => EvB.to (et_or (b := false) (tn (xl (xv hx)) ed_int) fun _ => EvB.to (et_B (ed_inL (neg := true) (ls := [[124], [45]]) (xi (xv hx)) (.inr (xT (a2 ed_str ed_str))))) ?_) rfl) rfl) (fun q => by cases q) fun _ H1 e1 => ?_
  · rcases ho with rfl | rfl <;> rfl
  · refine rtC (ed_call (a2 (xs (xv (hx.mono e1)) eo_i eo_none (c := .str [a, b])) (xv (hy.mono e1))) fun H2 e => ⟨.str [a, b], fc, rfl, trivial, by simp [okL], ?_⟩) e1 kr
    funext e
    have : isStringD (.str [a, b]) fc = true := by simp [isStringD, ha, hb]
    rw [this]
end
end FW
set_option maxRecDepth 100000
set_option maxHeartbeats 4000000
namespace FW
open PySem L2
open Evl (Ex Ex.refl Ex.trans Ex.new Ex.mut EvT)
structure LnOk (l : Ln) (fc ct : List Nat) : Prop where
  p0 : PartOk l.p0 fc
  p1 : PartOk l.p1 fc
  p2 : PartOk l.p2 fc
  p3 : PartOk l.p3 fc
  pc : PartOk l.pc ct
  cut : l.cut = [] ∨ CutOk l.cut fc
structure SpecOk (s : Spec) : Prop where
  fc : Rising s.fc lowerL
  ct : Rising s.ct upperL
  f3 : s.fc.length ≤ 3
  c3 : s.ct.length ≤ 3
  l8 : s.ls.length ≤ 8
  ls : ∀ l ∈ s.ls, LnOk l s.fc s.ct
abbrev noneL : List Nat := [110, 111, 110, 101]
def cutW (c : List Nat) : List Nat := if c = [] then noneL else c
def wordsL (l : Ln) : List (List Nat) := [l.p0, l.p1, l.p2, l.p3, l.pc, cutW l.cut]
def lineTxt (l : Ln) : List Nat := joinC 32 (wordsL l)
def bookTxt (s : Spec) : List Nat := joinC 10 ((s.fc ++ [32] ++ s.ct) :: s.ls.map lineTxt)
section
variable {P : Program} {w : World} {K : PySem.W.Frag} {mg : Str → Option Value} {base : Heap}
abbrev st_is_line : Stmt := top 44
theorem sc_is_line : FnScope ["value", "faces", "cutters", "part"] ["value", "faces", "cutters"] (defScope st_is_line) := ⟨rfl, rfl, rfl, by decide +kernel, rfl, by decide +kernel, by decide +kernel⟩
def R_is_line (_ : Hp) (ds : List Dt) (C : Dt → Prop) : Prop := ∃ l fc ct, ds = [Ln.d l, .str fc, .str ct] ∧ LnOk l fc ct ∧ fc.length ≤ 1000 ∧ ct.length ≤ 1000 ∧ C = fun e => e = .bl true
theorem c_is_line (T : Txt mg) (F : DefAt K mg "is_line" st_is_line) (C_is_part : Cal P w K mg base CX0 2 "is_part" ["value", "letters"] (spR R_is_part)) (C_is_cut : Cal P w K mg base CX0 2 "is_cut" ["value", "faces"] (spR R_is_cut)) : Cal P w K mg base CX0 3 "is_line" ["value", "faces", "cutters"] (spR R_is_line) := by
  refine cal_of sc_is_line F (fun _ _ _ ⟨_, _, _, e, _⟩ => by rw [e]; rfl) (fun _ _ _ _ _ _ us hl => match us, hl with | [_, _, _], _ => rfl) fun f cdv A outer s H hr E => ?_
  refine ⟨_, (pss_cons (ps_if (PW.pt (pw_or (pt_not (pt_val (pe_isi T (pv 0) (pe_tyTuple T)))) (pw_or1 (pt_cmpR op_ne (pe_len T (pv 0)) pe_int (nomark _))))) (pss_one (ps_ret pe_bl)) pss_nil)
      (pss_cons (ps_if (PW.pt (pw_or (pt_not (pt_val (pe_all T rfl (pe_lc (own := [("part", 3)]) (g := gName 3) rfl sc_is_line.nd (pi_tup (pe_slice sl_U (pv 0) po_none (po_some pe_int))) (blkOk_by (own := [("part", 3)]) (N := ["value", "faces", "cutters", "part"]) (sc := defScope st_is_line) (by decide +kernel)) (fun _ _ _ _ _ => (pg_name (i := 3) sc_is_line.nd rfl (Or.inl rfl))) (fun _ _ _ _ _ => pts_nilH) (fun _ _ _ _ _ => pe_hide (pe_cal C_is_part hr pass0 (pa_cons (pv 3) (pa_cons (pv 1) pa_nil)))))))) (pw_or1 (pt_not (pt_val (pe_cal C_is_part hr pass0 (pa_cons (pe_ix ix_U (pv 0) pe_int (fun _ _ => rfl)) (pa_cons (pv 2) pa_nil)))))))) (pss_one (ps_ret pe_bl)) pss_nil)
      (pss_one (ps_ret (pe_and (pe_isi T (pe_ix ix_U (pv 0) pe_int (fun _ _ => rfl)) (pe_tyStr T)) (pe_one (pe_or (pe_cmpR op_eq (pe_ix ix_U (pv 0) pe_int (fun _ _ => rfl)) pe_str (nomark _)) (pe_one (pe_cal C_is_cut hr pass0 (pa_cons (pe_ix ix_U (pv 0) pe_int (fun _ _ => rfl)) (pa_cons (pv 1) pa_nil))))))))))), ?_⟩
  rintro ds C vs hd ⟨l, fc, ct, rfl, R, hf, hc, rfl⟩ D kr kn
  obtain ⟨x, y, z, rfl, hx, hy, hz⟩ := dqa3 hd
  have hx : Dq H x (.tup [.str l.p0, .str l.p1, .str l.p2, .str l.p3, .str l.pc, .str l.cut]) := hx
  refine g_whenD (b := false) (EvB.to (et_or (b := false) (et_not (et_T (ed_isTup (xv hx) trivial))) fun _ => EvB.to (tn (xl (xv hx)) ed_int) rfl) rfl) (fun q => by cases q) fun _ H1 e1 => ?_
  have hx := hx.mono e1
  have hy := hy.mono e1
  have hz := hz.mono e1
  refine g_whenD (b := false) (EvB.to (et_or (b := false) (et_not (et_T (EvD.to (ed_all (bs := [true, true, true, true]) (EvD.to (ed_lcM (fun _ => .bl true) (ei_tupD (xs (xv hx) eo_none eo_i rfl)) (Nat.le_of_ble_eq_true rfl) (fun _ => rfl) fun i z v B ez eB dz => ?_) rfl)) rfl))) fun _ => EvB.to (et_not (et_T (ed_call (a2 (xi (xv hx)) (xv hz)) fun H1 e => ⟨l.pc, ct, rfl, R.pc, hc, rfl⟩))) rfl) rfl) (fun q => by cases q) fun _ H2 e2 => ?_
  · have ez : [Dt.str l.p0, .str l.p1, .str l.p2, .str l.p3][i]? = some z := ez
    have : ∃ p, z = .str p ∧ PartOk p fc := by
      match i, ez with
      | 0, ez => exact ⟨l.p0, by simpa using ez.symm, R.p0⟩
      | 1, ez => exact ⟨l.p1, by simpa using ez.symm, R.p1⟩
      | 2, ez => exact ⟨l.p2, by simpa using ez.symm, R.p2⟩
      | 3, ez => exact ⟨l.p3, by simpa using ez.symm, R.p3⟩
      | n + 4, ez => simp at ez
    obtain ⟨p, rfl, hp⟩ := this
    exact ed_call (a2 (xv dz) (xv (hy.mono eB))) fun H1 e => ⟨p, fc, rfl, hp, hf, rfl⟩
  · have hx := hx.mono e2
    have hy := hy.mono e2
    refine rtD (ed_and1 (ed_isStr (a := .str l.cut) (xi (xv hx)) trivial) ?_) (e1.trans e2) kr
    rcases R.cut with h | h
    · exact EvD.to (ed_orV (a := decide (l.cut = [])) (b := true) (EvD.to (xq (a := .str l.cut) (xi (xv hx)) ed_str) rfl) fun q => by simp [h] at q) (by simp)
    · exact EvD.to (ed_orV (a := decide (l.cut = [])) (b := true) (EvD.to (xq (a := .str l.cut) (xi (xv hx)) ed_str) rfl) fun q => ed_call (a2 (xi (xv hx)) (xv hy)) fun H1 e => ⟨l.cut, fc, rfl, h, rfl⟩) (by simp)
theorem PartOk.clean {p ls : List Nat} (h : PartOk p ls) (hs : ∀ c ∈ ls, 64 < c) : p ≠ [] ∧ (∀ c ∈ p, 32 < c ∧ c < 128) := by
  rcases h with rfl | ⟨h, _⟩
  · exact ⟨by simp, by simp⟩
  · refine ⟨fun e => ?_, fun c hc => ⟨Nat.lt_trans (by decide) (hs c (h.sub c hc)), h.asc c hc⟩⟩
    have := h.ne
    rw [e] at this
    simp at this
theorem cut_clean {c fc : List Nat} (h : c = [] ∨ CutOk c fc) (hs : ∀ c ∈ fc, 64 < c ∧ c < 128) : cutW c ≠ [] ∧ (∀ x ∈ cutW c, 32 < x ∧ x < 128) ∧ (cutW c).length ≤ 4 ∧ (if cutW c = noneL then [] else cutW c) = c := by
  rcases h with rfl | ⟨o, x, y, rfl, ho, hx, hy⟩
  · decide
  · have e : cutW [o, x, y] = [o, x, y] := rfl
    rw [e]
    have h1 := hs x hx
    have h2 := hs y hy
    refine ⟨by simp, fun z hz => ?_, by simp, by simp⟩
    simp at hz
    rcases hz with rfl | rfl | rfl
    · rcases ho with rfl | rfl <;> decide
    · omega
    · omega
theorem words_clean {l : Ln} {fc ct : List Nat} (h : LnOk l fc ct) (hf : ∀ c ∈ fc, 64 < c ∧ c < 128) (hc : ∀ c ∈ ct, 64 < c) : ∀ p ∈ wordsL l, p ≠ [] ∧ (∀ c ∈ p, 32 < c ∧ c < 128) ∧ p.length < 64 := by
  intro p hp
  have hf' : ∀ c ∈ fc, 64 < c := fun c h => (hf c h).1
  simp [wordsL] at hp
  rcases hp with rfl | rfl | rfl | rfl | rfl | rfl
  · exact ⟨(h.p0.clean hf').1, (h.p0.clean hf').2, h.p0.len⟩
  · exact ⟨(h.p1.clean hf').1, (h.p1.clean hf').2, h.p1.len⟩
  · exact ⟨(h.p2.clean hf').1, (h.p2.clean hf').2, h.p2.len⟩
  · exact ⟨(h.p3.clean hf').1, (h.p3.clean hf').2, h.p3.len⟩
  · exact ⟨(h.pc.clean hc).1, (h.pc.clean hc).2, h.pc.len⟩
  · obtain ⟨h1, h2, h3, _⟩ := cut_clean h.cut hf
    exact ⟨h1, h2, by omega⟩
theorem sum_le {α : Type} {f : α → Nat} {n : Nat} : ∀ {l : List α}, (∀ x ∈ l, f x ≤ n) → (l.map f).sum ≤ l.length * n
  | [], _ => Nat.zero_le _
  | x :: l, h => by
    have := sum_le (l := l) fun y hy => h y (List.mem_cons_of_mem _ hy)
    have h1 := h x (List.mem_cons_self ..)
    rw [List.map_cons, List.sum_cons, List.length_cons, Nat.succ_mul]
    omega
theorem lineTxt_len {l : Ln} {fc ct : List Nat} (h : LnOk l fc ct) (hf : ∀ c ∈ fc, 64 < c ∧ c < 128) (hc : ∀ c ∈ ct, 64 < c) : (lineTxt l).length ≤ 400 := by
  have h1 := joinC_len 32 (wordsL l)
  have h2 := sum_le (f := List.length) (n := 63) (l := wordsL l) fun p hp => Nat.le_of_lt_succ (words_clean h hf hc p hp).2.2
  have h3 : (wordsL l).length = 6 := rfl
  rw [h3] at h1 h2
  unfold lineTxt
  omega
abbrev st_line_of : Stmt := top 47
theorem sc_line_of : FnScope ["row", "words"] ["row"] (defScope st_line_of) := ⟨rfl, rfl, rfl, by decide +kernel, rfl, by decide +kernel, by decide +kernel⟩
def R_line_of (_ : Hp) (ds : List Dt) (C : Dt → Prop) : Prop := ∃ l fc ct, ds = [.str (lineTxt l)] ∧ LnOk l fc ct ∧ (∀ c ∈ fc, 64 < c ∧ c < 128) ∧ (∀ c ∈ ct, 64 < c) ∧ C = fun e => e = Ln.d l
theorem c_line_of (T : Txt mg) (F : DefAt K mg "line_of" st_line_of) {t : Tok} (h_NONE : mg "NONE" = some (.str "none" t)) : Cal P w K mg base CX0 1 "line_of" ["row"] (spR R_line_of) := by
  refine cal_of sc_line_of F (fun _ _ _ ⟨_, _, _, e, _⟩ => by rw [e]; rfl) (fun _ _ _ _ _ _ us hl => match us, hl with | [_], _ => rfl) fun f cdv A outer s H hr E => ?_
  refine ⟨_, (pss_cons (ps_set (i := 1) sc_line_of.nd rfl (Or.inl rfl) (pe_split (pv 0) pe_str))
      (pss_cons (ps_if (PW.pt (pw_or (pt_cmpR op_ne (pe_len T (pv 1)) pe_int (nomark _)) (pw_or1 (pt_cmpR op_in_seq pe_str (pv 1) rfl)))) (pss_one (ps_ret pe_non)) pss_nil)
      (pss_one (ps_ret (pe_tup (StX.pa_star (pe_slice sl_U (pv 1) po_none (po_some pe_int)) (pa_cons (pe_ifExp (pt_cmpR op_eq (pe_ix ix_U (pv 1) pe_int (fun _ _ => rfl)) (pe_globS h_NONE) (nomark _)) pe_str (pe_ix ix_U (pv 1) pe_int (fun _ _ => rfl))) pa_nil))))))), ?_⟩
  rintro ds C vs hd ⟨l, fc, ct, rfl, R, hf, hc, rfl⟩ D kr kn
  obtain ⟨x, rfl, hx⟩ := dqa1 hd
  have cl := words_clean R hf hc
  have sp : splitC 32 (lineTxt l) = wordsL l := split_joinC (by simp [wordsL]) fun p hp h32 => by
    have := (cl p hp).2.1 32 h32
    omega
  refine g_asgD (d := .lst ((wordsL l).map Dt.str)) (EvD.to (ed_split (c := 32) (xv hx) ed_str (Nat.le_trans (lineTxt_len R hf hc) (by decide))) (by rw [sp])) fun v H1 e1 dv => ?_
  refine g_whenD (b := false) (EvB.to (et_or (b := false) (tn (xl (xv dv)) ed_int) fun _ => EvB.to (et_B (ed_inL (neg := false) (c := []) (ls := wordsL l) ed_str (.inl (xv dv)))) ?_) rfl) (fun q => by cases q) fun _ H2 e2 => ?_
  · have : ([] : List Nat) ∉ wordsL l := fun h => (cl [] h).1 rfl
    simp [this]
  · have dv := dv.mono e2
    have dv' : Dq H2 v (.lst [.str l.p0, .str l.p1, .str l.p2, .str l.p3, .str l.pc, .str (cutW l.cut)]) := dv
    obtain ⟨_, _, _, h4⟩ := cut_clean R.cut hf
    refine rtC ?_ (e1.trans e2) kr
    refine EvC.imp (xT (ad_star (ds := [.str l.cut]) (.inl (xs (xv dv') eo_none eo_i rfl)) (a1 ?_)) (Nat.le_of_ble_eq_true rfl)) fun d e => e
    refine ed_if (b := decide (cutW l.cut = noneL)) (EvB.to (tq (a := .str (cutW l.cut)) (xi (xv dv')) ed_str) rfl) (fun h => ?_) fun h => ?_
    · rw [if_pos (of_decide_eq_true h)] at h4
      rw [← h4]
      exact ed_str
    · rw [if_neg (of_decide_eq_false h)] at h4
      exact EvD.to (xi (xv dv')) (congrArg Dt.str h4)
abbrev st_law_line_text : Stmt := top 64
theorem sc_law_line_text : FnScope ["_law_line"] ["_law_line"] (defScope st_law_line_text) := ⟨rfl, rfl, rfl, by decide +kernel, rfl, by decide +kernel, by decide +kernel⟩
def R_line_text (_ : Hp) (ds : List Dt) (C : Dt → Prop) : Prop := ∃ l fc ct, ds = [Ln.d l] ∧ LnOk l fc ct ∧ (∀ c ∈ fc, 64 < c ∧ c < 128) ∧ (∀ c ∈ ct, 64 < c) ∧ C = fun e => e = .str (lineTxt l)
theorem c_law_line_text (T : Txt mg) (F : DefAt K mg "_law_line_text" st_law_line_text) : Cal P w K mg base CX0 1 "_law_line_text" ["_law_line"] (spR R_line_text) := by
  refine cal_of sc_law_line_text F (fun _ _ _ ⟨_, _, _, e, _⟩ => by rw [e]; rfl) (fun _ _ _ _ _ _ us hl => match us, hl with | [_], _ => rfl) fun f cdv A outer s H hr E => ?_
  refine ⟨_, (pss_one (ps_ret (pe_join pe_str (pe_op op_addU (pe_listL T (pe_slice sl_U (pv 0) po_none (po_some pe_int))) (pe_lst (pa_cons (pe_ifExp (pt_cmpR op_ne (pe_ix ix_U (pv 0) pe_int (fun _ _ => rfl)) pe_str (nomark _)) (pe_ix ix_U (pv 0) pe_int (fun _ _ => rfl)) pe_str) pa_nil)))))), ?_⟩
  rintro ds C vs hd ⟨l, fc, ct, rfl, R, hf, hc, rfl⟩ D kr kn
  obtain ⟨x, rfl, hx⟩ := dqa1 hd
  have cl := words_clean R hf hc
  have hx : Dq H x (.tup [.str l.p0, .str l.p1, .str l.p2, .str l.p3, .str l.pc, .str l.cut]) := hx
  have h2 := sum_le (f := List.length) (n := 63) (l := wordsL l) fun p hp => Nat.le_of_lt_succ (cl p hp).2.2
  have h3 : (wordsL l).length = 6 := rfl
  refine rtD (ed_joinC (c := 32) (xs := wordsL l) ed_str (xa (ed_listL (.inr (xs (xv hx) eo_none eo_i rfl))) (b := .lst [.str (cutW l.cut)]) (xL (a1 (ed_if (b := !decide (l.cut = [])) (EvB.to (tn (a := .str l.cut) (xi (xv hx)) ed_str) rfl) (fun h => ?_) fun h => ?_)))) (by omega)) (Ex.refl H) kr
  · have : l.cut ≠ [] := by simpa using h
    have e : cutW l.cut = l.cut := if_neg this
    exact EvD.to (xi (xv hx)) (congrArg Dt.str e.symm)
  · have : l.cut = [] := by simpa using h
    have e : cutW l.cut = noneL := if_pos this
    rw [e]
    exact ed_str
end
end FW
set_option maxRecDepth 100000
set_option maxHeartbeats 4000000
namespace FW
open PySem L2
open Evl (Ex Ex.refl Ex.trans Ex.new Ex.mut EvT)
theorem Rising.low {l : List Nat} (h : Rising l lowerL) : ∀ c ∈ l, 64 < c ∧ c < 128 := fun c hc => by
  have := h.sub c hc
  simp [lowerL] at this
  omega
theorem Rising.up {l : List Nat} (h : Rising l upperL) : ∀ c ∈ l, 64 < c ∧ c < 128 := fun c hc => by
  have := h.sub c hc
  simp [upperL] at this
  omega
def headL (s : Spec) : List Nat := s.fc ++ [32] ++ s.ct
def rowsL (s : Spec) : List (List Nat) := headL s :: s.ls.map lineTxt
section
variable {s : Spec} (h : SpecOk s)
include h
theorem SpecOk.ltxt : ∀ l ∈ s.ls, (lineTxt l).length ≤ 400 := fun l hl => lineTxt_len (h.ls l hl) h.fc.low fun c hc => (h.ct.up c hc).1
theorem mem_joinC {c x : Nat} : ∀ {xs : List (List Nat)}, x ∈ joinC c xs → x = c ∨ ∃ p ∈ xs, x ∈ p
  | [], h => by simp [joinC] at h
  | [p], h => .inr ⟨p, List.mem_singleton_self _, h⟩
  | p :: q :: r, h => by
    have h : x ∈ p ++ c :: joinC c (q :: r) := h
    rcases List.mem_append.mp h with z | z
    · exact .inr ⟨p, List.mem_cons_self .., z⟩
    · rcases List.mem_cons.mp z with z | z
      · exact .inl z
      · rcases mem_joinC z with z | ⟨u, hu, hx⟩
        · exact .inl z
        · exact .inr ⟨u, List.mem_cons_of_mem _ hu, hx⟩
theorem SpecOk.no10 : ∀ p ∈ rowsL s, 10 ∉ p := by
  intro p hp h10
  rcases List.mem_cons.mp hp with rfl | hp
  · simp [headL] at h10
    rcases h10 with z | z
    · have := h.fc.low 10 z
      omega
    · have := h.ct.up 10 z
      omega
  · obtain ⟨l, hl, rfl⟩ := List.mem_map.mp hp
    rcases mem_joinC h h10 with z | ⟨q, hq, hx⟩
    · omega
    · have := (words_clean (h.ls l hl) h.fc.low (fun c hc => (h.ct.up c hc).1) q hq).2.1 10 hx
      omega
theorem SpecOk.rows : splitC 10 (bookTxt s) = rowsL s := split_joinC (by simp [rowsL]) h.no10
theorem SpecOk.head : splitC 32 (headL s) = [s.fc, s.ct] := by
  have e : headL s = joinC 32 [s.fc, s.ct] := by
    simp [headL, joinC]
  rw [e]
  refine split_joinC (by simp) fun p hp h32 => ?_
  simp at hp
  rcases hp with rfl | rfl
  · have := h.fc.low 32 h32
    omega
  · have := h.ct.up 32 h32
    omega
theorem SpecOk.rlen : ((rowsL s).map List.length).sum ≤ 4000 := by
  have h1 := sum_le (f := List.length) (n := 400) (l := s.ls.map lineTxt) fun p hp => by
    obtain ⟨l, hl, rfl⟩ := List.mem_map.mp hp
    exact h.ltxt l hl
  have h2 := h.l8
  have h3 := h.f3
  have h4 := h.c3
  rw [List.length_map] at h1
  show (headL s).length + ((s.ls.map lineTxt).map List.length).sum ≤ 4000
  have h5 : (headL s).length = s.fc.length + 1 + s.ct.length := by simp [headL]; omega
  rw [h5]
  omega
theorem SpecOk.blen : (bookTxt s).length ≤ 5000 := by
  have h1 := joinC_len 10 (rowsL s)
  have h2 := h.rlen
  have h3 : (rowsL s).length = s.ls.length + 1 := by simp [rowsL]
  have h4 := h.l8
  show (joinC 10 (rowsL s)).length ≤ 5000
  omega
theorem SpecOk.bok : Bok s where
  len := by
    have := h.l8
    omega
  cuts := fun l hl => by
    rcases (h.ls l hl).cut with z | ⟨o, x, y, e, _⟩
    · exact .inl z
    · exact .inr ⟨o, x, y, e⟩
end
section
variable {P : Program} {w : World} {K : PySem.W.Frag} {mg : Str → Option Value} {base : Heap}
abbrev st_law_book_text : Stmt := top 65
theorem sc_law_book_text : FnScope ["_law_spec", "_law_line"] ["_law_spec"] (defScope st_law_book_text) := ⟨rfl, rfl, rfl, by decide +kernel, rfl, by decide +kernel, by decide +kernel⟩
def R_book_text (_ : Hp) (ds : List Dt) (C : Dt → Prop) : Prop := ∃ sp, ds = [Spec.d sp] ∧ SpecOk sp ∧ C = fun e => e = .str (bookTxt sp)
theorem c_law_book_text (T : Txt mg) (F : DefAt K mg "_law_book_text" st_law_book_text) (C__law_line_text : Cal P w K mg base CX0 1 "_law_line_text" ["_law_line"] (spR R_line_text)) : Cal P w K mg base CX0 2 "_law_book_text" ["_law_spec"] (spR R_book_text) := by
  refine cal_of sc_law_book_text F (fun _ _ _ ⟨_, e, _⟩ => by rw [e]; rfl) (fun _ _ _ _ _ _ us hl => match us, hl with | [_], _ => rfl) fun f cdv A outer s H hr E => ?_
  refine ⟨_, (pss_one (ps_ret (pe_join pe_str (pe_op op_addU (pe_lst (pa_cons (pe_op op_addU (pe_op op_addU (pe_ix ix_U (pv 0) pe_int (fun _ _ => rfl)) pe_str) (pe_ix ix_U (pv 0) pe_int (fun _ _ => rfl))) pa_nil)) (pe_lc (own := [("_law_line", 1)]) (g := gName 1) rfl sc_law_book_text.nd (pi_list (pe_ix ix_U (pv 0) pe_int (fun _ _ => rfl))) (blkOk_by (own := [("_law_line", 1)]) (N := ["_law_spec", "_law_line"]) (sc := defScope st_law_book_text) (by decide +kernel)) (fun _ _ _ _ _ => (pg_name (i := 1) sc_law_book_text.nd rfl (Or.inl rfl))) (fun _ _ _ _ _ => pts_nilH) (fun _ _ _ _ _ => pe_hide (pe_cal C__law_line_text hr pass0 (pa_cons (pv 1) pa_nil)))))))), ?_⟩
  rintro ds C vs hd ⟨sp, rfl, ok, rfl⟩ D kr kn
  obtain ⟨x, rfl, hx⟩ := dqa1 hd
  have l3 := ok.f3
  have l4 := ok.c3
  have l8 := ok.l8
  refine rtD (ed_joinC (c := 10) (xs := rowsL sp) ed_str (xa (a := .lst [.str (headL sp)]) (b := .lst ((sp.ls.map lineTxt).map Dt.str)) (xL (a1 ?_)) ?_ rfl ?_) ?_) (Ex.refl H) kr
  · exact xa (a := .str (sp.fc ++ [32])) (b := .str sp.ct) (xa (a := .str sp.fc) (b := .str [32]) (xi (a := Spec.d sp) (xv hx)) ed_str rfl (by simp [okL, headL]; omega)) (xi (a := Spec.d sp) (xv hx)) rfl (by simp [okL, headL]; omega)
  · refine EvD.to (ed_lcM (xs := sp.ls.map Ln.d) (fun d => match d with | .tup [.str a, .str b, .str c, .str d, .str e, .str f] => .str (lineTxt ⟨a, b, c, d, e, f⟩) | _ => .non) (ei_listD (xi (a := Spec.d sp) (xv hx))) (by rw [List.length_map]; omega) (fun _ => rfl) fun i z v B ez eB dz => ?_) ?_
    · obtain ⟨l, hl, rfl⟩ := map_at ez
      exact ed_call (a1 (xv dz)) fun H1 e => ⟨l, sp.fc, sp.ct, rfl, ok.ls l (List.mem_of_getElem? hl), ok.fc.low, fun c hc => (ok.ct.up c hc).1, rfl⟩
    · rw [List.map_map, List.map_map]
      rfl
  · show (Dt.str (headL sp) :: _).length ≤ 100000
    simp
    omega
  · have := ok.rlen
    have : (rowsL sp).length = sp.ls.length + 1 := by simp [rowsL]
    omega
end
end FW
set_option maxRecDepth 100000
set_option maxHeartbeats 4000000
namespace FW
open PySem L2
open Evl (Ex Ex.refl Ex.trans Ex.new Ex.mut EvT)
section
variable {P : Program} {w : World} {K : PySem.W.Frag} {mg : Str → Option Value} {base : Heap} {Cb : Addr}
/-- Book.MOST -/
structure BkMost (K : PySem.W.Frag) (Cb : Addr) (mc : Value) : Prop where
  rd : ClX.CRead K Cb mc
  most : ∃ u, ClX.CVal K Cb mc "MOST" (.int 8) u
theorem ed_most {mc : Value} {σ : St} {H : Hp} {ta : TE} (M : BkMost K Cb mc) (h : EvD ta σ H (.obj Cb)) : EvD (ClX.tCVal K ta "MOST") σ H (.int 8) := by
  obtain ⟨u, c⟩ := M.most
  exact ed_cval h M.rd c fun H => .int 8
def spIni0 (Cb : Addr) : Sp := fun vs H Q _ => ∃ a dx sp t ls, vs = [.ref a, .str (S sp.fc), .str (S sp.ct), .ref t] ∧ H a = some (.ins Cb dx []) ∧ H t = some (.tup ls) ∧ DqA H ls (sp.ls.map Ln.d) ∧ SpecOk sp ∧
  ∀ v H2, Ex (hid H a) H2 → H2 a = some (.ins Cb dx (bkF sp v)) → Dq H2 v (.lst (sp.ls.map Ln.d)) → Q .non H2
def spIni (Cb : Addr) : Sp := fun vs H Q _ => ∃ a dx sp ls, vs = [.ref a, .str (S sp.fc), .str (S sp.ct)] ++ ls ∧ H a = some (.ins Cb dx []) ∧ DqA H ls (sp.ls.map Ln.d) ∧ SpecOk sp ∧
  ∀ v H2, Ex (hid H a) H2 → H2 a = some (.ins Cb dx (bkF sp v)) → Dq H2 v (.lst (sp.ls.map Ln.d)) → Q .non H2
abbrev st_Book___init : Stmt := inClass (top 42) 1
theorem sc_Book___init : FnScope ["self", "faces", "cutters", "lines", "at", "line"] ["self", "faces", "cutters", "lines"] (defScope st_Book___init) := ⟨rfl, rfl, rfl, by decide +kernel, rfl, by decide +kernel, by decide +kernel⟩
theorem c_init {mc : Value} (T : Txt mg) (B : BkCls K Cb) (M : BkMost K Cb mc) (F : ∃ f fd, Mk K Cb f ∧ Fun K "__init__" "Book.__init__" st_Book___init f fd) (h_Book : mg "Book" = some (.ref Cb))
    (C_is_faces : Cal P w K mg base CX0 2 "is_faces" ["value"] (spR (R_r1 lowerL 6))) (C_is_cutters : Cal P w K mg base CX0 2 "is_cutters" ["value"] (spR (R_r1 upperL 4))) (C_is_line : Cal P w K mg base CX0 3 "is_line" ["value", "faces", "cutters"] (spR R_is_line)) : Ini P w K mg base CX0 4 Cb (spIni Cb) := by
  refine ini_ofS (ps := ["self", "faces", "cutters"]) (pv := "lines") (sp0 := spIni0 Cb) sc_Book___init F (fun _ _ _ _ _ _ us rest hl => ?_) (fun vs H Q E h => ?_) fun f cdv A outer s H hr E => ?_
  · match us, hl, rest with
    | [a, b, c], _, [] => rfl
    | [a, b, c], _, _ :: _ => rfl
  · obtain ⟨a, dx, sp, ls, rfl, h1, h2, ok, q⟩ := h
    have l8 := ok.l8
    have hl : ls.length = sp.ls.length := by rw [h2.len, List.length_map]
    refine ⟨_, ls, rfl, rfl, szl (by omega), fun p hp => ?_⟩
    have hpa : a ≠ p := ne_of_none h1 hp
    refine ⟨a, dx, sp, p, ls, rfl, by rw [upd_ne hpa]; exact h1, upd_same, h2.mono (Ex.new hp), ok, fun v H2 e h3 h4 => q v H2 (fun b o z => e b o ?_) h3 h4⟩
    by_cases zb : b = a
    · rw [zb, hid_same] at z
      cases z
    · rw [hid_ne zb] at z ⊢
      exact Ex.new hp _ _ z
  · refine ⟨_, (pss_cons (ps_if (pt_not (pt_val (pe_cal C_is_faces hr pass0 (pa_cons (pv 1) pa_nil)))) (pss_one ps_never) pss_nil)
      (pss_cons (ps_if (pt_not (pt_val (pe_cal C_is_cutters hr pass0 (pa_cons (pv 2) pa_nil)))) (pss_one ps_never) pss_nil)
      (pss_cons (ps_for PassesOwn.never rfl (pi_enumT rfl T.enumerate (pa_cons (pv 3) pa_nil)) (pg_tup rfl (pgs_cons (pg_name (i := 4) sc_Book___init.nd rfl (Or.inl rfl)) (pgs_cons (pg_name (i := 5) sc_Book___init.nd rfl (Or.inl rfl)) pgs_nil))) (pss_one (ps_if (PW.pt (pw_or (pt_cmpR op_ge (pv 4) (ClX.pe_cval (pe_globR h_Book)) (nomark _)) (pw_or1 (pt_not (pt_val (pe_cal C_is_line hr pass0 (pa_cons (pv 5) (pa_cons (pv 1) (pa_cons (pv 2) pa_nil))))))))) (pss_one ps_never) pss_nil)))
      (pss_cons (ps_fld (pv 0) (pv 1) rfl)
      (pss_cons (ps_fld (pv 0) (pv 2) rfl)
      (pss_one (ps_fld (pv 0) (pe_listL T (pv 3)) rfl))))))), ?_⟩
    rintro vs Q ⟨a, dx, sp, t, ls, rfl, ha, ht, hls, ok, q⟩
    have hx : Dq H (.ref a) (.obj a) := .obj a
    have hy : Dq H (.str (S sp.fc)) (.str sp.fc) := .str _
    have hz : Dq H (.str (S sp.ct)) (.str sp.ct) := .str _
    have l8 := ok.l8
    have l3 := ok.f3
    have l4 := ok.c3
    have cTup : ∀ xs, H a ≠ some (.tup xs) := fun xs z => by
      rw [ha] at z
      cases z
    have cLst : ∀ xs, H a ≠ some (.lst xs) := fun xs z => by
      rw [ha] at z
      cases z
    refine g_whenD (b := false) (EvB.to (et_not (et_T (ed_call (a1 (xv hy)) fun H1 e => ⟨sp.fc, rfl, ok.fc, by omega, rfl⟩))) rfl) (fun q => by cases q) fun _ H1 e1 => ?_
    refine g_whenD (b := false) (EvB.to (et_not (et_T (ed_call (a1 (xv (hz.mono e1))) fun H1 e => ⟨sp.ct, rfl, ok.ct, by omega, rfl⟩))) rfl) (fun q => by cases q) fun _ H2 e2 => ?_
    have e12 : Ex H H2 := e1.trans e2
    refine g_forB2 (wb_enumT (vv_var rfl) (Ex.refl H2) (e12 _ _ ht) (hls.mono e12)) enumD_pair (fun i σ' H' => Ex H2 H' ∧ ∃ p r, σ' = [some (.ref a), some (.str (S sp.fc)), some (.str (S sp.ct)), some (.ref t), p, r]) (fun H1 e => ⟨e, none, none, rfl⟩) (fun i σ' H' h => h.1) ?_ ?_
    · rintro i p r v u σ' H' H'' ez ⟨e3, p0, r0, rfl⟩ e4 dv du
      obtain ⟨y', ey, e5⟩ := enumD_get ez
      simp at e5
      obtain ⟨rfl, rfl⟩ := e5
      obtain ⟨l, el, rfl⟩ := map_at ey
      have hi : i < sp.ls.length := (List.getElem?_eq_some_iff.mp el).1
      have e5 : Ex H H'' := e12.trans (e3.trans e4)
      refine s_ifD (b := false) (EvB.to (et_or (b := false) (et_B (ed_b0 (xv dv) (ed_most M ed_ref))) fun _ => EvB.to (et_not (et_T (ed_call (a3 (xv du) (xv (hy.mono e5)) (xv (hz.mono e5))) fun H1 e => ⟨l, sp.fc, sp.ct, rfl, ok.ls l (List.mem_of_getElem? el), by omega, by omega, rfl⟩))) rfl) ?_) (fun q => by cases q) fun _ H5 e6 => ?_
      · have : decide ((i : Int) ≥ 8) = false := decide_eq_false (by omega)
        simpa using this
      · exact ⟨(e3.trans e4).trans e6, _, _, rfl⟩
    · rintro σ' H3 ⟨e3, p, r, rfl⟩
      have e13 : Ex H H3 := e12.trans e3
      refine g_fld (xv (hy.mono e13)) (xv (hx.mono e13)) (e13 _ _ ha) B.cls B.faces (by decide) fun v1 H4 e4 d1 => ?_
      cases d1
      have x0 : Ex (hid H a) (upd H4 a (.ins Cb dx [("faces", .str (S sp.fc))])) := ex_put hid_same (hid_sub.trans (e13.trans e4))
      refine g_fld (fs := [("faces", .str (S sp.fc))]) (d := .str sp.ct) (xv (.str _)) (xv (.obj a)) upd_same B.cls B.cutters (by simp) fun v2 H5 e5 d2 => ?_
      cases d2
      have x1 : Ex (hid H a) (upd H5 a (.ins Cb dx [("faces", .str (S sp.fc)), ("cutters", .str (S sp.ct))])) := ex_put hid_same (x0.trans e5)
      have hls2 : DqA (upd H5 a (.ins Cb dx [("faces", .str (S sp.fc)), ("cutters", .str (S sp.ct))])) ls (sp.ls.map Ln.d) := (hls.hid cLst cTup).mono x1
      have ht2 : (upd H5 a (.ins Cb dx [("faces", .str (S sp.fc)), ("cutters", .str (S sp.ct))])) t = some (.tup ls) := x1 _ _ (by
        rw [hid_ne (fun z => cTup ls (by rw [← z]; exact ht))]
        exact ht)
      refine s_fld (fs := [("faces", .str (S sp.fc)), ("cutters", .str (S sp.ct))]) (d := .lst (sp.ls.map Ln.d)) (ed_listL (.inr (xv (.tup ht2 hls2)))) (xv (.obj a)) upd_same B.cls B.own_lines (by simp) fun v3 H6 e6 d3 => ?_
      have cT3 : ∀ xs, H6 a ≠ some (.tup xs) := fun xs z => by
        rw [e6 _ _ upd_same] at z
        cases z
      have cL3 : ∀ xs, H6 a ≠ some (.lst xs) := fun xs z => by
        rw [e6 _ _ upd_same] at z
        cases z
      refine q v3 _ (ex_put hid_same (x1.trans e6)) upd_same ((d3.hid cL3 cT3).mono (ex_put hid_same hid_sub))
end
end FW
set_option maxRecDepth 100000
set_option maxHeartbeats 4000000
namespace FW
open PySem L2
open Evl (Ex Ex.refl Ex.trans Ex.new Ex.mut EvT)
mutual
inductive NoL : Dt → Prop
  | non : NoL .non
  | bl (b : Bool) : NoL (.bl b)
  | int (i : Int) : NoL (.int i)
  | str (l : List Nat) : NoL (.str l)
  | obj (a : Addr) : NoL (.obj a)
  | tup {ds : List Dt} : NoLA ds → NoL (.tup ds)
inductive NoLA : List Dt → Prop
  | nil : NoLA []
  | cons {d : Dt} {ds : List Dt} : NoL d → NoLA ds → NoLA (d :: ds)
end
mutual
theorem Dq.hidL {H : Hp} {a : Addr} (h2 : ∀ xs, H a ≠ some (.tup xs)) : ∀ {v : V} {d : Dt}, NoL d → Dq H v d → Dq (hid H a) v d
  | _, _, _, .non => .non
  | _, _, _, .bl b => .bl b
  | _, _, _, .int i => .int i
  | _, _, _, .str l => .str l
  | _, _, .tup n, .tup (a := b) h k => .tup (by rw [hid_ne (fun z => h2 _ (by rw [← z]; exact h))]; exact h) (DqA.hidL h2 n k)
  | _, _, _, .obj a => .obj a
theorem DqA.hidL {H : Hp} {a : Addr} (h2 : ∀ xs, H a ≠ some (.tup xs)) : ∀ {vs : List V} {ds : List Dt}, NoLA ds → DqA H vs ds → DqA (hid H a) vs ds
  | _, _, _, .nil => .nil
  | _, _, .cons n m, .cons h k => .cons (Dq.hidL h2 n h) (DqA.hidL h2 m k)
end
theorem Ln.noL (l : Ln) : NoL l.d := .tup (.cons (.str _) (.cons (.str _) (.cons (.str _) (.cons (.str _) (.cons (.str _) (.cons (.str _) .nil))))))
theorem hid_upd {H : Hp} {L : Addr} {o : HO} : hid (upd H L o) L = hid H L := by
  funext b
  by_cases z : b = L
  · rw [z, hid_same, hid_same]
  · rw [hid_ne z, hid_ne z, upd_ne z]
theorem hid_mono {H H' : Hp} {L : Addr} (e : Ex H H') : Ex (hid H L) (hid H' L) := fun b o q => by
  by_cases z : b = L
  · rw [z, hid_same] at q
    cases q
  · rw [hid_ne z] at q ⊢
    exact e b o q
section
variable {P : Program} {w : World} {K : PySem.W.Frag} {mg : Str → Option Value} {base : Heap} {Cb : Addr}
def spRead (Cb : Addr) : Sp := fun vs H Q _ => ∃ sp, vs = [.str (S (bookTxt sp))] ∧ SpecOk sp ∧ ∀ a H2, Ex H H2 → BkAt Cb a sp H2 → Q (.ref a) H2
abbrev st_Book_read : Stmt := inClass (top 42) 13
theorem sc_Book_read : FnScope ["text", "rows", "head", "lines", "at", "row", "line"] ["text"] (defScope st_Book_read) := ⟨rfl, rfl, rfl, by decide +kernel, rfl, by decide +kernel, by decide +kernel⟩
theorem m_read {mc : Value} (T : Txt mg) (B : BkCls K Cb) (M : BkMost K Cb mc) (F : ∃ p g fd, SMet K Cb mc "read" p g ∧ Fun K "read" "Book.read" st_Book_read g fd) (h_Book : mg "Book" = some (.ref Cb)) (N : Ini P w K mg base CX0 4 Cb (spIni Cb))
    (C_is_faces : Cal P w K mg base CX0 2 "is_faces" ["value"] (spR (R_r1 lowerL 6))) (C_is_cutters : Cal P w K mg base CX0 2 "is_cutters" ["value"] (spR (R_r1 upperL 4))) (C_is_line : Cal P w K mg base CX0 3 "is_line" ["value", "faces", "cutters"] (spR R_is_line)) (C_line_of : Cal P w K mg base CX0 1 "line_of" ["row"] (spR R_line_of)) :
    Sal P w K mg base CX0 6 Cb mc "read" ["text"] (spRead Cb) := by
  refine sal_ofS sc_Book_read F (fun vs H Q E ⟨sp, e, _⟩ => by rw [e]; rfl) (fun _ _ _ _ _ _ us hl => match us, hl with | [_], _ => rfl) fun f cdv A outer s H hr E => ?_
  refine ⟨_, (pss_cons (ps_set (i := 1) sc_Book_read.nd rfl (Or.inl rfl) (pe_ifExp (pt_val (pe_isi T (pv 0) (pe_tyStr T))) (pe_split (pv 0) pe_str) (pe_lst (pa_cons pe_str pa_nil))))
      (pss_cons (ps_set (i := 2) sc_Book_read.nd rfl (Or.inl rfl) (pe_split (pe_ix ix_U (pv 1) pe_int (fun _ _ => rfl)) pe_str))
      (pss_cons (ps_if (PW.pt (pw_or (pt_cmpR op_ne (pe_len T (pv 2)) pe_int (nomark _)) (pw_or (pt_not (pt_val (pe_cal C_is_faces hr pass0 (pa_cons (pe_ix ix_U (pv 2) pe_int (fun _ _ => rfl)) pa_nil)))) (pw_or1 (pt_not (pt_val (pe_cal C_is_cutters hr pass0 (pa_cons (pe_ix ix_U (pv 2) pe_int (fun _ _ => rfl)) pa_nil)))))))) (pss_one ps_never) pss_nil)
      (pss_cons (ps_set (i := 3) sc_Book_read.nd rfl (Or.inl rfl) (pe_lst pa_nil))
      (pss_cons (ps_for PassesOwn.never rfl (pi_enum rfl T.enumerate (pa_cons (pv 1) pa_nil)) (pg_tup rfl (pgs_cons (pg_name (i := 4) sc_Book_read.nd rfl (Or.inl rfl)) (pgs_cons (pg_name (i := 5) sc_Book_read.nd rfl (Or.inl rfl)) pgs_nil))) (pss_one (ps_if (pt_cmpR op_gt (pv 4) pe_int (nomark _)) (pss_cons (ps_set (i := 6) sc_Book_read.nd rfl (Or.inl rfl) (pe_cal C_line_of hr pass0 (pa_cons (pv 5) pa_nil)))
          (pss_cons (ps_if (PW.pt (pw_or (pt_cmpR op_gt (pv 4) (ClX.pe_cval (pe_globR h_Book)) (nomark _)) (pw_or1 (pt_not (pt_val (pe_cal C_is_line hr pass0 (pa_cons (pv 6) (pa_cons (pe_ix ix_U (pv 2) pe_int (fun _ _ => rfl)) (pa_cons (pe_ix ix_U (pv 2) pe_int (fun _ _ => rfl)) pa_nil))))))))) (pss_one ps_never) pss_nil)
          (pss_one (ps_expr (pe_bm PySem.F.plainAttrs_list PySem.F.slot_list_append PySem.F.type_list_append mt_append (pv 3) (pa_cons (pv 6) pa_nil)))))) pss_nil)))
      (pss_one (ps_ret (pe_makeS N hr h_Book pass0 (pa_cons (pe_ix ix_U (pv 2) pe_int (fun _ _ => rfl)) (pa_cons (pe_ix ix_U (pv 2) pe_int (fun _ _ => rfl)) (StX.pa_star (pv 3) pa_nil))))))))))), ?_⟩
  rintro vs Q ⟨sp, rfl, ok, q⟩
  have hx : Dq H (.str (S (bookTxt sp))) (.str (bookTxt sp)) := .str _
  have l8 := ok.l8
  have l3 := ok.f3
  have l4 := ok.c3
  have rl : (rowsL sp).length = sp.ls.length + 1 := by simp [rowsL]
  refine g_asgD (d := .lst ((rowsL sp).map Dt.str)) (ed_if (b := true) (et_T (ed_isStr (xv hx) trivial)) (fun _ => EvD.to (ed_split (c := 10) (xv hx) ed_str (Nat.le_trans ok.blen (by decide))) (by rw [ok.rows])) fun q => by cases q) fun v1 H1 e1 d1 => ?_
  have dh : ∀ {σ : St} {H' : Hp} {te : TE}, EvD te σ H' (.lst ((rowsL sp).map Dt.str)) → EvD (tOp (rIxU K) te (tC (.int 0))) σ H' (.str (headL sp)) := fun h => ed_ix h ed_int (atI_nat (i := 0) rfl) (by show List.length _ ≤ 100000; rw [List.length_map, rl]; omega)
  refine g_asgD (d := .lst [.str sp.fc, .str sp.ct]) (EvD.to (ed_split (c := 32) (dh (xv d1)) ed_str (by simp [headL]; omega)) (by rw [ok.head] <;> rfl)) fun v2 H2 e2 d2 => ?_
  refine g_whenD (b := false) (EvB.to (et_or (b := false) (tn (xl (xv d2)) ed_int) fun _ => EvB.to (et_or (a := false) (b := false) (EvB.to (et_not (et_B (ed_call (a1 (xi (xv d2))) fun H1 e => ⟨sp.fc, rfl, ok.fc, by omega, rfl⟩))) rfl) fun _ => EvB.to (et_not (et_T (ed_call (a1 (xi (xv d2))) fun H1 e => ⟨sp.ct, rfl, ok.ct, by omega, rfl⟩))) rfl) rfl) rfl) (fun q => by cases q) fun _ H3 e3 => ?_
  have d1 := (d1.mono e2).mono e3
  have d2 := d2.mono e3
  have e03 : Ex H H3 := (e1.trans e2).trans e3
  refine g_new fun L hL => ?_
  obtain ⟨ra, rvs, rfl, hra, kra⟩ := dq_lst d1
  refine g_forB2 (wb_enum (vv_var rfl) (Ex.new hL) hra kra) enumD_pair (fun i σ' H' => Ex H3 H' ∧ ∃ ws p r l', σ' = [some (.str (S (bookTxt sp))), some (.ref ra), some v2, some (.ref L), p, r, l'] ∧ H' L = some (.lst ws) ∧ DqA (hid H' L) ws ((sp.ls.take (i - 1)).map Ln.d)) (fun H1 e => ⟨(Ex.new hL).trans e, [], none, none, none, rfl, e _ _ upd_same, .nil⟩) (fun i σ' H' h => h.1) ?_ ?_
  · rintro i p r v u σ' H' H'' ez ⟨e4, ws, p0, r0, l0, rfl, hws, kws⟩ e5 dv du
    obtain ⟨y', ey, e6⟩ := enumD_get ez
    simp at e6
    obtain ⟨rfl, rfl⟩ := e6
    obtain ⟨row, er, rfl⟩ := map_at ey
    have e7 : Ex H3 H'' := e4.trans e5
    cases i with
    | zero =>
      refine s_ifD (b := false) (EvB.to (et_B (ed_b0 (xv dv) ed_int)) rfl) (fun q => by cases q) fun _ H5 e6 => ?_
      exact ⟨e7.trans e6, ws, _, _, _, rfl, (e5.trans e6) _ _ hws, kws.mono (hid_mono (e5.trans e6))⟩
    | succ i =>
      have er' : (sp.ls.map lineTxt)[i]? = some row := by simpa [rowsL] using er
      obtain ⟨l, el, rfl⟩ := map_at er'
      have hi : i < sp.ls.length := (List.getElem?_eq_some_iff.mp el).1
      have lok := ok.ls l (List.mem_of_getElem? el)
      refine s_ifD (b := true) (EvB.to (et_B (ed_b0 (xv dv) ed_int)) (by first | (simp; done) | (simp; omega))) (fun _ H5 e6 => ?_) fun q => by cases q
      have du := du.mono e6
      have dv := dv.mono e6
      refine g_asgD (d := Ln.d l) (ed_call (a1 (xv du)) fun H1 e => ⟨l, sp.fc, sp.ct, rfl, lok, ok.fc.low, fun c hc => (ok.ct.up c hc).1, rfl⟩) fun v3 H6 e8 d3 => ?_
      have d2 := ((d2.mono e7).mono e6).mono e8
      have dv := dv.mono e8
      refine g_whenD (b := false) (EvB.to (et_or (a := false) (b := false) (EvB.to (et_B (ed_b0 (xv dv) (ed_most M ed_ref))) (by first | (simp; done) | (simp; omega))) fun _ => EvB.to (et_not (et_T (ed_call (a3 (xv d3) (xi (xv d2)) (xi (xv d2))) fun H1 e => ⟨l, sp.fc, sp.ct, rfl, lok, by omega, by omega, rfl⟩))) rfl) rfl) (fun q => by cases q) fun _ H7 e9 => ?_
      have d3 := d3.mono e9
      have e10 : Ex H' H7 := ((e5.trans e6).trans e8).trans e9
      have kl := kws.len
      rw [List.length_map] at kl
      have kl2 := List.length_take_le (i + 1 - 1) sp.ls
      refine s_append (C := fun d => d = Ln.d l) (vv_var rfl) (e10 _ _ hws) (by omega) (xv d3) fun v4 d4 H8 e11 ed d4' => ?_
      subst ed
      have e12 := e10.trans e11
      refine ⟨ex_put hL (e4.trans e12), ws ++ [v4], _, _, _, rfl, upd_same, ?_⟩
      rw [hid_upd]
      have tk : sp.ls.take (i + 1 + 1 - 1) = sp.ls.take (i + 1 - 1) ++ [l] := by
        show sp.ls.take (i + 1) = sp.ls.take i ++ [l]
        rw [List.take_succ, el] <;> rfl
      rw [tk, List.map_append]
      refine (kws.mono (hid_mono e12)).app (.one (d4'.hidL (fun xs z => ?_) l.noL))
      rw [e12 _ _ hws] at z
      cases z
  · rintro σ' H4 ⟨e4, ws, p, r, l', rfl, hws, kws⟩
    have ht : sp.ls.take ((enumD ((rowsL sp).map Dt.str)).length - 1) = sp.ls := by
      rw [enumD_len, List.length_map, rl]
      exact List.take_length
    rw [ht] at kws
    have kws := kws.mono hid_sub
    have d2 := d2.mono e4
    refine r_makeS (ad_cons (xi (xv d2)) (ad_cons (xi (xv d2)) (ad_star (.inl (xv (.lst hws kws))) ad_nil))) fun vs H5 e5 kv x dx hx hdx hne => ?_
    cases kv with
    | cons k1 kv =>
      cases kv with
      | cons k2 kv =>
        cases k1
        cases k2
        rename_i ls
        have h5 : Ex H5 (upd (upd H5 dx (.own x)) x (.ins Cb dx [])) := (Ex.new hdx).trans (Ex.new (by rw [upd_ne (Ne.symm hne)]; exact hx))
        rw [List.append_nil] at kv
        refine ⟨x, dx, sp, ls, rfl, upd_same, kv.mono h5, ok, fun v H6 e6 h6 d6 => ⟨rfl, q x H6 ?_ ⟨dx, v, h6, d6⟩⟩⟩
        refine ((e03.trans e4).trans e5).trans (fun b o z => e6 b o ?_)
        have hb : b ≠ x := fun w => by
          rw [w, hx] at z
          cases z
        rw [hid_ne hb, upd_ne hb]
        exact Ex.new hdx b o z
def spLawBook (Cb : Addr) : Sp := fun vs H Q _ => ∃ sp, DqA H vs [Spec.d sp] ∧ SpecOk sp ∧ ∀ a H2, Ex H H2 → BkAt Cb a sp H2 → Q (.ref a) H2
abbrev st_law_book : Stmt := top 66
theorem sc_law_book : FnScope ["_law_spec"] ["_law_spec"] (defScope st_law_book) := ⟨rfl, rfl, rfl, by decide +kernel, rfl, by decide +kernel, by decide +kernel⟩
theorem c_law_book {mc : Value} (T : Txt mg) (M : BkMost K Cb mc) (F : DefAt K mg "_law_book" st_law_book) (h_Book : mg "Book" = some (.ref Cb)) (R : Sal P w K mg base CX0 6 Cb mc "read" ["text"] (spRead Cb)) (C__law_book_text : Cal P w K mg base CX0 2 "_law_book_text" ["_law_spec"] (spR R_book_text)) :
    Cal P w K mg base CX0 7 "_law_book" ["_law_spec"] (spLawBook Cb) := by
  refine cal_ofS sc_law_book F (fun vs H Q E ⟨sp, e, _⟩ => by rw [e.len]; rfl) (fun _ _ _ _ _ _ us hl => match us, hl with | [_], _ => rfl) fun f cdv A outer s H hr E => ?_
  refine ⟨_, (pss_one (ps_ret (pe_smeth (pe_globR h_Book) M.rd R hr pass0 (pa_cons (pe_cal C__law_book_text hr pass0 (pa_cons (pv 0) pa_nil)) pa_nil)))), ?_⟩
  rintro vs Q ⟨sp, hd, ok, q⟩
  obtain ⟨x, rfl, hx⟩ := dqa1 hd
  refine ⟨rfl, ed_call (C := fun d => d = .str (bookTxt sp)) (a1 (xv hx)) (fun H1 e => ⟨sp, rfl, ok, rfl⟩) H (Ex.refl H) _ fun v d H2 e2 ed dv => ?_⟩
  subst ed
  cases dv
  exact ⟨sp, rfl, ok, fun a H3 e3 hb => q a H3 (e2.trans e3) hb⟩
end
end FW
set_option maxRecDepth 100000
set_option maxHeartbeats 4000000
/-! # FM1: rooms that are closed under the cuts -/
namespace FW
def rp (sp : Spec) (x : List Nat) (k : Nat) : List (List Nat) := partsL x (cutAt sp.ls x k)
theorem rp_rm {sp : Spec} (ok : SpecOk sp) {x : List Nat} {k : Nat} (h : rmOf x sp.fc) : ∀ y ∈ rp sp x k, rmOf y sp.fc := by
  intro y hy
  obtain ⟨⟨n, e, s, w, rfl⟩, hx⟩ := h
  have hc : cutAt sp.ls [n, e, s, w] k = [] ∨ CutOk (cutAt sp.ls [n, e, s, w] k) sp.fc := by
    unfold cutAt
    cases q : (lineAt sp.ls [n, e, s, w] k).bind fun i => sp.ls[i]? with
    | none => exact .inl rfl
    | some l =>
      obtain ⟨i, _, e2⟩ := Option.bind_eq_some_iff.mp q
      exact (ok.ls l (List.mem_of_getElem? e2)).cut
  unfold rp at hy
  have h0 := hx n (by simp)
  have h1 := hx e (by simp)
  have h2 := hx s (by simp)
  have h3 := hx w (by simp)
  have mk : ∀ {a b c d : Nat}, a ∈ sp.fc → b ∈ sp.fc → c ∈ sp.fc → d ∈ sp.fc → rmOf [a, b, c, d] sp.fc := fun ha hb hc hd => ⟨⟨_, _, _, _, rfl⟩, fun z hz => by
    simp at hz
    rcases hz with rfl | rfl | rfl | rfl <;> assumption⟩
  rcases hc with hc | ⟨o, a, b, hc, _, ha, hb⟩
  · rw [hc] at hy
    have : y = [n, e, s, w] := by simpa [partsL] using hy
    rw [this]
    exact mk h0 h1 h2 h3
  · rw [hc] at hy
    by_cases ho : o = 124
    · have hy : y ∈ [[n, a, s, w], [n, e, s, b]] := by simpa [partsL, ho] using hy
      simp at hy
      rcases hy with rfl | rfl
      · exact mk h0 ha h2 h3
      · exact mk h0 h1 h2 hb
    · have hy : y ∈ [[n, e, a, w], [b, e, s, w]] := by simpa [partsL, ho] using hy
      simp at hy
      rcases hy with rfl | rfl
      · exact mk h0 h1 ha h3
      · exact mk hb h1 h2 h3
def all4 (fc : List Nat) : List (List Nat) := fc.flatMap fun a => fc.flatMap fun b => fc.flatMap fun c => fc.map fun d => [a, b, c, d]
theorem len_flat {α β : Type} {f : α → List β} {n : Nat} : ∀ {l : List α}, (∀ x ∈ l, (f x).length ≤ n) → (l.flatMap f).length ≤ l.length * n
  | [], _ => Nat.zero_le _
  | x :: l, h => by
    have := len_flat (l := l) fun y hy => h y (List.mem_cons_of_mem _ hy)
    have h1 := h x (List.mem_cons_self ..)
    rw [List.flatMap_cons, List.length_append, List.length_cons, Nat.succ_mul]
    omega
theorem all4_len {fc : List Nat} (h : fc.length ≤ 3) : (all4 fc).length ≤ 81 := by
  have h3 : ∀ a b c : Nat, (fc.map fun d => [a, b, c, d]).length ≤ 3 := fun a b c => by rw [List.length_map]; exact h
  have h2 : ∀ a b : Nat, (fc.flatMap fun c => fc.map fun d => [a, b, c, d]).length ≤ 9 := fun a b => Nat.le_trans (len_flat fun c _ => h3 a b c) (by omega)
  have h1 : ∀ a : Nat, (fc.flatMap fun b => fc.flatMap fun c => fc.map fun d => [a, b, c, d]).length ≤ 27 := fun a => Nat.le_trans (len_flat fun b _ => h2 a b) (by omega)
  exact Nat.le_trans (len_flat fun a _ => h1 a) (by omega)
theorem rooms_len {fc : List Nat} {L : List (List Nat)} (h : fc.length ≤ 3) (nd : L.Nodup) (rm : ∀ x ∈ L, rmOf x fc) : L.length ≤ 81 := by
  refine Nat.le_trans (nd.length_le_of_subset fun x hx => ?_) (all4_len h)
  obtain ⟨⟨a, b, c, d, rfl⟩, hm⟩ := rm x hx
  simp only [all4, List.mem_flatMap, List.mem_map]
  exact ⟨a, hm a (by simp), b, hm b (by simp), c, hm c (by simp), d, hm d (by simp), rfl⟩
structure Closed (sp : Spec) (r : List Nat) (L : List (List Nat)) : Prop where
  nd : L.Nodup
  mem : r ∈ L
  rm : ∀ x ∈ L, rmOf x sp.fc
  cl : ∀ x ∈ L, ∀ k ∈ sp.ct, ∀ y ∈ rp sp x k, y ∈ L
theorem Closed.perm {sp : Spec} {r : List Nat} {L M : List (List Nat)} (h : Closed sp r L) (p : M.Perm L) : Closed sp r M where
  nd := p.nodup_iff.mpr h.nd
  mem := p.mem_iff.mpr h.mem
  rm := fun x hx => h.rm x (p.mem_iff.mp hx)
  cl := fun x hx k hk y hy => p.mem_iff.mpr (h.cl x (p.mem_iff.mp hx) k hk y hy)
/-- half way: the first n are done -/
structure Half (sp : Spec) (r : List Nat) (L : List (List Nat)) (n : Nat) : Prop where
  nd : L.Nodup
  mem : r ∈ L
  rm : ∀ x ∈ L, rmOf x sp.fc
  le : n ≤ L.length
  cl : ∀ i < n, ∀ x, L[i]? = some x → ∀ k ∈ sp.ct, ∀ y ∈ rp sp x k, y ∈ L
theorem Half.closed {sp : Spec} {r : List Nat} {L : List (List Nat)} (h : Half sp r L L.length) : Closed sp r L where
  nd := h.nd
  mem := h.mem
  rm := h.rm
  cl := fun x hx k hk y hy => by
    obtain ⟨i, hi⟩ := List.getElem?_of_mem hx
    exact h.cl i (List.getElem?_eq_some_iff.mp hi).1 x hi k hk y hy
theorem Half.add {sp : Spec} {r : List Nat} {L : List (List Nat)} {n : Nat} (h : Half sp r L n) {y : List Nat} (hy : rmOf y sp.fc) (hn : y ∉ L) : Half sp r (L ++ [y]) n where
  nd := by
    rw [List.nodup_append]
    refine ⟨h.nd, by simp, fun a ha b hb => ?_⟩
    rw [List.mem_singleton] at hb
    rw [hb]
    exact fun e => hn (e ▸ ha)
  mem := List.mem_append_left _ h.mem
  rm := fun x hx => by
    rcases List.mem_append.mp hx with z | z
    · exact h.rm x z
    · rw [List.mem_singleton] at z
      rw [z]
      exact hy
  le := by
    rw [List.length_append]
    exact Nat.le_trans h.le (Nat.le_add_right _ _)
  cl := fun i hi x hx k hk z hz => by
    have hil : i < L.length := Nat.lt_of_lt_of_le hi h.le
    rw [List.getElem?_append_left hil] at hx
    exact List.mem_append_left _ (h.cl i hi x hx k hk z hz)
end FW
set_option maxRecDepth 100000
set_option maxHeartbeats 4000000
namespace FW
open PySem L2
open Evl (Ex Ex.refl Ex.trans Ex.new Ex.mut EvT)
section
variable {K : PySem.W.Frag} {σ : St} {H : Hp} {te : TE} {D : Ends} {tz tu : TS}
/-- a for whose walk's needs are found out on the way -/
theorem g_forX {wi : TI} {g : TG} {Good : Hp → Hp → List Dt → Prop} (hi : ∀ R : It → Hp → Prop, (∀ J H1 B xs, DWalk J B xs → Good B H1 xs → R J H1) → wi σ H R)
    (hp : ∀ B H1 xs, Good B H1 xs → ∃ Pv : Nat → St → Hp → Prop, Pv 0 σ H1 ∧ (∀ i σ' H', Pv i σ' H' → Ex B H') ∧
      (∀ (i : Nat) x v σ' H' H'', xs[i]? = some x → Pv i σ' H' → Ex H' H'' → Dq H'' v x → g v σ' H'' fun σ2 H2 => tu { D with nx := Pv (i + 1), ct := Pv (i + 1), bk := D.nx } σ2 H2) ∧ ∀ σ' H', Pv xs.length σ' H' → D.nx σ' H') :
    tFor wi g tu D σ H := hi _ fun J H1 B xs W gd => by
  obtain ⟨Pv, p0, pE, ps, pd⟩ := hp B H1 xs gd
  refine ⟨fun i m σ' H' => m = xs.length - i ∧ i ≤ xs.length ∧ Pv i σ' H', ⟨xs.length, by simp, Nat.zero_le _, p0⟩, ?_⟩
  rintro i m σ' H' ⟨rfl, hi', p⟩
  by_cases hlt : i < xs.length
  · refine .inr ⟨W.goes i H' hlt (pE _ _ _ p), Pv (i + 1), fun σ'' H'' p' => ⟨xs.length - (i + 1), by omega, rfl, hlt, p'⟩, fun v H'' y => ?_⟩
    obtain ⟨x, B', ex, e2, eB1, eB2, dx, _⟩ := W.yields i H' v H'' hlt (pE _ _ _ p) y
    exact ps i x v σ' H' H'' ex p e2 (dx.mono eB2)
  · have ei : i = xs.length := by omega
    subst ei
    exact .inl ⟨W.stops H' (pE _ _ _ p), pd σ' H' p⟩
/-- as the last statement, the walk known -/
theorem s_forB {wi : TI} {g : TG} {B : Hp} {xs : List Dt} (hi : WalkB wi σ H B xs) (Pv : Nat → St → Hp → Prop) (p0 : ∀ H1, Ex H H1 → Pv 0 σ H1) (pE : ∀ i σ' H', Pv i σ' H' → Ex B H')
    (ps : ∀ (i : Nat) x v σ' H' H'', xs[i]? = some x → Pv i σ' H' → Ex H' H'' → Dq H'' v x → g v σ' H'' fun σ2 H2 => tu { D with nx := Pv (i + 1), ct := Pv (i + 1), bk := D.nx } σ2 H2) (pd : ∀ σ' H', Pv xs.length σ' H' → D.nx σ' H') :
    tFor wi g tu D σ H := g_forB (tz := fun D => D.nx) hi Pv p0 pE ps pd
theorem g_augI {i : Nat} {a b : Int} {f : Int → Int → Int} {v : V} (hσ : σ[i]? = some (some v)) (dv : Dq H v (.int a)) (h : EvD te σ H (.int b)) (k : ∀ H1, Ex H H1 → tz D (σ.set i (some (.int (f a b)))) H1) : tSeq (tAug i te (ipI f)) tz D σ H := ⟨v, hσ, h H (Ex.refl H) _ fun w d H1 e1 ed dw => by
  subst ed
  cases dw
  cases dv
  exact ⟨a, b, rfl, rfl, k H1 e1⟩⟩
theorem ec_listD {sp0 : Sp} {E : XK} {ta : TA} {ds : List Dt} {Cs : List (List Nat) → Prop} (h : EvAD ta σ H ds)
    (hR : ∀ (vs : List V) (H1 : Hp) (Q : VK), Ex H H1 → DqA H1 vs ds → (∀ Fd kvs L H2, Ex H1 H2 → H2 Fd = some (.dK kvs) → keysL kvs L → Cs L → Q (.ref Fd) H2) → sp0 vs H1 Q E) :
    EvC (tCB rListD (tCons (tCall sp0 [] E ta) tNil)) σ H (fun d => ∃ L : List (List Nat), d = .lst (L.map Dt.str) ∧ Cs L) := fun H1 e Q hq => h H1 e _ fun vs H2 e2 kv => by
  rw [List.append_nil]
  refine hR vs H2 _ (e.trans e2) kv fun Fd kvs L H3 e3 hF hk hc => ⟨Fd, kvs, rfl, hF, fun p hp => hq _ (.lst (L.map Dt.str)) _ ((e2.trans e3).trans (Ex.new hp)) ⟨L, rfl, hc⟩ (.lst upd_same ?_)⟩
  have : (kvs.map fun kv => kV kv.1) = L.map fun l => V.str (S l) := by
    have z := congrArg (List.map kV) hk
    rw [List.map_map, List.map_map] at z
    exact z
  rw [this]
  have z := dqa_strs (H := upd H3 p (.lst (L.map fun l => V.str (S l)))) L
  rw [List.map_map] at z
  exact z
theorem ec_sortedA' {ta : TE} {Cs : List (List Nat) → Prop} (ha : EvC ta σ H (fun d => ∃ L : List (List Nat), d = .lst (L.map Dt.str) ∧ Cs L)) : EvC (tCB (rSortedSA K) (tCons ta tNil)) σ H (fun d => ∃ ms L : List (List Nat), d = .lst (ms.map Dt.str) ∧ ms.Perm L ∧ Cs L) := ec_cb (ea_cons ha ea_nil) fun vs ds H1 _ cs k Q q => by
  cases cs with
  | cons c cs =>
    cases cs
    obtain ⟨L, rfl, hc⟩ := c
    obtain ⟨x, rfl, hx⟩ := dqa1 k
    obtain ⟨p, xs, rfl, h1, k1⟩ := dq_lst hx
    rw [strs_of k1] at h1
    refine ⟨p, L.map S, rfl, sqL_of h1, fun ys r hp _ hr => ?_⟩
    have e : ys = (ys.map fun z => z.cps.toList).map S := by
      rw [List.map_map]
      have : (S ∘ fun z : Str => z.cps.toList) = id := by
        funext z
        rfl
      rw [this, List.map_id]
    have hp2 : (ys.map fun z => z.cps.toList).Perm L := by
      have z := hp.map fun z : Str => z.cps.toList
      rw [List.map_map] at z
      have : (L.map ((fun z : Str => z.cps.toList) ∘ S)) = L := List.map_id _
      rw [this] at z
      exact z
    refine q _ _ _ (Ex.new hr) ⟨_, L, rfl, hp2, hc⟩ (.lst upd_same ?_)
    have z := dqa_strs (H := upd H1 r (.lst (ys.map V.str))) (ys.map fun z => z.cps.toList)
    rw [← e] at z
    exact z
theorem dqa_of_strs {H : Hp} (L : List (List Nat)) : DqA H (L.map fun l => V.str (S l)) (L.map Dt.str) := by
  have z := dqa_strs (H := H) L
  rw [List.map_map] at z
  exact z
end
section
variable {P : Program} {w : World} {K : PySem.W.Frag} {mg : Str → Option Value} {base : Heap} {Cb : Addr}
abbrev st_check_room : Stmt := top 28
theorem sc_check_room : FnScope ["book", "room"] ["book", "room"] (defScope st_check_room) := ⟨rfl, rfl, rfl, by decide +kernel, rfl, by decide +kernel, by decide +kernel⟩
def R_ck (Cb : Addr) (H : Hp) (ds : List Dt) (C : Dt → Prop) : Prop := ∃ a sp r, ds = [.obj a, .str r] ∧ BkAt Cb a sp H ∧ rmOf r sp.fc ∧ C = fun e => e = .non
theorem c_check_room (T : Txt mg) (B : BkCls K Cb) (F : DefAt K mg "check_room" st_check_room) (C_is_room : Cal P w K mg base CX0 2 "is_room" ["value", "faces"] (spR R_is_room)) : Cal P w K mg base CX0 3 "check_room" ["book", "room"] (spR (R_ck Cb)) := by
  refine cal_of sc_check_room F (fun _ _ _ ⟨_, _, _, e, _⟩ => by rw [e]; rfl) (fun _ _ _ _ _ _ us hl => match us, hl with | [_, _], _ => rfl) fun f cdv A outer s H hr E => ?_
  refine ⟨_, (pss_one (ps_if (pt_not (pt_val (pe_cal C_is_room hr pass0 (pa_cons (pv 1) (pa_cons (pe_fld (pv 0) rfl) pa_nil))))) (pss_one ps_never) pss_nil)), ?_⟩
  rintro ds C vs hd ⟨a, sp, r, rfl, hb, hrm, rfl⟩ D kr kn
  obtain ⟨x, y, rfl, hx, hy⟩ := dqa2 hd
  exact s_ifD (b := false) (EvB.to (et_not (et_T (ed_call (a2 (xv hy) (ed_faces B hb (xv hx))) fun H1 e => ⟨_, _, rfl, trivial, hrm.okL, rfl⟩))) (by rw [hrm.is] <;> rfl)) (fun q => by cases q) fun _ H1 e1 => kn _ H1 e1 rfl
abbrev st_turns_of : Stmt := top 29
theorem sc_turns_of : FnScope ["book", "rooms", "room", "cutter"] ["book", "rooms"] (defScope st_turns_of) := ⟨rfl, rfl, rfl, by decide +kernel, rfl, by decide +kernel, by decide +kernel⟩
def turnsK (sp : Spec) (r : List Nat) : List Nat := sp.ct.filter fun k => !decide (cutAt sp.ls r k = [])
def turnD (r : List Nat) (k : Nat) : Dt := .tup [.str r, .str [k]]
def turnsL (sp : Spec) (L : List (List Nat)) : List Dt := L.flatMap fun r => (turnsK sp r).map (turnD r)
def R_turns (Cb : Addr) (H : Hp) (ds : List Dt) (C : Dt → Prop) : Prop := ∃ a sp L, ds = [.obj a, .lst (L.map Dt.str)] ∧ BkAt Cb a sp H ∧ SpecOk sp ∧ (∀ r ∈ L, rmOf r sp.fc) ∧ L.length ≤ 81 ∧ C = fun e => e = .lst (turnsL sp L)
theorem c_turns_of (T : Txt mg) (B : BkCls K Cb) (F : DefAt K mg "turns_of" st_turns_of) (M_cut : Mal P w K mg base CX0 4 Cb "cut" P_bk (spR (R_bk Cb gCut))) : Cal P w K mg base CX0 5 "turns_of" ["book", "rooms"] (spR (R_turns Cb)) := by
  refine cal_of sc_turns_of F (fun _ _ _ ⟨_, _, _, e, _⟩ => by rw [e]; rfl) (fun _ _ _ _ _ _ us hl => match us, hl with | [_, _], _ => rfl) fun f cdv A outer s H hr E => ?_
  refine ⟨_, (pss_one (ps_ret (pe_lc2 (own := [("room", 2), ("cutter", 3)]) (g := gName 2) (wi1 := iStr (tFld K (tVar 0) "cutters")) (g1 := gName 3) (vs1 := [3]) rfl sc_turns_of.nd (pi_list (pv 1)) (blkOk_by (own := [("room", 2), ("cutter", 3)]) (N := ["book", "rooms", "room", "cutter"]) (sc := defScope st_turns_of) (by decide +kernel)) (by decide) (fun _ _ _ _ _ => (pg_name (i := 2) sc_turns_of.nd rfl (Or.inl rfl))) (fun _ _ _ _ _ => pts_nil) (fun _ _ _ _ _ => (pi_str (pe_fld (pv 0) rfl))) (fun _ _ _ _ _ => (pg_name (i := 3) sc_turns_of.nd rfl (Or.inl rfl))) (fun _ _ _ _ _ => pts_one (pt_hide (pt_cmpR op_ne (pe_mcal B.cls M_cut hr pass0 (pv 0) (pa_cons (pv 2) (pa_cons (pv 3) pa_nil))) pe_str (nomark _)))) (fun _ _ _ _ _ => pe_hide (pe_tup (pa_cons (pv 2) (pa_cons (pv 3) pa_nil))))))), ?_⟩
  rintro ds C vs hd ⟨a, sp, L, rfl, hb, ok, hrm, hl, rfl⟩ D kr kn
  obtain ⟨x, y, rfl, hx, hy⟩ := dqa2 hd
  have l3 := ok.c3
  have hm : L.length * sp.ct.length ≤ 81 * 3 := Nat.mul_le_mul hl l3
  refine rtD (EvD.to (ed_lc2 (l := sp.ct) (xs := L.map Dt.str) (fun d k => match d with | .str r => !decide (cutAt sp.ls r k = []) | _ => false) (fun d k => match d with | .str r => turnD r k | _ => .non) (ei_listD (xv hy)) (by rw [List.length_map]; omega) (fun _ => rfl) (fun _ _ => rfl) (fun v B0 e => ed_cutters B (hb.mono e) (xv (hx.mono e))) fun i z v B0 ez eB dz c hc w dw => ?_) ?_) (Ex.refl H) kr
  · obtain ⟨r, hr2, rfl⟩ := map_at ez
    have hr3 := hrm r (List.mem_of_getElem? hr2)
    refine ⟨EvB.to (et_B (xn (a := .str (cutAt sp.ls r c)) (ed_mb (hb.mono eB) (by decide) (xv (hx.mono eB)) (a2 (xv dz) (xv dw)) fun H1 e => ⟨a, sp, r, c, rfl, (hb.mono eB).mono e, ok.bok, hr3, hc, rfl⟩) ed_str)) rfl, fun _ => xT (a2 (xv dz) (xv dw))⟩
  · rw [List.flatMap_map]
    rfl
def spOrig (Cb : Addr) : Sp := fun vs H Q _ => ∃ a sp r, DqA H vs [.obj a, .str r] ∧ BkAt Cb a sp H ∧ SpecOk sp ∧ rmOf r sp.fc ∧ ∀ Fd kvs L H2, Ex H H2 → H2 Fd = some (.dK kvs) → keysL kvs L → Closed sp r L → Q (.ref Fd) H2
structure OHp (La Fd : Addr) (H : Hp) (sp : Spec) (r : List Nat) (n : Nat) (L : List (List Nat)) (kvs : List (L2.Key × V)) (H' : Hp) : Prop where
  ex : Ex H H'
  la : H' La = some (.lst (L.map fun l => V.str (S l)))
  fd : H' Fd = some (.dK kvs)
  ks : keysL kvs L
  hf : Half sp r L n
theorem OHp.mono {La Fd : Addr} {H : Hp} {sp : Spec} {r : List Nat} {n : Nat} {L : List (List Nat)} {kvs : List (L2.Key × V)} {H' H'' : Hp} (h : OHp La Fd H sp r n L kvs H') (e : Ex H' H'') : OHp La Fd H sp r n L kvs H'' :=
  ⟨h.ex.trans e, e _ _ h.la, e _ _ h.fd, h.ks, h.hf⟩
theorem OHp.klen {La Fd : Addr} {H : Hp} {sp : Spec} {r : List Nat} {n : Nat} {L : List (List Nat)} {kvs : List (L2.Key × V)} {H' : Hp} (h : OHp La Fd H sp r n L kvs H') (l3 : sp.fc.length ≤ 3) : kvs.length ≤ 81 ∧ L.length ≤ 81 := by
  have h1 := rooms_len l3 h.hf.nd h.hf.rm
  have h2 := congrArg List.length h.ks
  rw [List.length_map, List.length_map] at h2
  omega
def OSt (La Fd : Addr) (x y : V) (H : Hp) (sp : Spec) (r : List Nat) (n : Nat) (σ' : St) (H' : Hp) : Prop := ∃ L kvs p5 p6 p7 p8, σ' = [some x, some y, some (.ref Fd), some (.ref La), some (.int (n : Int)), p5, p6, p7, p8] ∧ OHp La Fd H sp r n L kvs H'
abbrev st_origins : Stmt := top 30
theorem sc_origins : FnScope ["book", "start", "found", "line", "done", "room", "cutter", "at", "part"] ["book", "start"] (defScope st_origins) := ⟨rfl, rfl, rfl, by decide +kernel, rfl, by decide +kernel, by decide +kernel⟩
theorem c_origins (T : Txt mg) (B : BkCls K Cb) (F : DefAt K mg "origins" st_origins) (M_parts : Mal P w K mg base CX0 5 Cb "parts" P_bk (spR (R_bk Cb gParts))) : Cal P w K mg base CX0 6 "origins" ["book", "start"] (spOrig Cb) := by
  refine cal_ofS sc_origins F (fun vs H Q E ⟨_, _, _, e, _⟩ => by rw [e.len]; rfl) (fun _ _ _ _ _ _ us hl => match us, hl with | [_, _], _ => rfl) fun f cdv A outer s H hr E => ?_
  refine ⟨_, (pss_cons (ps_par3 (i := 2) (j := 3) (l := 4) rfl sc_origins.nd rfl rfl rfl (by decide) (by decide) (by decide) rfl rfl rfl (pa_cons (pe_disp (pps_cons (pv 1) pe_non pps_nil) rfl rfl (by decide) (by decide)) (pa_cons (pe_lst (pa_cons (pv 1) pa_nil)) (pa_cons pe_int pa_nil))) (by rfl))
      (pss_cons (ps_while PassesOwn.never (pt_cmpR op_lt (pv 4) (pe_len T (pv 3)) (nomark _)) (pss_cons (ps_set (i := 5) sc_origins.nd rfl (Or.inl rfl) (pe_ix ix_U (pv 3) (pv 4) (fun _ _ => rfl)))
        (pss_cons (ps_aug (i := 4) sc_origins.nd rfl (Or.inl rfl) pe_int ip_add)
        (pss_one (ps_for PassesOwn.never rfl (pi_str (pe_fld (pv 0) rfl)) (pg_name (i := 6) sc_origins.nd rfl (Or.inl rfl)) (pss_one (ps_for PassesOwn.never rfl (pi_enum rfl T.enumerate (pa_cons (pe_hide (pe_mcal B.cls M_parts hr pass0 (pv 0) (pa_cons (pv 5) (pa_cons (pv 6) pa_nil)))) pa_nil)) (pg_tup rfl (pgs_cons (pg_name (i := 7) sc_origins.nd rfl (Or.inl rfl)) (pgs_cons (pg_name (i := 8) sc_origins.nd rfl (Or.inl rfl)) pgs_nil))) (pss_one (ps_if (pt_cmp (pc_dnotin (FW.Room.hu1 hr) (pv 8) (pv 2))) (pss_cons (ps_dput (FW.Room.hu1 hr) (pv 2) (pv 8) (pe_tup (pa_cons (pv 5) (pa_cons (pv 6) (pa_cons (pv 7) pa_nil)))) rfl)
              (pss_one (ps_expr (pe_bm PySem.F.plainAttrs_list PySem.F.slot_list_append PySem.F.type_list_append mt_append (pv 3) (pa_cons (pv 8) pa_nil))))) pss_nil)))))))))
      (pss_one (ps_ret (pv 2))))), ?_⟩
  rintro vs Q ⟨a, sp, r, hd, hb, ok, hrm, q⟩
  obtain ⟨x, y, rfl, hx, hy⟩ := dqa2 hd
  have l3 := ok.f3
  cases hy
  intro Fd hFd
  refine ⟨_, rfl, upd_same, [(kS r, .non)], rfl, by simp, ?_⟩
  refine ⟨_, rfl, by show 1 ≤ sizeLine; decide, fun La hLa0 => ⟨_, _, _, rfl, ?_⟩⟩
  have hLF : La ≠ Fd := fun z => by
    rw [z, upd_same] at hLa0
    cases hLa0
  have hLa : H La = none := by
    rw [upd_ne hLF, upd_ne hLF] at hLa0
    exact hLa0
  refine ⟨fun m σ' H' => ∃ n, m = 82 - n ∧ OSt La Fd x (.str (S r)) H sp r n σ' H', ⟨82, 0, rfl, [r], [(kS r, .non)], none, none, none, none, rfl, ⟨ex_put hLa (ex_put hFd (ex_put hFd (Ex.refl H))), upd_same, by rw [upd_ne (Ne.symm hLF), upd_same] <;> rfl, rfl, ⟨by simp, by simp, fun z hz => by
    rw [List.mem_singleton] at hz
    rw [hz]
    exact hrm, Nat.zero_le _, fun i hi => absurd hi (Nat.not_lt_zero _)⟩⟩⟩, ?_⟩
  rintro m σ' H' ⟨n, rfl, L, kvs, p5, p6, p7, p8, rfl, oh⟩
  obtain ⟨_, ll⟩ := oh.klen l3
  have dL : ∀ {H'' : Hp}, Ex H' H'' → Dq H'' (.ref La) (.lst (L.map Dt.str)) := fun e => .lst (e _ _ oh.la) (dqa_of_strs L)
  refine (et_B (ed_b0 (xv (.int _)) (xl (xv (dL (Ex.refl _))) rfl (by show List.length _ ≤ 100000; rw [List.length_map]; omega)))) H' (Ex.refl _) _ fun b H1 e1 hb2 => ?_
  rw [List.length_map] at hb2
  cases b with
  | false =>
    have hn : n = L.length := by
      have h1 := of_decide_eq_false hb2.symm
      have h2 := oh.hf.le
      omega
    subst hn
    exact ⟨_, rfl, q Fd kvs L H1 (oh.ex.trans e1) (e1 _ _ oh.fd) oh.ks oh.hf.closed⟩
  | true =>
    have hn : n < L.length := by
      have h1 := of_decide_eq_true hb2.symm
      omega
    have oh := oh.mono e1
    obtain ⟨rm, hrm2⟩ : ∃ z, L[n]? = some z := ⟨L[n], by simp [hn]⟩
    have rmo := oh.hf.rm rm (List.mem_of_getElem? hrm2)
    refine ⟨OSt La Fd x (.str (S r)) H sp r (n + 1), fun σ' H' h => ⟨82 - (n + 1), by omega, n + 1, rfl, h⟩, ?_⟩
    refine g_asgD (d := .str rm) (ed_ix (xv (dL e1)) (xv (.int _)) (atI_nat (by rw [List.getElem?_map, hrm2] <;> rfl)) (by show List.length _ ≤ 100000; rw [List.length_map]; omega)) fun v5 H2 e2 d5 => ?_
    cases d5
    have oh := oh.mono e2
    refine g_augI (a := (n : Int)) (b := 1) (v := .int (n : Int)) rfl (.int _) ed_int fun H3 e3 => ?_
    have oh := oh.mono e3
    have hx3 := hx.mono oh.ex
    refine s_forB (B := H) (wb_str (ed_cutters B (hb.mono oh.ex) (xv hx3))) (fun j σ' H' => ∃ L kvs p6 p7 p8, σ' = [some x, some (.str (S r)), some (.ref Fd), some (.ref La), some (.int ((n : Int) + 1)), some (.str (S rm)), p6, p7, p8] ∧ OHp La Fd H sp r n L kvs H' ∧ L[n]? = some rm ∧ ∀ k ∈ sp.ct.take j, ∀ y ∈ rp sp rm k, y ∈ L) (fun H4 e4 => ⟨L, kvs, p6, p7, p8, rfl, oh.mono e4, hrm2, fun k hk => by simp at hk⟩) (fun j σ' H' ⟨_, _, _, _, _, _, o, _⟩ => o.ex) ?_ ?_
    · rintro j z vc σ' H4 H5 ez ⟨L, kvs, p6, p7, p8, rfl, oh, hrm3, hdone⟩ e5 dz
      have oh := oh.mono e5
      obtain ⟨k, hk, rfl⟩ := map_at ez
      cases dz
      have hkc := List.mem_of_getElem? hk
      have eb : Ex H (hid H5 La) := hid_ex hLa oh.ex
      refine g_forX (Good := fun B H6 xs => xs = enumD ((rp sp rm k).map Dt.str) ∧ B La = none ∧ B Fd = none ∧ Ex B H6 ∧ Ex H5 H6) (fun R hR => ?_) ?_
      · refine ⟨La, _, oh.la, ?_⟩
        refine (ed_mb (C := fun d => d = gParts sp rm k) (hb.mono eb) (by decide) (xv (hx.mono eb)) (a2 (xv (.str _)) (xv (.str _))) fun H1 e => ⟨a, sp, rm, k, rfl, (hb.mono eb).mono e, ok.bok, rmo, hkc, rfl⟩) (hid H5 La) (Ex.refl _) _ fun v d H6 e6 ed dv hn6 => ?_
        subst ed
        obtain ⟨p, ws, rfl, hp, kp⟩ := dq_lst dv
        have hpL : p ≠ La := fun z => by
          rw [z, hn6] at hp
          cases hp
        have hF6 : H6 Fd = some (.dK kvs) := e6 _ _ (by rw [hid_ne (Ne.symm hLF)]; exact oh.fd)
        have hpF : p ≠ Fd := fun z => by
          rw [z, hF6] at hp
          cases hp
        refine ⟨p, ws, rfl, sqL_of (by rw [upd_ne hpL]; exact hp), hR _ _ (hid H6 Fd) _ (dw_enum (by rw [hid_ne hpF]; exact hp) (kp.hid (fun xs z => ?_) (fun xs z => ?_))) ⟨rfl, ?_, hid_same, ?_, ?_⟩⟩
        · rw [hF6] at z
          cases z
        · rw [hF6] at z
          cases z
        · rw [hid_ne hLF]
          exact hn6
        · exact hid_sub.trans (ex_put hn6 (Ex.refl _))
        · intro b o z
          by_cases hbl : b = La
          · rw [hbl, upd_same, ← oh.la, ← hbl]
            exact z
          · rw [upd_ne hbl]
            exact e6 b o (by rw [hid_ne hbl]; exact z)
      · rintro B6 H6 xs ⟨rfl, bL, bF, eB6, e56⟩
        refine ⟨fun i σ' H' => Ex B6 H' ∧ ∃ L kvs p7 p8, σ' = [some x, some (.str (S r)), some (.ref Fd), some (.ref La), some (.int ((n : Int) + 1)), some (.str (S rm)), some (.str (S [k])), p7, p8] ∧ OHp La Fd H sp r n L kvs H' ∧ L[n]? = some rm ∧ (∀ k ∈ sp.ct.take j, ∀ y ∈ rp sp rm k, y ∈ L) ∧ ∀ y ∈ (rp sp rm k).take i, y ∈ L, ⟨eB6, L, kvs, p7, p8, rfl, oh.mono e56, hrm3, hdone, fun y hy => by simp at hy⟩, fun i σ' H' h => h.1, ?_, ?_⟩
        · rintro i z vi σ' H7 H8 ez ⟨eB7, L, kvs, p7, p8, rfl, oh, hrm4, hdone, hpart⟩ e8 dz
          have oh := oh.mono e8
          have eB8 := eB7.trans e8
          obtain ⟨_, ll⟩ := oh.klen l3
          have kl := (oh.klen l3).1
          obtain ⟨y', ey, rfl⟩ := enumD_get ez
          obtain ⟨yp, hyp, rfl⟩ := map_at ey
          obtain ⟨t, ws, rfl, ht, kt⟩ := dq_tup dz
          obtain ⟨v1, v2, rfl, dv1, dv2⟩ := dqa2 kt
          cases dv1
          cases dv2
          refine ⟨t, [.int (i : Int), .str (S yp)], rfl, sqT_of ht, rfl, _, _, rfl, _, _, rfl, rfl, ?_⟩
          have tk : (rp sp rm k).take (i + 1) = (rp sp rm k).take i ++ [yp] := by
            rw [List.take_succ, hyp] <;> rfl
          refine s_ifD (b := !decide (yp ∈ L)) (EvB.to (et_B (ed_dnotin (xv (.str yp)) (vw_var rfl) oh.fd)) (by rw [keys_none oh.ks])) (fun hb H9 e9 => ?_) fun hb H9 e9 => ?_
          · have hny : yp ∉ L := by simpa using hb
            have oh := oh.mono e9
            refine g_dput (xT (a3 (xv (.str _)) (xv (.str _)) (xv (.int _)))) (vw_var rfl) (xv (.str yp)) oh.fd (by omega) fun v9 d9 H10 e10 c9 dv9 => ?_
            have oh := oh.mono e10
            refine s_append (C := fun d => d = .str yp) (vs := L.map fun l => V.str (S l)) (vv_var rfl) (by rw [upd_ne hLF]; exact oh.la) (by rw [List.length_map]; omega) (xv (.str yp)) fun v11 d11 H11 e11 c11 dv11 => ?_
            subst c11
            cases dv11
            refine ⟨ex_put bL ((ex_put bF ((eB8.trans e9).trans e10)).trans e11), L ++ [yp], putK kvs (kS yp) v9, _, _, rfl, ⟨ex_put hLa ((ex_put hFd oh.ex).trans e11), by rw [upd_same, List.map_append] <;> rfl, by rw [upd_ne (Ne.symm hLF)]; exact e11 _ _ upd_same, keys_put oh.ks hny, oh.hf.add (rp_rm ok rmo yp (List.mem_of_getElem? hyp)) hny⟩, ?_, fun k' hk' y hy => List.mem_append_left _ (hdone k' hk' y hy), fun y hy => ?_⟩
            · have hnl : n < L.length := (List.getElem?_eq_some_iff.mp hrm4).1
              rw [List.getElem?_append_left hnl]
              exact hrm4
            · rw [tk] at hy
              rcases List.mem_append.mp hy with z | z
              · exact List.mem_append_left _ (hpart y z)
              · exact List.mem_append_right _ z
          · have hny : yp ∈ L := by simpa using hb
            refine ⟨eB8.trans e9, L, kvs, _, _, rfl, oh.mono e9, hrm4, hdone, fun y hy => ?_⟩
            rw [tk] at hy
            rcases List.mem_append.mp hy with z | z
            · exact hpart y z
            · rw [List.mem_singleton] at z
              rw [z]
              exact hny
        · rintro σ' H7 ⟨_, L, kvs, p7, p8, rfl, oh, hrm4, hdone, hpart⟩
          rw [enumD_len, List.length_map, List.take_length] at hpart
          refine ⟨L, kvs, _, p7, p8, rfl, oh, hrm4, fun k' hk' y hy => ?_⟩
          have tk : sp.ct.take (j + 1) = sp.ct.take j ++ [k] := by
            rw [List.take_succ, hk] <;> rfl
          rw [tk] at hk'
          rcases List.mem_append.mp hk' with z | z
          · exact hdone k' z y hy
          · rw [List.mem_singleton] at z
            rw [z] at hy
            exact hpart y hy
    · rintro σ' H4 ⟨L, kvs, p6, p7, p8, rfl, oh, hrm3, hdone⟩
      rw [List.length_map, List.take_length] at hdone
      refine ⟨L, kvs, some (.str (S rm)), p6, p7, p8, by simp, ⟨oh.ex, oh.la, oh.fd, oh.ks, ⟨oh.hf.nd, oh.hf.mem, oh.hf.rm, (List.getElem?_eq_some_iff.mp hrm3).1, fun i hi z hz k hk y hy => ?_⟩⟩⟩
      rcases Nat.lt_succ_iff_lt_or_eq.mp hi with h | h
      · exact oh.hf.cl i h z hz k hk y hy
      · subst h
        rw [hrm3] at hz
        cases hz
        exact hdone k hk y hy
abbrev st_reached : Stmt := top 31
theorem sc_reached : FnScope ["book", "start"] ["book", "start"] (defScope st_reached) := ⟨rfl, rfl, rfl, by decide +kernel, rfl, by decide +kernel, by decide +kernel⟩
def R_reached (Cb : Addr) (H : Hp) (ds : List Dt) (C : Dt → Prop) : Prop := ∃ a sp r, ds = [.obj a, .str r] ∧ BkAt Cb a sp H ∧ SpecOk sp ∧ rmOf r sp.fc ∧ C = fun e => ∃ L, e = .lst (L.map Dt.str) ∧ Closed sp r L
theorem c_reached (T : Txt mg) (B : BkCls K Cb) (F : DefAt K mg "reached" st_reached) (C_check_room : Cal P w K mg base CX0 3 "check_room" ["book", "room"] (spR (R_ck Cb))) (C_origins : Cal P w K mg base CX0 6 "origins" ["book", "start"] (spOrig Cb)) : Cal P w K mg base CX0 7 "reached" ["book", "start"] (spR (R_reached Cb)) := by
  refine cal_of sc_reached F (fun _ _ _ ⟨_, _, _, e, _⟩ => by rw [e]; rfl) (fun _ _ _ _ _ _ us hl => match us, hl with | [_, _], _ => rfl) fun f cdv A outer s H hr E => ?_
  refine ⟨_, (pss_cons (ps_expr (pe_cal C_check_room hr pass0 (pa_cons (pv 0) (pa_cons (pv 1) pa_nil))))
      (pss_one (ps_ret (pe_sortedA T (pe_listDk T rfl (pe_cal C_origins hr pass0 (pa_cons (pv 0) (pa_cons (pv 1) pa_nil)))))))), ?_⟩
  rintro ds C vs hd ⟨a, sp, r, rfl, hb, ok, hrm, rfl⟩ D kr kn
  obtain ⟨x, y, rfl, hx, hy⟩ := dqa2 hd
  refine g_drop (C := fun d => d = .non) (ed_call (a2 (xv hx) (xv hy)) fun H1 e => ⟨a, sp, r, rfl, hb.mono e, hrm, rfl⟩) fun v d H1 e1 _ _ => ?_
  have hx := hx.mono e1
  have hy := hy.mono e1
  have hb := hb.mono e1
  refine rtC (EvC.imp (ec_sortedA' (Cs := fun L => Closed sp r L) ?_) fun d ⟨L, M, hd, hp, hc⟩ => ⟨L, hd, hc.perm hp⟩) e1 kr
  exact ec_listD (a2 (xv hx) (xv hy)) fun vs H3 Q e3 kv hq => ⟨a, sp, r, kv, hb.mono e3, ok, hrm, hq⟩
end
end FW
set_option maxRecDepth 100000
set_option maxHeartbeats 4000000
/-! # FM2: the tables of counts, in plain Lean -/
namespace FW
/-- one way of sharing the cuts left over -/
def term (g : Nat → Nat → Nat) (T : List Nat → List Nat) (a b : List Nat) (m j : Nat) : Nat := (T a).getD j 0 * (T b).getD (m - j) 0 * g m j
def sumTo (f : Nat → Nat) : Nat → Nat
  | 0 => 0
  | n + 1 => sumTo f n + f n
def part0 (sp : Spec) (r : List Nat) (k : Nat) : List Nat := (rp sp r k).getD 0 []
def part1 (sp : Spec) (r : List Nat) (k : Nat) : List Nat := (rp sp r k).getD 1 []
def inner (g : Nat → Nat → Nat) (sp : Spec) (T : List Nat → List Nat) (m : Nat) (r : List Nat) (k : Nat) : Nat := sumTo (term g T (part0 sp r k) (part1 sp r k) m) (m + 1)
def stepF (g : Nat → Nat → Nat) (sp : Spec) (T : List Nat → List Nat) (m : Nat) (r : List Nat) : Nat := ((turnsK sp r).map (inner g sp T m r)).sum
def Ft (g : Nat → Nat → Nat) (sp : Spec) : Nat → List Nat → List Nat
  | 0, _ => [1]
  | m + 1, r => Ft g sp m r ++ [stepF g sp (Ft g sp m) m r]
def Fv (g : Nat → Nat → Nat) (sp : Spec) (n : Nat) (r : List Nat) : Nat := (Ft g sp n r).getD n 0
theorem Ft_len (g : Nat → Nat → Nat) (sp : Spec) (r : List Nat) : ∀ m, (Ft g sp m r).length = m + 1
  | 0 => rfl
  | m + 1 => by
    show (Ft g sp m r ++ [_]).length = _
    rw [List.length_append, Ft_len g sp r m] <;> rfl
def Gb (g : Nat → Nat → Nat) : Prop := ∀ m j, m < 30 → j ≤ m → g m j ≤ 2 ^ 30
theorem sumTo_le {f : Nat → Nat} {b : Nat} : ∀ n, (∀ j < n, f j ≤ b) → sumTo f n ≤ n * b
  | 0, _ => Nat.zero_le _
  | n + 1, h => by
    have h1 := sumTo_le n fun j hj => h j (Nat.lt_succ_of_lt hj)
    have h2 := h n (Nat.lt_succ_self n)
    show sumTo f n + f n ≤ (n + 1) * b
    rw [Nat.succ_mul]
    omega
theorem sumTo_mono {f : Nat → Nat} {n m : Nat} (h : n ≤ m) : sumTo f n ≤ sumTo f m := by
  induction h with
  | refl => exact Nat.le_refl _
  | step _ ih => exact Nat.le_trans ih (Nat.le_add_right _ _)
theorem sum_le_mul {l : List Nat} {b : Nat} (h : ∀ x ∈ l, x ≤ b) : l.sum ≤ l.length * b := by
  induction l with
  | nil => simp
  | cons x l ih =>
    have h1 := ih fun y hy => h y (List.mem_cons_of_mem _ hy)
    have h2 := h x (List.mem_cons_self ..)
    rw [List.sum_cons, List.length_cons, Nat.succ_mul]
    omega
/-- no entry is large -/
def Small (T : List Nat → List Nat) (m : Nat) : Prop := ∀ r j, j ≤ m → (T r).getD j 0 ≤ 2 ^ (40 * j)
theorem term_le {g : Nat → Nat → Nat} {T : List Nat → List Nat} {m j : Nat} (hg : Gb g) (hT : Small T m) (hm : m < 30) (hj : j ≤ m) (a b : List Nat) : term g T a b m j ≤ 2 ^ (40 * m + 30) := by
  have h1 := hT a j hj
  have h2 := hT b (m - j) (Nat.sub_le _ _)
  have h3 := hg m j hm hj
  have h4 : (T a).getD j 0 * (T b).getD (m - j) 0 ≤ 2 ^ (40 * m) := by
    refine Nat.le_trans (Nat.mul_le_mul h1 h2) ?_
    rw [← Nat.pow_add]
    exact Nat.pow_le_pow_right (by decide) (by omega)
  unfold term
  refine Nat.le_trans (Nat.mul_le_mul h4 h3) ?_
  rw [← Nat.pow_add]
  exact Nat.le_refl _
theorem prod_le {T : List Nat → List Nat} {m j : Nat} (hT : Small T m) (hj : j ≤ m) (a b : List Nat) : (T a).getD j 0 * (T b).getD (m - j) 0 ≤ 2 ^ (40 * m) := by
  refine Nat.le_trans (Nat.mul_le_mul (hT a j hj) (hT b (m - j) (Nat.sub_le _ _))) ?_
  rw [← Nat.pow_add]
  exact Nat.pow_le_pow_right (by decide) (by omega)
theorem inner_le {g : Nat → Nat → Nat} {T : List Nat → List Nat} {sp : Spec} {m : Nat} (hg : Gb g) (hT : Small T m) (hm : m < 30) (r : List Nat) (k : Nat) : inner g sp T m r k ≤ 2 ^ (40 * m + 35) := by
  refine Nat.le_trans (sumTo_le (m + 1) fun j hj => term_le hg hT hm (Nat.le_of_lt_succ hj) _ _) ?_
  have : m + 1 ≤ 2 ^ 5 := by
    have : (2 : Nat) ^ 5 = 32 := by decide
    omega
  refine Nat.le_trans (Nat.mul_le_mul_right _ this) ?_
  rw [← Nat.pow_add]
  exact Nat.pow_le_pow_right (by decide) (by omega)
theorem step_le {g : Nat → Nat → Nat} {T : List Nat → List Nat} {sp : Spec} {m : Nat} (hg : Gb g) (hT : Small T m) (hm : m < 30) (ok : sp.ct.length ≤ 3) (r : List Nat) : stepF g sp T m r ≤ 2 ^ (40 * (m + 1)) := by
  have h1 : stepF g sp T m r ≤ ((turnsK sp r).map (inner g sp T m r)).length * 2 ^ (40 * m + 35) := sum_le_mul fun x hx => by
    obtain ⟨k, _, rfl⟩ := List.mem_map.mp hx
    exact inner_le hg hT hm r k
  have h2 : (turnsK sp r).length ≤ sp.ct.length := List.length_filter_le _ _
  rw [List.length_map] at h1
  have : (turnsK sp r).length ≤ 2 ^ 2 := by
    have : (2 : Nat) ^ 2 = 4 := by decide
    omega
  refine Nat.le_trans h1 (Nat.le_trans (Nat.mul_le_mul_right _ this) ?_)
  rw [← Nat.pow_add]
  exact Nat.pow_le_pow_right (by decide) (by omega)
theorem Ft_small {g : Nat → Nat → Nat} {sp : Spec} (hg : Gb g) (ok : sp.ct.length ≤ 3) : ∀ m, m ≤ 30 → Small (Ft g sp m) m
  | 0, _, r, j, hj => by
    have : j = 0 := by omega
    subst this
    exact Nat.le_refl 1
  | m + 1, hm, r, j, hj => by
    have ih := Ft_small (sp := sp) hg ok m (by omega)
    show ((Ft g sp m r ++ [stepF g sp (Ft g sp m) m r]).getD j 0) ≤ _
    by_cases h : j ≤ m
    · have hl : j < (Ft g sp m r).length := by
        rw [Ft_len]
        omega
      have e : (Ft g sp m r ++ [stepF g sp (Ft g sp m) m r]).getD j 0 = (Ft g sp m r).getD j 0 := by
        rw [List.getD_eq_getElem?_getD, List.getD_eq_getElem?_getD, List.getElem?_append_left hl]
      rw [e]
      exact ih r j h
    · have : j = m + 1 := by omega
      subst this
      have hl : (Ft g sp m r).length ≤ m + 1 := by
        rw [Ft_len]
        exact Nat.le_refl _
      have e : (Ft g sp m r ++ [stepF g sp (Ft g sp m) m r]).getD (m + 1) 0 = stepF g sp (Ft g sp m) m r := by
        rw [List.getD_eq_getElem?_getD, List.getElem?_append_right hl, Ft_len]
        simp
      rw [e]
      exact step_le hg ih (by omega) ok r
/-! ### the turns of all rooms -/
def turnP (sp : Spec) (L : List (List Nat)) : List (List Nat × Nat) := L.flatMap fun r => (turnsK sp r).map fun k => (r, k)
def accT (f : List Nat → Nat → Nat) (ts : List (List Nat × Nat)) (r : List Nat) : Nat := ((ts.filter fun t => decide (t.1 = r)).map fun t => f t.1 t.2).sum
theorem accT_snoc (f : List Nat → Nat → Nat) (ts : List (List Nat × Nat)) (t : List Nat × Nat) (r : List Nat) : accT f (ts ++ [t]) r = accT f ts r + if t.1 = r then f t.1 t.2 else 0 := by
  unfold accT
  rw [List.filter_append, List.map_append, List.sum_append]
  by_cases h : t.1 = r
  · simp [h, List.filter_cons]
  · simp [h, List.filter_cons]
theorem accT_app (f : List Nat → Nat → Nat) (ts us : List (List Nat × Nat)) (r : List Nat) : accT f (ts ++ us) r = accT f ts r + accT f us r := by
  unfold accT
  rw [List.filter_append, List.map_append, List.sum_append]
theorem accT_row (f : List Nat → Nat → Nat) (x r : List Nat) (ks : List Nat) : accT f (ks.map fun k => (x, k)) r = if x = r then (ks.map (f x)).sum else 0 := by
  unfold accT
  by_cases h : x = r
  · rw [if_pos h, List.filter_eq_self.mpr (fun t ht => by
      obtain ⟨k, _, rfl⟩ := List.mem_map.mp ht
      simp [h]), List.map_map]
    rfl
  · rw [if_neg h, List.filter_eq_nil_iff.mpr (fun t ht => by
      obtain ⟨k, _, rfl⟩ := List.mem_map.mp ht
      simp [h])]
    rfl
theorem accT_none (f : List Nat → Nat → Nat) (sp : Spec) (r : List Nat) : ∀ L : List (List Nat), r ∉ L → accT f (turnP sp L) r = 0
  | [], _ => rfl
  | x :: L, h => by
    show accT f ((turnsK sp x).map (fun k => (x, k)) ++ turnP sp L) r = 0
    have hx : ¬ x = r := fun e => h (by rw [e]; exact List.mem_cons_self ..)
    rw [accT_app, accT_row, if_neg hx, accT_none f sp r L (fun m => h (List.mem_cons_of_mem _ m))]
theorem accT_all (f : List Nat → Nat → Nat) (sp : Spec) (r : List Nat) : ∀ L : List (List Nat), L.Nodup → r ∈ L → accT f (turnP sp L) r = ((turnsK sp r).map (f r)).sum
  | [], _, h => by cases h
  | x :: L, nd, h => by
    obtain ⟨h1, h2⟩ := List.nodup_cons.mp nd
    show accT f ((turnsK sp x).map (fun k => (x, k)) ++ turnP sp L) r = _
    rw [accT_app, accT_row]
    by_cases e : x = r
    · subst e
      rw [if_pos rfl, accT_none f sp x L h1, Nat.add_zero]
    · rw [if_neg e, Nat.zero_add]
      rcases List.mem_cons.mp h with z | z
      · exact absurd z.symm e
      · exact accT_all f sp r L h2 z
/-- a part of all is no more than all -/
theorem accT_le (f : List Nat → Nat → Nat) (ts us : List (List Nat × Nat)) (r : List Nat) : accT f ts r ≤ accT f (ts ++ us) r := by
  rw [accT_app]
  exact Nat.le_add_right _ _
end FW
set_option maxRecDepth 100000
set_option maxHeartbeats 4000000
/-! # FR8: dict comprehensions over texts; d[k] += e; math.comb -/
namespace FW
open PySem L2
open Evl (Ex Ex.refl Ex.trans Ex.new Ex.mut EvT)
section
variable {K : PySem.W.Frag} {σ : St} {H : Hp} {td ty tv : TE} {D : Ends} {tz : TS}
theorem keys_len {kvs : List (L2.Key × V)} {L : List (List Nat)} (h : keysL kvs L) : kvs.length = L.length := by
  have z := congrArg List.length h
  rwa [List.length_map, List.length_map] at z
theorem g_dc {wi : TI} {vs : List Nat} {i j : Nat} {L : List (List Nat)} {B : Hp} (hi : WalkB wi σ H B (L.map Dt.str)) (nd : L.Nodup) (hl : L.length ≤ 1000) (hw : ∀ v, wipe ((wipe σ vs).set j (some v)) vs = wipe σ vs) (hj : ∀ v, ((wipe σ vs).set j (some v))[j]? = some (some v))
    (T : Addr → List (List Nat) → List (L2.Key × V) → Hp → Prop) (t0 : ∀ D' H1, Ex H H1 → H1 D' = none → T D' [] [] (upd H1 D' (.dK []))) (tE : ∀ D' M kvs H', T D' M kvs H' → Ex B H' ∧ H' D' = some (.dK kvs)) (tM : ∀ D' M kvs H' H'', T D' M kvs H' → Ex H' H'' → T D' M kvs H'')
    (tS : ∀ D' M kvs r H' (Qv : VK), T D' M kvs H' → r ∉ M → keysL kvs M → (∀ z H5, H5 D' = some (.dK kvs) → T D' (M ++ [r]) (kvs ++ [(kS r, z)]) (upd H5 D' (.dK (kvs ++ [(kS r, z)]))) → Qv z H5) → tv ((wipe σ vs).set j (some (.str (S r)))) H' Qv)
    (q : ∀ D' kvs H', T D' L kvs H' → keysL kvs L → tz D (σ.set i (some (.ref D'))) H') : tSeq (tAsg (tDc wi (gName j) tYes (tVar j) tv vs) (gName i)) tz D σ H := hi _ fun J H1 e1 W D' hD' => by
  refine ⟨fun i m H' => m = L.length - i ∧ i ≤ L.length ∧ ∃ kvs, keysL kvs (L.take i) ∧ T D' (L.take i) kvs H', ⟨L.length, by simp, Nat.zero_le _, [], rfl, t0 D' H1 e1 hD'⟩, ?_⟩
  rintro n m H' ⟨rfl, hn, kvs, hk, ht⟩
  obtain ⟨eB, hD⟩ := tE _ _ _ _ ht
  by_cases hlt : n < L.length
  · refine .inr ⟨W.goes n H' (by rw [List.length_map]; exact hlt) eB, fun H' => ∃ kvs, keysL kvs (L.take (n + 1)) ∧ T D' (L.take (n + 1)) kvs H', fun H'' p => ⟨L.length - (n + 1), by omega, rfl, hlt, p⟩, fun v H'' y => ?_⟩
    obtain ⟨x, B', ex, e2, eB1, eB2, dx, _⟩ := W.yields n H' v H'' (by rw [List.length_map]; exact hlt) eB y
    obtain ⟨r, er, rfl⟩ := map_at ex
    cases dx
    have tk : L.take (n + 1) = L.take n ++ [r] := by
      rw [List.take_succ, er] <;> rfl
    have hr : r ∉ L.take n := fun hm => by
      have hnd : (L.take n ++ [r]).Nodup := by
        rw [← tk]
        exact nd.sublist (List.take_sublist _ _)
      rw [List.nodup_append] at hnd
      exact hnd.2.2 r hm r (by simp) rfl
    have kn : valV kvs (kS r) = none := by
      have y := keys_none (l := r) hk
      rw [decide_eq_false hr] at y
      simpa using y
    refine ⟨hw _, ?_⟩
    refine ⟨_, hj _, ?_⟩
    refine tS D' _ _ r H'' _ (tM _ _ _ _ _ ht e2) hr hk fun z H5 h1 h2 => ⟨kvs, kS r, rfl, h1, ?_, ?_⟩
    · rw [keys_len hk, List.length_take]
      exact Nat.lt_of_le_of_lt (Nat.le_trans (Nat.min_le_right _ _) hl) (by decide)
    · rw [putK_new z kn]
      refine ⟨kvs ++ [(kS r, z)], ?_, ?_⟩
      · rw [tk]
        have y := keys_put (v := z) hk hr
        rwa [putK_new z kn] at y
      · rw [tk]
        exact h2
  · have en : n = L.length := by omega
    subst en
    rw [List.take_length] at ht hk
    exact .inl ⟨by simpa using W.stops H' eB, q D' kvs H' ht hk⟩
theorem keys_put_old {kvs : List (L2.Key × V)} {L : List (List Nat)} {l : List Nat} {v : V} (h : keysL kvs L) (hn : l ∈ L) : keysL (putK kvs (kS l) v) L := by
  have e : (kvs.any fun kv => decide (kv.1 = kS l)) = true := by
    rw [valV_any, keys_none h, decide_eq_true hn]
  unfold putK
  rw [if_pos e]
  unfold keysL at h ⊢
  rw [← h, List.map_map]
  refine List.map_congr_left fun kv _ => ?_
  show (if kv.1 = kS l then (kv.1, v) else kv).1 = kv.1
  split <;> rfl
theorem s_daug {a : Addr} {kvs : List (L2.Key × V)} {l : List Nat} {i j : Int} (hd : EvW td σ H (.ref a)) (hy : EvD ty σ H (.str l)) (hk : H a = some (.dK kvs)) (hv : valV kvs (kS l) = some (.int i)) (he : EvD tv σ H (.int j)) (hz : kvs.length < 100000)
    (k : ∀ H1, Ex H H1 → D.nx σ (upd H1 a (.dK (putK kvs (kS l) (.int (i + j)))))) : sDAug td ty tv rAdd D σ H := hd H (Ex.refl H) _ fun H1 e1 => hy H1 e1 _ fun y d H2 e2 c dy => by
  subst c
  cases dy
  have g := DGet.k (k := kS l) ((e1.trans e2) _ _ hk)
  rw [hv] at g
  refine ⟨a, .int i, rfl, g, he H2 (e1.trans e2) _ fun z d H3 e3 c dz => ?_⟩
  subst c
  cases dz
  exact ⟨i, j, rfl, rfl, _, .inl ⟨kvs, kS l, ((e1.trans e2).trans e3) _ _ hk, rfl, szlt hz, rfl⟩, k H3 ((e1.trans e2).trans e3)⟩
end
section
variable {X : Cx} {e : Expr} {es : List Expr} {t : TA} {p pos : Pos}
def rComb : List V → Hp → VK → Prop := fun vs H Q => ∃ a b : Int, vs = [.int a, .int b] ∧ 0 ≤ a ∧ 0 ≤ b ∧ a ≤ 1000 ∧ Q (.int (PySem.W.mcComb a b)) H
theorem cr_comb : CallR X (.builtin "math.comb") rComb := by
  intro pins s σ H vs us Q I r h
  obtain ⟨a, b, rfl, ha, hb, hz, q⟩ := h
  cases r with
  | cons r1 r =>
    cases r with
    | cons r2 r =>
      cases r
      obtain ⟨t, rfl⟩ := r1
      obtain ⟨u, rfl⟩ := r2
      exact PySem.W.mc_comb ha hb (by omega) (.inr (by omega)) fun _ => ⟨.int _, H, I.tok _, ⟨_, rfl⟩, q⟩
theorem pe_comb (hm : X.mg "comb" = some (.builtin "math.comb")) (ha : PA X (e :: es) t) (hg : Gl X "comb" := by rfl) (he : starEach (e :: es) X.env = (false, eval e X.env) :: starEach es X.env := by rfl) (hpl : (backTo pos (starEach es X.env)).any (·.1) = false := by rfl) : PE X (.Call (.Name "comb" p) (e :: es) [] pos) (tCB rComb t) := pe_callMB cr_comb hg hm ha (by decide) he hpl
end
section
open PySem PySem.Spec PyProof.Rows L2
variable {X : Cx}
theorem sw_trueD {kx vx : Expr} {gs : List Comprehension} {scope : Scope} {pos py : Pos} {y : Str} {l : Nat} {env : Env} (hk : env.scope.kind = .function) (hy : env.scope.names.lookup y = some .local) (hl : (py.line == pos.line) = true)
    (ha : (scope.names.any fun (n, k) => n == y && (k == .local || k == .cell)) = false) : swapsWith (.DictComp kx vx gs scope pos) (some (.Name y py)) l env = pure true := by
  have ky : env.kindOf y = some .local := hy
  have hb : env.blockKind = .function := by unfold Env.blockKind; rw [hk]; rfl
  unfold swapsWith
  simp only [hb, ky, ha, Expr.pos, hl]
  rfl
/-- x = {k: v for .. in ..} -/
theorem ps_setDc {i : Nat} {y : Str} {py : Pos} {kx vx tg iter : Expr} {ifs : List Expr} {scope : Scope} {own : List (Str × Nat)} {pos spos : Pos} {wi : TI} {g : TG} {tt : TT} {tk tv : TE} (hc : X.calm = true) (hN : X.N.Nodup) (hy : X.N[i]? = some y) (hyl : X.env.scope.names.lookup y = some .local)
    (hsw : swapsWith (.DictComp kx vx [⟨tg, iter, ifs, 0⟩] scope pos) (some (.Name y py)) spos.line X.env = pure true) (hi : PI X tg iter wi) (ok : BlkOk X.N X.env.scope scope own)
    (hg : ∀ (s : Shared) (H : Hp) (C : Addr) (cl : List (Str × Addr)) (fp : List Addr), PG (X.blk s H scope (compEnvC scope cl C X.env) fp) tg g) (ht : ∀ (s : Shared) (H : Hp) (C : Addr) (cl : List (Str × Addr)) (fp : List Addr), PTs (X.blk s H scope (compEnvC scope cl C X.env) fp) ifs tt)
    (hk : ∀ (s : Shared) (H : Hp) (C : Addr) (cl : List (Str × Addr)) (fp : List Addr), PE (X.blk s H scope (compEnvC scope cl C X.env) fp) kx tk)
    (he : ∀ (s : Shared) (H : Hp) (C : Addr) (cl : List (Str × Addr)) (fp : List Addr), PE (X.blk s H scope (compEnvC scope cl C X.env) fp) vx tv) (hs : ∀ x, foldedSetIterable iter X.env x = pure x := by intro _; rfl) :
    PS X (.Assign [.Name y py] (.DictComp kx vx [⟨tg, iter, ifs, 0⟩] scope pos) spos) (tAsg (tDc wi g tt tk tv (own.map (·.2))) (gName i)) := by
  refine ⟨fun pins s σ H D I h => ?_⟩
  rw [exec_Assign_Name_used _ _ _ _ hsw]
  refine wpAny_bind (wpAny_standAt (wpAny_bind ?_))
  show wpAny _ X.A (do let _ ← comprehension (.DictComp kx vx [⟨tg, iter, ifs, 0⟩] scope pos) scope X.env (firstIterPos [⟨tg, iter, ifs, 0⟩] pos) newDict false (eval iter X.env) (some (assign (.Name y py) X.env))) _ _ s
  have h : tDc wi g tt tk tv (own.map (·.2)) σ H (fun x H1 => gName i x σ H1 D.nx) := h
  refine wpAny_bind (thn (dc_core (Qf := fun _ s' => SP X pins D .next s') hc hN I hi ok hg ht hk he hs h fun L C s' m H' I' q hn f => ?_) fun _ s' hq => wpAny_pure (wpAny_pure hq))
  show wpAny _ _ (assign (.Name y py) X.env (.ref L)) _ _ _
  refine wpAny_assign_Name (store_ok2 (v := V.ref L) I' hN hy (.inl hyl) rfl (fun s2 I2 ⟨a, sb, ha⟩ => ?_) (.inr hyl))
  obtain ⟨f0, f1, f2, f3, f4, f5⟩ := f
  have haC : C ≠ a := by
    rcases ha with z | z
    · rw [z]; exact f1
    · exact fun e => f4 y a z e.symm
  refine ⟨m, hn.sameBut sb haC, fun h3 sb3 => ?_⟩
  exact ⟨_, H', I2.turned (t' := s2.toks) (fun b o hb e => (sb3.2 b hb).trans e) f0 f1 f3 f4 f5, q⟩
end
end FW
set_option maxRecDepth 100000
set_option maxHeartbeats 4000000
/-! # FM3: dicts of lists and of numbers in the heap -/
namespace FW
open PySem L2
open Evl (Ex Ex.refl Ex.trans Ex.new Ex.mut EvT)
def intsV (l : List Nat) : List V := l.map fun z : Nat => V.int (z : Int)
def intsD (l : List Nat) : List Dt := l.map fun z : Nat => Dt.int (z : Int)
theorem dqa_ints {H : Hp} : ∀ l : List Nat, DqA H (intsV l) (intsD l)
  | [] => .nil
  | z :: l => .cons (.int z) (dqa_ints l)
/-- the dict at Fd: for each room of L a list of its own -/
structure FDI (Hb : Hp) (Fd : Addr) (L : List (List Nat)) (kvs : List (L2.Key × V)) (val : List Nat → List Nat) (H' : Hp) : Prop where
  ex : Ex Hb H'
  fb : Hb Fd = none
  fd : H' Fd = some (.dK kvs)
  ks : keysL kvs L
  at_ : ∀ r ∈ L, ∃ b, valV kvs (kS r) = some (.ref b) ∧ H' b = some (.lst (intsV (val r))) ∧ Hb b = none
  inj : ∀ r ∈ L, ∀ r' ∈ L, valV kvs (kS r) = valV kvs (kS r') → r = r'
theorem FDI.mono {Hb : Hp} {Fd : Addr} {L : List (List Nat)} {kvs : List (L2.Key × V)} {val : List Nat → List Nat} {H' H'' : Hp} (h : FDI Hb Fd L kvs val H') (e : Ex H' H'') : FDI Hb Fd L kvs val H'' where
  ex := h.ex.trans e
  fb := h.fb
  fd := e _ _ h.fd
  ks := h.ks
  at_ := fun r hr => by
    obtain ⟨b, h1, h2, h3⟩ := h.at_ r hr
    exact ⟨b, h1, e _ _ h2, h3⟩
  inj := h.inj
theorem FDI.congr {Hb : Hp} {Fd : Addr} {L : List (List Nat)} {kvs : List (L2.Key × V)} {val val' : List Nat → List Nat} {H' : Hp} (h : FDI Hb Fd L kvs val H') (e : ∀ r ∈ L, val r = val' r) : FDI Hb Fd L kvs val' H' where
  ex := h.ex
  fb := h.fb
  fd := h.fd
  ks := h.ks
  at_ := fun r hr => by
    rw [← e r hr]
    exact h.at_ r hr
  inj := h.inj
theorem valV_snoc' {kvs : List (L2.Key × V)} {M : List (List Nat)} {r x : List Nat} {v : V} (hk : keysL kvs M) (hr : r ∉ M) : valV (kvs ++ [(kS r, v)]) (kS x) = if x = r then some v else valV kvs (kS x) := by
  have kn : valV kvs (kS r) = none := by
    have y := keys_none (l := r) hk
    rw [decide_eq_false hr] at y
    simpa using y
  rw [valV_snoc (kS r) (kS x) v kvs kn]
  by_cases e : x = r
  · rw [if_pos e, if_pos (by rw [e])]
  · rw [if_neg e, if_neg (fun z => e (kS_inj z))]
theorem FDI.snoc {Hb : Hp} {Fd p : Addr} {M : List (List Nat)} {kvs : List (L2.Key × V)} {val : List Nat → List Nat} {H' : Hp} {r : List Nat} (h : FDI Hb Fd M kvs val H') (hr : r ∉ M) (hp : H' p = none) :
    FDI Hb Fd (M ++ [r]) (kvs ++ [(kS r, .ref p)]) val (upd (upd H' p (.lst (intsV (val r)))) Fd (.dK (kvs ++ [(kS r, .ref p)]))) where
  ex := ex_put h.fb (h.ex.trans (Ex.new hp))
  fb := h.fb
  fd := upd_same
  ks := by
    have z := h.ks
    unfold keysL at z ⊢
    rw [List.map_append, z, List.map_append]
    rfl
  at_ := fun x hx => by
    have hpF : p ≠ Fd := fun z => by
      rw [z, h.fd] at hp
      cases hp
    rw [valV_snoc' h.ks hr]
    by_cases e : x = r
    · rw [if_pos e, e]
      exact ⟨p, rfl, by rw [upd_ne hpF, upd_same], Evl.fresh_back h.ex hp⟩
    · rw [if_neg e]
      have hx : x ∈ M := by
        rcases List.mem_append.mp hx with z | z
        · exact z
        · rw [List.mem_singleton] at z
          exact absurd z e
      obtain ⟨b, h1, h2, h3⟩ := h.at_ x hx
      refine ⟨b, h1, ?_, h3⟩
      rw [upd_ne (fun z => by rw [z, h.fd] at h2; cases h2), upd_ne (fun z => by rw [z, hp] at h2; cases h2)]
      exact h2
  inj := fun x hx x' hx' e => by
    have hm : ∀ {y : List Nat}, y ∈ M ++ [r] → ¬ y = r → y ∈ M := fun {y} hy hn => by
      rcases List.mem_append.mp hy with z | z
      · exact z
      · rw [List.mem_singleton] at z
        exact absurd z hn
    rw [valV_snoc' h.ks hr, valV_snoc' h.ks hr] at e
    by_cases e1 : x = r
    · by_cases e2 : x' = r
      · rw [e1, e2]
      · rw [if_pos e1, if_neg e2] at e
        obtain ⟨b, h1, h2, _⟩ := h.at_ x' (hm hx' e2)
        rw [h1] at e
        cases e
        rw [hp] at h2
        cases h2
    · by_cases e2 : x' = r
      · rw [if_neg e1, if_pos e2] at e
        obtain ⟨b, h1, h2, _⟩ := h.at_ x (hm hx e1)
        rw [h1] at e
        cases e
        rw [hp] at h2
        cases h2
      · rw [if_neg e1, if_neg e2] at e
        exact h.inj x (hm hx e1) x' (hm hx' e2) e
theorem FDI.app {Hb : Hp} {Fd b : Addr} {L : List (List Nat)} {kvs : List (L2.Key × V)} {val : List Nat → List Nat} {H' : Hp} {r : List Nat} {z : Nat} (h : FDI Hb Fd L kvs val H') (hr : r ∈ L) (hb : valV kvs (kS r) = some (.ref b)) :
    FDI Hb Fd L kvs (fun x => if x = r then val r ++ [z] else val x) (upd H' b (.lst (intsV (val r) ++ [.int (z : Int)]))) := by
  obtain ⟨b', h1, h2, h3⟩ := h.at_ r hr
  rw [hb] at h1
  cases h1
  have hbF : Fd ≠ b := fun e => by
    rw [← e, h.fd] at h2
    cases h2
  refine ⟨ex_put h3 h.ex, h.fb, by rw [upd_ne hbF]; exact h.fd, h.ks, fun x hx => ?_, h.inj⟩
  by_cases e : x = r
  · rw [if_pos e, e]
    refine ⟨b, hb, ?_, h3⟩
    rw [upd_same]
    show _ = some (HO.lst (intsV (val r ++ [z])))
    unfold intsV
    rw [List.map_append]
    rfl
  · rw [if_neg e]
    obtain ⟨c, g1, g2, g3⟩ := h.at_ x hx
    refine ⟨c, g1, ?_, g3⟩
    rw [upd_ne (fun q => e (h.inj x hx r hr (by rw [g1, hb, q])))]
    exact g2
/-- the dict at Ld: for each room of L a number -/
structure LDI (Hm : Hp) (Ld : Addr) (L : List (List Nat)) (kvs : List (L2.Key × V)) (acc : List Nat → Nat) (H' : Hp) : Prop where
  ex : Ex Hm H'
  lb : Hm Ld = none
  ld : H' Ld = some (.dK kvs)
  ks : keysL kvs L
  at_ : ∀ r ∈ L, valV kvs (kS r) = some (.int (acc r : Int))
theorem LDI.mono {Hm : Hp} {Ld : Addr} {L : List (List Nat)} {kvs : List (L2.Key × V)} {acc : List Nat → Nat} {H' H'' : Hp} (h : LDI Hm Ld L kvs acc H') (e : Ex H' H'') : LDI Hm Ld L kvs acc H'' := ⟨h.ex.trans e, h.lb, e _ _ h.ld, h.ks, h.at_⟩
theorem LDI.congr {Hm : Hp} {Ld : Addr} {L : List (List Nat)} {kvs : List (L2.Key × V)} {acc acc' : List Nat → Nat} {H' : Hp} (h : LDI Hm Ld L kvs acc H') (e : ∀ r ∈ L, acc r = acc' r) : LDI Hm Ld L kvs acc' H' := ⟨h.ex, h.lb, h.ld, h.ks, fun r hr => by rw [← e r hr]; exact h.at_ r hr⟩
theorem LDI.snoc {Hm : Hp} {Ld : Addr} {M : List (List Nat)} {kvs : List (L2.Key × V)} {acc : List Nat → Nat} {H' : Hp} {r : List Nat} (h : LDI Hm Ld M kvs acc H') (hr : r ∉ M) :
    LDI Hm Ld (M ++ [r]) (kvs ++ [(kS r, .int (acc r : Int))]) acc (upd H' Ld (.dK (kvs ++ [(kS r, .int (acc r : Int))]))) where
  ex := ex_put h.lb h.ex
  lb := h.lb
  ld := upd_same
  ks := by
    have z := h.ks
    unfold keysL at z ⊢
    rw [List.map_append, z, List.map_append]
    rfl
  at_ := fun x hx => by
    rw [valV_snoc' h.ks hr]
    by_cases e : x = r
    · rw [if_pos e, e]
    · rw [if_neg e]
      rcases List.mem_append.mp hx with z | z
      · exact h.at_ x z
      · rw [List.mem_singleton] at z
        exact absurd z e
theorem LDI.put {Hm : Hp} {Ld : Addr} {L : List (List Nat)} {kvs : List (L2.Key × V)} {acc : List Nat → Nat} {H' : Hp} {r : List Nat} {z : Nat} (h : LDI Hm Ld L kvs acc H') (hr : r ∈ L) :
    LDI Hm Ld L (putK kvs (kS r) (.int (z : Int))) (fun x => if x = r then z else acc x) (upd H' Ld (.dK (putK kvs (kS r) (.int (z : Int))))) where
  ex := ex_put h.lb h.ex
  lb := h.lb
  ld := upd_same
  ks := keys_put_old h.ks hr
  at_ := fun x hx => by
    rw [valV_put]
    by_cases e : x = r
    · rw [if_pos (by rw [e])]
      show _ = some (V.int ((if x = r then z else acc x : Nat) : Int))
      rw [if_pos e]
    · rw [if_neg (fun q => e (kS_inj q))]
      show _ = some (V.int ((if x = r then z else acc x : Nat) : Int))
      rw [if_neg e]
      exact h.at_ x hx
section
variable {K : PySem.W.Frag} {σ : St} {H : Hp} {td ty : TE}
theorem vv_dget {a : Addr} {kvs : List (L2.Key × V)} {l : List Nat} {v : V} (hd : EvW td σ H (.ref a)) (hy : EvD ty σ H (.str l)) (hk : H a = some (.dK kvs)) (hv : valV kvs (kS l) = some v) : EvV (tDGet td ty) σ H v := fun Q q =>
  hd H (Ex.refl H) _ fun H2 e2 => hy H2 e2 _ fun y d' H3 e3 c k => by
    subst c
    cases k
    have g := DGet.k (k := kS l) ((e2.trans e3) _ _ hk)
    rw [hv] at g
    exact ⟨a, v, rfl, g, q H3 (e2.trans e3)⟩
end
end FW
set_option maxRecDepth 100000
set_option maxHeartbeats 8000000
namespace FW
open PySem L2
open Evl (Ex Ex.refl Ex.trans Ex.new Ex.mut EvT)
def g2 (m l : Nat) : Nat := (PySem.W.mcComb (m : Int) (l : Int)).toNat
theorem g2_int (m l : Nat) : PySem.W.mcComb (m : Int) (l : Int) = ((g2 m l : Nat) : Int) := by
  have h := (PySem.W.mc_comb_known (a := (m : Int)) (b := (l : Int)) (by omega) (by omega)).1
  unfold g2
  omega
theorem g1_small : Gb g1 := fun _ _ _ _ => (by decide : 1 ≤ 2 ^ 30)
set_option maxRecDepth 1000000 in
theorem g2_tab : ∀ m : Fin 30, ∀ j : Fin 30, g2 m.val j.val ≤ 2 ^ 30 := by decide +kernel
theorem g2_small : Gb g2 := fun m j hm hj => g2_tab ⟨m, hm⟩ ⟨j, by omega⟩
def turnV (sp : Spec) (r : List Nat) (k : Nat) : Dt := .tup [.str r, .lst ((rp sp r k).map Dt.str)]
theorem turnsK_two {sp : Spec} (ok : SpecOk sp) {r : List Nat} (hr : rmOf r sp.fc) {k : Nat} (hk : k ∈ turnsK sp r) : k ∈ sp.ct ∧ rp sp r k = [part0 sp r k, part1 sp r k] := by
  unfold turnsK at hk
  rw [List.mem_filter] at hk
  refine ⟨hk.1, ?_⟩
  have h2 : cutAt sp.ls r k ≠ [] := by simpa using hk.2
  obtain ⟨⟨n, e, s, w, rfl⟩, _⟩ := hr
  rcases cutAt_ok ok.bok.cuts [n, e, s, w] k with h | ⟨o, a, b, h⟩
  · exact absurd h h2
  · unfold part0 part1 rp
    rw [h]
    by_cases ho : o = 124
    · simp [partsL, ho]
    · simp [partsL, ho]
theorem ints_at {l : List Nat} {j : Nat} (h : j < l.length) : (intsD l)[j]? = some (.int (l.getD j 0 : Nat)) := by
  unfold intsD
  rw [List.getElem?_map, List.getD_eq_getElem?_getD, List.getElem?_eq_getElem h] <;> rfl
theorem ints_len (l : List Nat) : (intsD l).length = l.length := List.length_map ..
theorem intsV_len (l : List Nat) : (intsV l).length = l.length := List.length_map ..
section
variable {K : PySem.W.Frag} {σ : St} {H : Hp}
theorem ed_callL {R : Hp → List Dt → (Dt → Prop) → Prop} {ta : TA} {ds : List Dt} {C : Dt → Prop} {E : XK} {i : Nat} {f : Addr} (hσ : σ[i]? = some (some (.ref f))) (h : EvAD ta σ H ds) (hR : ∀ H1, Ex H H1 → R H1 ds C) : EvC (tCallL i f (spR R) [] E ta) σ H C := fun H1 e Q q =>
  ⟨hσ, h H1 e _ fun vs H2 e2 k => ⟨ds, C, by rw [List.append_nil]; exact k, hR H2 (e.trans e2), fun v d H3 e3 c dq => q v d H3 (e2.trans e3) c dq⟩⟩
theorem cmulW {a b x y : Nat} (ha : a ≤ 2 ^ x) (hb : b ≤ 2 ^ y) (hx : x + y ≤ 5000) : CMulW (a : Int) (b : Int) := by
  refine wide_mul (a := x + 1) (b := y + 1) ?_ ?_ (by omega) (by omega) (by omega)
  · rw [Int.natAbs_natCast]
    exact Nat.lt_of_le_of_lt ha (Nat.pow_lt_pow_right (by decide) (by omega))
  · rw [Int.natAbs_natCast]
    exact Nat.lt_of_le_of_lt hb (Nat.pow_lt_pow_right (by decide) (by omega))
end
section
variable {P : Program} {w : World} {K : PySem.W.Frag} {mg : Str → Option Value} {base : Heap} {Cb : Addr}
abbrev st_ways_between : Stmt := top 36
theorem sc_ways_between : FnScope ["many", "left"] ["many", "left"] (defScope st_ways_between) := ⟨rfl, rfl, rfl, by decide +kernel, rfl, by decide +kernel, by decide +kernel⟩
theorem c_ways_between (T : Txt mg) (F : DefAt K mg "ways_between" st_ways_between) (h_comb : mg "comb" = some (.builtin "math.comb")) : Cal P w K mg base CX0 1 "ways_between" ["many", "left"] (spR (R_w g2)) := by
  refine cal_of sc_ways_between F (fun _ _ _ ⟨_, _, e, _⟩ => by rw [e]; rfl) (fun _ _ _ _ _ _ us hl => match us, hl with | [_, _], _ => rfl) fun f cdv A outer s H hr E => ?_
  refine ⟨_, (pss_one (ps_ret (pe_comb h_comb (pa_cons (pv 0) (pa_cons (pv 1) pa_nil))))), ?_⟩
  rintro ds C vs hd ⟨m, l, rfl, hm, hl, rfl⟩ D kr kn
  obtain ⟨x, y, rfl, hx, hy⟩ := dqa2 hd
  refine rtD (d := .int (g2 m l : Nat)) (ec_cbD (a2 (xv hx) (xv hy)) fun vs H1 _ k Q q => ?_) (Ex.refl H) kr
  obtain ⟨x, y, rfl, hx, hy⟩ := dqa2 k
  cases hx
  cases hy
  refine ⟨(m : Int), (l : Int), rfl, by omega, by omega, by omega, ?_⟩
  rw [g2_int]
  exact q _ _ H1 (Ex.refl H1) rfl (.int _)
def spTT (Cb : Addr) (g : Nat → Nat → Nat) (fw : Addr) : Sp := fun vs H Q _ => ∃ a sp r n, vs = [.ref a, .str (S r), .int ((n : Nat) : Int), .ref fw] ∧ BkAt Cb a sp H ∧ SpecOk sp ∧ rmOf r sp.fc ∧ n ≤ 30 ∧
  ∀ Fd kvs b H2, Ex H H2 → H2 Fd = some (.dK kvs) → valV kvs (kS r) = some (.ref b) → H2 b = some (.lst (intsV (Ft g sp n r))) → Q (.ref Fd) H2
abbrev TSt (vb vs : V) (n : Nat) (fw : Addr) (vr vt : V) (Fd : Addr) (p7 p8 p9 p10 p11 p12 p13 : Option V) : St := [some vb, some vs, some (.int (n : Int)), some (.ref fw), some vr, some vt, some (.ref Fd), p7, p8, p9, p10, p11, p12, p13]
abbrev P_tt : List Str := ["book", "start", "cuts", "weave"]
abbrev st_tree_table : Stmt := top 34
theorem sc_tree_table : FnScope ["book", "start", "cuts", "weave", "rooms", "turns", "found", "many", "late", "room", "parts", "left", "amount", "cutter"] ["book", "start", "cuts", "weave"] (defScope st_tree_table) := ⟨rfl, rfl, rfl, by decide +kernel, rfl, by decide +kernel, by decide +kernel⟩
theorem c_tree_table {g : Nat → Nat → Nat} (hg : Gb g) (T : Txt mg) (B : BkCls K Cb) (F : DefAt K mg "tree_table" st_tree_table) {fw : Addr} {fdw : FuncData} (Fw : FnOk P w K mg base CX0 1 fw fdw ["many", "left"] (spR (R_w g))) (kw : PySem.W.keepIn K (.ref fw) = true) (bw : Binds K fdw ["many", "left"] [])
    (C_reached : Cal P w K mg base CX0 7 "reached" ["book", "start"] (spR (R_reached Cb))) (C_turns_of : Cal P w K mg base CX0 5 "turns_of" ["book", "rooms"] (spR (R_turns Cb))) (M_parts : Mal P w K mg base CX0 5 Cb "parts" P_bk (spR (R_bk Cb gParts))) : Cal P w K mg base CX0 8 "tree_table" P_tt (spTT Cb g fw) := by
  refine cal_ofS sc_tree_table F (fun vs H Q E ⟨_, _, _, _, e, _⟩ => by rw [e]; rfl) (fun _ _ _ _ _ _ us hl => match us, hl with | [_, _, _, _], _ => rfl) fun f cdv A outer s H hr E => ?_
  refine ⟨_, (pss_cons (ps_set (i := 4) sc_tree_table.nd rfl (Or.inl rfl) (pe_cal C_reached hr pass0 (pa_cons (pv 0) (pa_cons (pv 1) pa_nil))))
      (pss_cons (ps_setLc (i := 5) (own := [("room", 9), ("cutter", 13)]) (g := gTup K 2 (gCons (gName 9) (gCons (gName 13) gNil))) rfl sc_tree_table.nd rfl rfl (sw_true rfl rfl rfl (by decide +kernel)) (pi_list (pe_cal C_turns_of hr pass0 (pa_cons (pv 0) (pa_cons (pv 4) pa_nil)))) (blkOk_by (own := [("room", 9), ("cutter", 13)]) (N := ["book", "start", "cuts", "weave", "rooms", "turns", "found", "many", "late", "room", "parts", "left", "amount", "cutter"]) (sc := defScope st_tree_table) (by decide +kernel)) (fun _ _ _ _ _ => (pg_tup rfl (pgs_cons (pg_name (i := 9) sc_tree_table.nd rfl (Or.inl rfl)) (pgs_cons (pg_name (i := 13) sc_tree_table.nd rfl (Or.inl rfl)) pgs_nil)))) (fun _ _ _ _ _ => pts_nilH) (fun _ _ _ _ _ => pe_hide (pe_tup (pa_cons (pv 9) (pa_cons (pe_mcal B.cls M_parts hr pass0 (pv 0) (pa_cons (pv 9) (pa_cons (pv 13) pa_nil))) pa_nil)))))
      (pss_cons (ps_setDc (i := 6) (own := [("room", 9)]) (g := gName 9) rfl sc_tree_table.nd rfl rfl (sw_trueD rfl rfl rfl (by decide +kernel)) (pi_list (pv 4)) (blkOk_by (own := [("room", 9)]) (N := ["book", "start", "cuts", "weave", "rooms", "turns", "found", "many", "late", "room", "parts", "left", "amount", "cutter"]) (sc := defScope st_tree_table) (by decide +kernel)) (fun _ _ _ _ _ => (pg_name (i := 9) sc_tree_table.nd rfl (Or.inl rfl))) (fun _ _ _ _ _ => pts_nil) (fun _ _ _ _ _ => (pv 9)) (fun _ _ _ _ _ => (pe_lst (pa_cons pe_int pa_nil))))
      (pss_cons (ps_for PassesOwn.never rfl (pi_range1 rfl T.range (pa_cons (pv 2) pa_nil)) (pg_name (i := 7) sc_tree_table.nd rfl (Or.inl rfl)) (pss_cons (ps_setDc (i := 8) (own := [("room", 9)]) (g := gName 9) rfl sc_tree_table.nd rfl rfl (sw_trueD rfl rfl rfl (by decide +kernel)) (pi_list (pv 4)) (blkOk_by (own := [("room", 9)]) (N := ["book", "start", "cuts", "weave", "rooms", "turns", "found", "many", "late", "room", "parts", "left", "amount", "cutter"]) (sc := defScope st_tree_table) (by decide +kernel)) (fun _ _ _ _ _ => (pg_name (i := 9) sc_tree_table.nd rfl (Or.inl rfl))) (fun _ _ _ _ _ => pts_nil) (fun _ _ _ _ _ => (pv 9)) (fun _ _ _ _ _ => pe_int))
        (pss_cons (ps_for PassesOwn.never rfl (pi_list (pv 5)) (pg_tup rfl (pgs_cons (pg_name (i := 9) sc_tree_table.nd rfl (Or.inl rfl)) (pgs_cons (pg_name (i := 10) sc_tree_table.nd rfl (Or.inl rfl)) pgs_nil))) (pss_one (ps_for PassesOwn.never rfl (pi_range1 rfl T.range (pa_cons (pe_op op_addU (pv 7) pe_int) pa_nil)) (pg_name (i := 11) sc_tree_table.nd rfl (Or.inl rfl)) (pss_cons (ps_set (i := 12) sc_tree_table.nd rfl (Or.inl rfl) (pe_op op_mulW (pe_ix ix_U (pe_dget (FW.Room.hu1 hr) (pv 6) (pe_ix ix_U (pv 10) pe_int (fun _ _ => rfl)) (fun _ _ => rfl)) (pv 11) (fun _ _ => rfl)) (pe_ix ix_U (pe_dget (FW.Room.hu1 hr) (pv 6) (pe_ix ix_U (pv 10) pe_int (fun _ _ => rfl)) (fun _ _ => rfl)) (pe_op op_sub (pv 7) (pv 11)) (fun _ _ => rfl))))
            (pss_one (ps_daug (FW.Room.hu1 hr) (pv 8) (pv 9) (pe_op op_mulW (pv 12) (pe_callL (i := 3) Fw (hr.mono (by decide)) rfl (Or.inl rfl) kw bw .nil pass0 (pa_cons (pv 7) (pa_cons (pv 11) pa_nil)))) in_add (fun _ _ _ => rfl)))))))
        (pss_one (ps_for PassesOwn.never rfl (pi_list (pv 4)) (pg_name (i := 9) sc_tree_table.nd rfl (Or.inl rfl)) (pss_one (ps_expr (pe_bm PySem.F.plainAttrs_list PySem.F.slot_list_append PySem.F.type_list_append mt_append (pe_dget (FW.Room.hu1 hr) (pv 6) (pv 9) (fun _ _ => rfl)) (pa_cons (pe_dget (FW.Room.hu1 hr) (pv 8) (pv 9) (fun _ _ => rfl)) pa_nil)))))))))
      (pss_one (ps_ret (pv 6))))))), ?_⟩
  rintro vs Q ⟨a, sp, r, n, rfl, hb, ok, hrm, hn, q⟩
  have hx : Dq H (.ref a) (.obj a) := .obj a
  have hy : Dq H (.str (S r)) (.str r) := .str r
  have l3 := ok.f3
  have c3 := ok.c3
  refine g_asg (C := fun e => ∃ L, e = .lst (L.map Dt.str) ∧ Closed sp r L) (ed_call (a2 (xv hx) (xv hy)) fun H1 e => ⟨a, sp, r, rfl, hb.mono e, ok, hrm, rfl⟩) fun vr d H1 e1 hd dr => ?_
  obtain ⟨L, rfl, cl⟩ := hd
  have hb1 := hb.mono e1
  have hx1 := hx.mono e1
  have ll : L.length ≤ 81 := rooms_len l3 cl.nd cl.rm
  have tl : (turnP sp L).length ≤ 300 := by
    have h1 : (turnP sp L).length ≤ L.length * 3 := len_flat fun x _ => by
      rw [List.length_map]
      exact Nat.le_trans (List.length_filter_le _ _) c3
    omega
  have tP : turnsL sp L = (turnP sp L).map fun t => turnD t.1 t.2 := by
    unfold turnsL turnP
    rw [List.map_flatMap]
    congr 1
    funext x
    rw [List.map_map]
    rfl
  refine g_asgD (d := .lst ((turnP sp L).map fun t => turnV sp t.1 t.2)) ?_ fun vt H2 e2 dt => ?_
  · refine EvD.to (ed_lcMP (xs := turnsL sp L) (fun d => match d with | .tup [.str r, .str [k]] => turnV sp r k | _ => .non) (ei_listD (ed_call (a2 (xv hx1) (xv dr)) fun H1 e => ⟨a, sp, L, rfl, hb1.mono e, ok, cl.rm, ll, rfl⟩)) (by rw [tP, List.length_map]; omega) (fun z hz => ?_) (fun _ _ => rfl) fun i da db v u B0 ez eB dv du => ?_) ?_
    · rw [tP] at hz
      obtain ⟨t, _, rfl⟩ := List.mem_map.mp hz
      exact ⟨_, _, rfl⟩
    · rw [tP] at ez
      obtain ⟨t, ht, e⟩ := map_at ez
      obtain ⟨rfl, rfl⟩ : da = .str t.1 ∧ db = .str [t.2] := by
        unfold turnD at e
        simp at e
        exact e
      have htm : t ∈ turnP sp L := List.mem_of_getElem? ht
      obtain ⟨x, hxL, hxm⟩ := List.mem_flatMap.mp htm
      obtain ⟨k, hk, rfl⟩ := List.mem_map.mp hxm
      exact xT (a2 (xv dv) (ed_mb (hb1.mono eB) (by decide) (xv (hx1.mono eB)) (a2 (xv dv) (xv du)) fun H1 e => ⟨a, sp, x, k, rfl, (hb1.mono eB).mono e, ok.bok, cl.rm x hxL, (turnsK_two ok (cl.rm x hxL) hk).1, rfl⟩))
    · rw [tP, List.map_map]
      rfl
  have dr2 := dr.mono e2
  obtain ⟨ra, rvs, rfl, hra, kra⟩ := dq_lst dr2
  refine g_dc (B := H2) (wb_list (vv_var rfl) (Ex.refl H2) hra kra) cl.nd (by omega) (fun _ => rfl) (fun _ => rfl) (fun D' M kvs H' => FDI H2 D' M kvs (fun _ => [1]) H') (fun D' H3 e3 h3 => ⟨ex_put (Evl.fresh_back e3 h3) e3, Evl.fresh_back e3 h3, upd_same, rfl, fun _ h => (by cases h), fun _ h => (by cases h)⟩) (fun D' M kvs H' h => ⟨h.ex, h.fd⟩) (fun D' M kvs H' H'' h e => h.mono e) (fun D' M kvs x H' Qv h hr hk hq => ?_) fun Fd kvs H3 hF hk => ?_
  · refine ⟨by show 1 ≤ sizeLine; decide, fun p hp => hq _ _ ?_ (h.snoc hr hp)⟩
    have hpF : D' ≠ p := fun z => by
      have w := h.fd
      rw [z, hp] at w
      cases w
    rw [upd_ne hpF]
    exact h.fd
  obtain ⟨ta, tvs, rfl, hta, kta⟩ := dq_lst dt
  refine g_forB1 (B := H2) (wb_range (xv (.int _)) ⟨by omega, by omega⟩) (fun m σ' H' => ∃ p7 p8 p9 p10 p11 p12 p13, σ' = TSt (.ref a) (.str (S r)) n fw (.ref ra) (.ref ta) Fd p7 p8 p9 p10 p11 p12 p13 ∧ FDI H2 Fd L kvs (Ft g sp m) H') (fun H4 e4 => ⟨none, none, none, none, none, none, none, rfl, (hF.mono e4).congr fun x _ => rfl⟩) (fun m σ' H' ⟨_, _, _, _, _, _, _, _, h⟩ => h.ex) ?_ ?_
  · rintro m z vm σ' H4 Hm ez ⟨p7, p8, p9, p10, p11, p12, p13, rfl, hF⟩ e4 dm
    obtain ⟨hm, rfl⟩ := rngD_get ez
    cases dm
    have hF := hF.mono e4
    have hm30 : m < 30 := by omega
    have sm : Small (Ft g sp m) m := Ft_small hg c3 m (by omega)
    refine g_dc (B := Hm) (wb_list (vv_var rfl) (Ex.refl Hm) (hF.ex _ _ hra) (kra.mono hF.ex)) cl.nd (by omega) (fun _ => rfl) (fun _ => rfl) (fun D' M kvs H' => LDI Hm D' M kvs (fun _ => 0) H') (fun D' H5 e5 h5 => ⟨ex_put (Evl.fresh_back e5 h5) e5, Evl.fresh_back e5 h5, upd_same, rfl, fun _ h => by cases h⟩) (fun D' M kvs H' h => ⟨h.ex, h.ld⟩) (fun D' M kvs H' H'' h e => h.mono e) (fun D' M kvs x H' Qv h hr hk hq => hq _ _ h.ld (h.snoc hr)) fun Ld kl0 H5 hL0 hk0 => ?_
    have part2 : ∀ t ∈ turnP sp L, t.1 ∈ L ∧ rp sp t.1 t.2 = [part0 sp t.1 t.2, part1 sp t.1 t.2] ∧ part0 sp t.1 t.2 ∈ L ∧ part1 sp t.1 t.2 ∈ L := fun t ht => by
      obtain ⟨x, hxL, hxm⟩ := List.mem_flatMap.mp ht
      obtain ⟨k, hk, rfl⟩ := List.mem_map.mp hxm
      obtain ⟨h1, h2⟩ := turnsK_two ok (cl.rm x hxL) hk
      refine ⟨hxL, h2, cl.cl x hxL k h1 _ ?_, cl.cl x hxL k h1 _ ?_⟩
      · rw [h2]
        exact List.mem_cons_self ..
      · rw [h2]
        exact List.mem_cons_of_mem _ (List.mem_cons_self ..)
    refine g_forB2 (B := Hm) (wb_list (vv_var rfl) hL0.ex (hF.ex _ _ hta) (kta.mono hF.ex)) (fun z hz => ?_) (fun i σ' H' => ∃ kl p9 p10 p11 p12 p13, σ' = TSt (.ref a) (.str (S r)) n fw (.ref ra) (.ref ta) Fd (some (.int (m : Int))) (some (.ref Ld)) p9 p10 p11 p12 p13 ∧ LDI Hm Ld L kl (accT (inner g sp (Ft g sp m) m) ((turnP sp L).take i)) H') (fun H6 e6 => ⟨kl0, p9, p10, p11, p12, p13, rfl, hL0.mono e6⟩) (fun i σ' H' ⟨_, _, _, _, _, _, _, h⟩ => h.ex) ?_ ?_
    · obtain ⟨t, _, rfl⟩ := List.mem_map.mp hz
      exact ⟨_, _, rfl⟩
    · rintro i da db v u σ' H6 H7 ez ⟨kl, p9, p10, p11, p12, p13, rfl, hL⟩ e6 dv du
      have hL := hL.mono e6
      obtain ⟨t, ht, et⟩ := map_at ez
      obtain ⟨rfl, rfl⟩ : da = .str t.1 ∧ db = .lst ((rp sp t.1 t.2).map Dt.str) := by
        unfold turnV at et
        simp at et
        exact et
      have htm : t ∈ turnP sp L := List.mem_of_getElem? ht
      obtain ⟨ht1, ht2, hp0, hp1⟩ := part2 t htm
      cases dv
      rw [ht2] at du
      have tk : (turnP sp L).take (i + 1) = (turnP sp L).take i ++ [t] := by
        rw [List.take_succ, ht] <;> rfl
      have nL : ∀ xs, H7 Ld ≠ some (.lst xs) := fun xs z => by
        rw [hL.ld] at z
        cases z
      have nT : ∀ xs, H7 Ld ≠ some (.tup xs) := fun xs z => by
        rw [hL.ld] at z
        cases z
      have du : Dq (hid H7 Ld) u (.lst [.str (part0 sp t.1 t.2), .str (part1 sp t.1 t.2)]) := du.hid nL nT
      refine s_forB (B := hid H7 Ld) (wb_range (n := (m : Int) + 1) (xa (xv (.int _)) ed_int rfl trivial) ⟨by omega, by omega⟩) (fun j σ' H' => ∃ kl p11 p12 p13, σ' = TSt (.ref a) (.str (S r)) n fw (.ref ra) (.ref ta) Fd (some (.int (m : Int))) (some (.ref Ld)) (some (.str (S t.1))) (some u) p11 p12 p13 ∧ Ex (hid H7 Ld) H' ∧ LDI Hm Ld L kl (fun x => accT (inner g sp (Ft g sp m) m) ((turnP sp L).take i) x + if t.1 = x then sumTo (term g (Ft g sp m) (part0 sp t.1 t.2) (part1 sp t.1 t.2) m) j else 0) H') (fun H8 e8 => ⟨kl, p11, p12, p13, rfl, hid_sub.trans e8, (hL.mono e8).congr fun x _ => by split <;> rfl⟩) (fun j σ' H' ⟨_, _, _, _, _, h, _⟩ => h) ?_ ?_
      · rintro j z vj σ' H8 H9 ez ⟨kl, p11, p12, p13, rfl, e8, hL⟩ e9 dj
        obtain ⟨hj, rfl⟩ := rngD_get ez
        cases dj
        have hj : j ≤ m := by omega
        have hL := hL.mono e9
        have hF9 := hF.mono hL.ex
        have du := (du.mono e8).mono e9
        obtain ⟨b0, v0, l0, _⟩ := hF9.at_ _ hp0
        obtain ⟨b1, v1, l1, _⟩ := hF9.at_ _ hp1
        have len0 : (Ft g sp m (part0 sp t.1 t.2)).length = m + 1 := Ft_len g sp _ m
        have len1 : (Ft g sp m (part1 sp t.1 t.2)).length = m + 1 := Ft_len g sp _ m
        have hmj : (m : Int) - (j : Int) = ((m - j : Nat) : Int) := by omega
        have pr := prod_le sm hj (part0 sp t.1 t.2) (part1 sp t.1 t.2)
        have ga := hg m j hm30 hj
        refine g_asgD (d := .int (((Ft g sp m (part0 sp t.1 t.2)).getD j 0 * (Ft g sp m (part1 sp t.1 t.2)).getD (m - j) 0 : Nat) : Int)) ?_ fun va H10 e10 da => ?_
        · refine EvD.to (ed_iC (i := ((Ft g sp m (part0 sp t.1 t.2)).getD j 0 : Nat)) (j := ((Ft g sp m (part1 sp t.1 t.2)).getD (m - j) 0 : Nat)) (ed_ix (a := .lst (intsD (Ft g sp m (part0 sp t.1 t.2)))) (ed_dget (vw_var rfl) (xi (xv du)) hF9.fd v0 (.lst l0 (dqa_ints _))) (xv (.int _)) (atI_nat (ints_at (by omega))) (by show (intsD _).length ≤ 100000; rw [ints_len]; omega)) (ed_ix (a := .lst (intsD (Ft g sp m (part1 sp t.1 t.2)))) (i := ((m - j : Nat) : Int)) (ed_dget (vw_var rfl) (xi (xv du)) hF9.fd v1 (.lst l1 (dqa_ints _))) (EvD.to (ed_i0 (xv (.int _)) (xv (.int _))) (congrArg Dt.int hmj)) (atI_nat (ints_at (by omega))) (by show (intsD _).length ≤ 100000; rw [ints_len]; omega)) (cmulW (sm _ j hj) (sm _ (m - j) (Nat.sub_le _ _)) (by omega))) ?_
          rw [Int.natCast_mul]
        · have hL := hL.mono e10
          cases da
          refine s_daug (vw_var rfl) (xv (.str t.1)) hL.ld (hL.at_ t.1 ht1) (j := ((term g (Ft g sp m) (part0 sp t.1 t.2) (part1 sp t.1 t.2) m j : Nat) : Int)) ?_ (by rw [keys_len hL.ks]; omega) fun H11 e11 => ?_
          · refine EvD.to (ed_iC (xv (.int _)) (ed_callL rfl (a2 (xv (.int (m : Int))) (xv (.int (j : Int)))) fun H1 e => ⟨m, j, rfl, by omega, hj, rfl⟩) (cmulW pr ga (by omega))) ?_
            rw [← Int.natCast_mul]
            rfl
          · rw [← Int.natCast_add]
            refine ⟨_, _, _, _, rfl, ex_put hid_same (((e8.trans e9).trans e10).trans e11), ((hL.mono e11).put (z := _) ht1).congr fun x hx => ?_⟩
            by_cases ex : x = t.1
            · subst ex
              rw [if_pos rfl, if_pos rfl, if_pos rfl, Nat.add_assoc]
              rfl
            · rw [if_neg ex, if_neg (fun z => ex z.symm), if_neg (fun z => ex z.symm)]
      · rintro σ' H8 ⟨kl, p11, p12, p13, rfl, e8, hL⟩
        rw [rngD_len] at hL
        have en : ((m : Int) + 1).toNat = m + 1 := by omega
        rw [en] at hL
        refine ⟨kl, _, _, p11, p12, p13, rfl, hL.congr fun x _ => ?_⟩
        rw [tk, accT_snoc]
        rfl
    · rintro σ' H6 ⟨kl, p9, p10, p11, p12, p13, rfl, hL⟩
      rw [List.length_map, List.take_length] at hL
      have hL : LDI Hm Ld L kl (stepF g sp (Ft g sp m) m) H6 := hL.congr fun x hx => accT_all _ sp x L cl.nd hx
      have hF6 := hF.mono hL.ex
      refine s_forB (B := H2) (wb_list (vv_var rfl) hF6.ex hra kra) (fun i σ' H' => ∃ p9 p10 p11 p12 p13, σ' = TSt (.ref a) (.str (S r)) n fw (.ref ra) (.ref ta) Fd (some (.int (m : Int))) (some (.ref Ld)) p9 p10 p11 p12 p13 ∧ FDI H2 Fd L kvs (fun x => if x ∈ L.take i then Ft g sp (m + 1) x else Ft g sp m x) H' ∧ H' Ld = some (.dK kl)) (fun H7 e7 => ⟨p9, p10, p11, p12, p13, rfl, (hF6.mono e7).congr fun x _ => by simp, e7 _ _ hL.ld⟩) (fun i σ' H' ⟨_, _, _, _, _, _, h, _⟩ => h.ex) ?_ ?_
      · rintro i z vx σ' H7 H8 ez ⟨p9, p10, p11, p12, p13, rfl, hF7, hl7⟩ e8 dx
        obtain ⟨x, hx, rfl⟩ := map_at ez
        cases dx
        have hF8 := hF7.mono e8
        have hl8 := e8 _ _ hl7
        have hxL := List.mem_of_getElem? hx
        have tk : L.take (i + 1) = L.take i ++ [x] := by
          rw [List.take_succ, hx] <;> rfl
        have hxi : x ∉ L.take i := fun hm => by
          have hnd : (L.take i ++ [x]).Nodup := by
            rw [← tk]
            exact cl.nd.sublist (List.take_sublist _ _)
          rw [List.nodup_append] at hnd
          exact hnd.2.2 x hm x (by simp) rfl
        obtain ⟨b, vb, lb, _⟩ := hF8.at_ x hxL
        rw [if_neg hxi] at lb
        refine s_append (C := fun d => d = .int (stepF g sp (Ft g sp m) m x : Nat)) (vv_dget (vw_var rfl) (xv (.str x)) hF8.fd vb) lb (by rw [intsV_len, Ft_len]; omega) (ed_dget (vw_var rfl) (xv (.str x)) hl8 (hL.at_ x hxL) (.int _)) fun v9 d9 H9 e9 ed9 dv9 => ?_
        subst ed9
        cases dv9
        have z := (hF8.mono e9).app (z := stepF g sp (Ft g sp m) m x) hxL vb
        have ev : (if x ∈ L.take i then Ft g sp (m + 1) x else Ft g sp m x) = Ft g sp m x := if_neg hxi
        rw [ev] at z
        refine ⟨_, _, _, _, _, rfl, z.congr fun y hy => ?_, ?_⟩
        · by_cases ey : y = x
          · rw [if_pos ey, ey, if_pos (by rw [tk]; simp)]
            rfl
          · rw [if_neg ey]
            by_cases em : y ∈ L.take i
            · rw [if_pos em, if_pos (by rw [tk]; exact List.mem_append_left _ em)]
            · rw [if_neg em, if_neg (fun q => by
                rw [tk] at q
                rcases List.mem_append.mp q with w | w
                · exact em w
                · rw [List.mem_singleton] at w
                  exact ey w)]
        · rw [upd_ne (fun q => by rw [← q, hl8] at lb; cases lb)]
          exact e9 _ _ hl8
      · rintro σ' H7 ⟨p9, p10, p11, p12, p13, rfl, hF7, hl7⟩
        rw [List.length_map, List.take_length] at hF7
        exact ⟨_, _, _, _, _, _, _, rfl, hF7.congr fun x hx => if_pos hx⟩
  · rintro σ' H4 ⟨p7, p8, p9, p10, p11, p12, p13, rfl, hF⟩
    rw [rngD_len] at hF
    have en : (n : Int).toNat = n := by omega
    rw [en] at hF
    obtain ⟨b, h1, h2, _⟩ := hF.at_ r cl.mem
    exact ⟨_, rfl, q Fd kvs b H4 ((e1.trans e2).trans hF.ex) hF.fd h1 h2⟩
end
end FW
set_option maxRecDepth 100000
set_option maxHeartbeats 8000000
namespace FW
open PySem L2
open Evl (Ex Ex.refl Ex.trans Ex.new Ex.mut EvT)
section
variable {K : PySem.W.Frag} {σ : St} {H : Hp}
/-- table(..)[start][cuts] -/
theorem ec_ttget {Cb fw : Addr} {g : Nat → Nat → Nat} {ta : TA} {ty tz : TE} {E : XK} {a : Addr} {sp : Spec} {r : List Nat} {n : Nat} (h : EvAD ta σ H [.obj a, .str r, .int (n : Int), .obj fw]) (hb : BkAt Cb a sp H) (ok : SpecOk sp) (hrm : rmOf r sp.fc) (hn : n ≤ 30) (hy : EvD ty σ H (.str r)) (hz : EvD tz σ H (.int (n : Int))) :
    EvD (tOp (rIxU K) (tDGet (tCall (spTT Cb g fw) [] E ta) ty) tz) σ H (.int (Fv g sp n r : Nat)) := by
  refine ed_ix (a := .lst (intsD (Ft g sp n r))) ?_ hz (atI_nat (ints_at (by rw [Ft_len]; omega))) (by show (intsD _).length ≤ 100000; rw [ints_len, Ft_len]; omega)
  refine fun H1 e Q q => h H1 e _ fun vs H2 e2 k => ?_
  obtain ⟨x, y, z, u, rfl, hx, hy', hz', hu⟩ := dqa4 k
  cases hx
  cases hy'
  cases hz'
  cases hu
  refine ⟨a, sp, r, n, rfl, hb.mono (e.trans e2), ok, hrm, hn, fun Fd kvs b H3 e3 hF hv hl => ?_⟩
  refine hy H3 ((e.trans e2).trans e3) _ fun y d' H4 e4 c k' => ?_
  subst c
  cases k'
  have gg := DGet.k (k := kS r) (e4 _ _ hF)
  rw [hv] at gg
  exact ⟨Fd, _, rfl, gg, q _ _ H4 ((e2.trans e3).trans e4) rfl (.lst (e4 _ _ hl) (dqa_ints _))⟩
end
section
variable {P : Program} {w : World} {K : PySem.W.Frag} {mg : Str → Option Value} {base : Heap} {Cb : Addr}
abbrev st_check_count : Stmt := top 37
theorem sc_check_count : FnScope ["book", "start", "cuts"] ["book", "start", "cuts"] (defScope st_check_count) := ⟨rfl, rfl, rfl, by decide +kernel, rfl, by decide +kernel, by decide +kernel⟩
def R_cc (Cb : Addr) (H : Hp) (ds : List Dt) (C : Dt → Prop) : Prop := ∃ a sp r n, ds = [.obj a, .str r, .int ((n : Nat) : Int)] ∧ BkAt Cb a sp H ∧ rmOf r sp.fc ∧ n ≤ 30 ∧ C = fun e => e = .non
abbrev P_cc : List Str := ["book", "start", "cuts"]
theorem c_check_count (T : Txt mg) (B : BkCls K Cb) (F : DefAt K mg "check_count" st_check_count) {t : Tok} (h_MOST_CUTS : mg "MOST_CUTS" = some (.int 30 t)) (C_check_room : Cal P w K mg base CX0 3 "check_room" ["book", "room"] (spR (R_ck Cb))) (C_is_number : Cal P w K mg base CX0 1 "is_number" ["value", "least", "most"] (spR R_is_number)) : Cal P w K mg base CX0 4 "check_count" P_cc (spR (R_cc Cb)) := by
  refine cal_of sc_check_count F (fun _ _ _ ⟨_, _, _, _, e, _⟩ => by rw [e]; rfl) (fun _ _ _ _ _ _ us hl => match us, hl with | [_, _, _], _ => rfl) fun f cdv A outer s H hr E => ?_
  refine ⟨_, (pss_cons (ps_expr (pe_cal C_check_room hr pass0 (pa_cons (pv 0) (pa_cons (pv 1) pa_nil))))
      (pss_one (ps_if (pt_not (pt_val (pe_cal C_is_number hr pass0 (pa_cons (pv 2) (pa_cons pe_int (pa_cons (pe_globI h_MOST_CUTS) pa_nil)))))) (pss_one ps_never) pss_nil))), ?_⟩
  rintro ds C vs hd ⟨a, sp, r, n, rfl, hb, hrm, hn, rfl⟩ D kr kn
  obtain ⟨x, y, z, rfl, hx, hy, hz⟩ := dqa3 hd
  refine g_drop (C := fun d => d = .non) (ed_call (a2 (xv hx) (xv hy)) fun H1 e => ⟨a, sp, r, rfl, hb.mono e, hrm, rfl⟩) fun v d H1 e1 _ _ => ?_
  refine s_ifD (b := false) (EvB.to (et_not (et_T (ed_call (a3 (xv (hz.mono e1)) ed_int ed_int) fun H1 e => ⟨.int (n : Int), 0, 30, rfl, trivial, rfl⟩))) ?_) (fun q => by cases q) fun _ H2 e2 => kn _ H2 (e1.trans e2) rfl
  show (!(decide ((0 : Int) ≤ (n : Int)) && decide ((n : Int) ≤ 30))) = false
  have h1 : decide ((0 : Int) ≤ (n : Int)) = true := decide_eq_true (by omega)
  have h2 : decide ((n : Int) ≤ 30) = true := decide_eq_true (by omega)
  rw [h1, h2] <;> rfl
def R_count (Cb : Addr) (g : Nat → Nat → Nat) (H : Hp) (ds : List Dt) (C : Dt → Prop) : Prop := ∃ a sp r n, ds = [.obj a, .str r, .int ((n : Nat) : Int)] ∧ BkAt Cb a sp H ∧ SpecOk sp ∧ rmOf r sp.fc ∧ n ≤ 30 ∧ C = fun e => e = .int (Fv g sp n r : Nat)
abbrev st_trees_of : Stmt := top 38
theorem sc_trees_of : FnScope ["book", "start", "cuts"] ["book", "start", "cuts"] (defScope st_trees_of) := ⟨rfl, rfl, rfl, by decide +kernel, rfl, by decide +kernel, by decide +kernel⟩
theorem c_trees_of (T : Txt mg) (B : BkCls K Cb) (F : DefAt K mg "trees_of" st_trees_of) {f1 : Addr} (h_one_way : mg "one_way" = some (.ref f1)) (C_check_count : Cal P w K mg base CX0 4 "check_count" P_cc (spR (R_cc Cb))) (C_tree_table : Cal P w K mg base CX0 8 "tree_table" P_tt (spTT Cb g1 f1)) : Cal P w K mg base CX0 9 "trees_of" P_cc (spR (R_count Cb g1)) := by
  refine cal_of sc_trees_of F (fun _ _ _ ⟨_, _, _, _, e, _⟩ => by rw [e]; rfl) (fun _ _ _ _ _ _ us hl => match us, hl with | [_, _, _], _ => rfl) fun f cdv A outer s H hr E => ?_
  refine ⟨_, (pss_cons (ps_expr (pe_cal C_check_count hr pass0 (pa_cons (pv 0) (pa_cons (pv 1) (pa_cons (pv 2) pa_nil)))))
      (pss_one (ps_ret (pe_ix ix_U (pe_dget (FW.Room.hu1 hr) (pe_cal C_tree_table hr pass0 (pa_cons (pv 0) (pa_cons (pv 1) (pa_cons (pv 2) (pa_cons (pe_globR h_one_way) pa_nil))))) (pv 1) (fun _ _ => rfl)) (pv 2) (fun _ _ => rfl))))), ?_⟩
  rintro ds C vs hd ⟨a, sp, r, n, rfl, hb, ok, hrm, hn, rfl⟩ D kr kn
  obtain ⟨x, y, z, rfl, hx, hy, hz⟩ := dqa3 hd
  refine g_drop (C := fun d => d = .non) (ed_call (a3 (xv hx) (xv hy) (xv hz)) fun H1 e => ⟨a, sp, r, n, rfl, hb.mono e, hrm, hn, rfl⟩) fun v d H1 e1 _ _ => ?_
  exact rtD (ec_ttget (a4 (xv (hx.mono e1)) (xv (hy.mono e1)) (xv (hz.mono e1)) ed_ref) (hb.mono e1) ok hrm hn (xv (hy.mono e1)) (xv (hz.mono e1))) e1 kr
abbrev st_histories_of : Stmt := top 39
theorem sc_histories_of : FnScope ["book", "start", "cuts"] ["book", "start", "cuts"] (defScope st_histories_of) := ⟨rfl, rfl, rfl, by decide +kernel, rfl, by decide +kernel, by decide +kernel⟩
theorem c_histories_of (T : Txt mg) (B : BkCls K Cb) (F : DefAt K mg "histories_of" st_histories_of) {f2 : Addr} (h_ways_between : mg "ways_between" = some (.ref f2)) (C_check_count : Cal P w K mg base CX0 4 "check_count" P_cc (spR (R_cc Cb))) (C_tree_table : Cal P w K mg base CX0 8 "tree_table" P_tt (spTT Cb g2 f2)) : Cal P w K mg base CX0 9 "histories_of" P_cc (spR (R_count Cb g2)) := by
  refine cal_of sc_histories_of F (fun _ _ _ ⟨_, _, _, _, e, _⟩ => by rw [e]; rfl) (fun _ _ _ _ _ _ us hl => match us, hl with | [_, _, _], _ => rfl) fun f cdv A outer s H hr E => ?_
  refine ⟨_, (pss_cons (ps_expr (pe_cal C_check_count hr pass0 (pa_cons (pv 0) (pa_cons (pv 1) (pa_cons (pv 2) pa_nil)))))
      (pss_one (ps_ret (pe_ix ix_U (pe_dget (FW.Room.hu1 hr) (pe_cal C_tree_table hr pass0 (pa_cons (pv 0) (pa_cons (pv 1) (pa_cons (pv 2) (pa_cons (pe_globR h_ways_between) pa_nil))))) (pv 1) (fun _ _ => rfl)) (pv 2) (fun _ _ => rfl))))), ?_⟩
  rintro ds C vs hd ⟨a, sp, r, n, rfl, hb, ok, hrm, hn, rfl⟩ D kr kn
  obtain ⟨x, y, z, rfl, hx, hy, hz⟩ := dqa3 hd
  refine g_drop (C := fun d => d = .non) (ed_call (a3 (xv hx) (xv hy) (xv hz)) fun H1 e => ⟨a, sp, r, n, rfl, hb.mono e, hrm, hn, rfl⟩) fun v d H1 e1 _ _ => ?_
  exact rtD (ec_ttget (a4 (xv (hx.mono e1)) (xv (hy.mono e1)) (xv (hz.mono e1)) ed_ref) (hb.mono e1) ok hrm hn (xv (hy.mono e1)) (xv (hz.mono e1))) e1 kr
end
end FW
set_option maxRecDepth 100000
set_option maxHeartbeats 8000000
namespace FW
open PySem L2
open Evl (Ex Ex.refl Ex.trans Ex.new Ex.mut EvT)
/-- the law's own binomials -/
def cn (m : Nat) : Nat → Nat
  | 0 => 1
  | i + 1 => cn m i * (m - i) / (i + 1)
theorem cn_le {m : Nat} (hm : m ≤ 64) : ∀ i, cn m i ≤ 2 ^ (6 * i)
  | 0 => Nat.le_refl 1
  | i + 1 => by
    have h1 := cn_le hm i
    show cn m i * (m - i) / (i + 1) ≤ _
    have h2 : m - i ≤ 2 ^ 6 := by
      have : (2 : Nat) ^ 6 = 64 := by decide
      omega
    refine Nat.le_trans (Nat.div_le_self _ _) (Nat.le_trans (Nat.mul_le_mul h1 h2) ?_)
    rw [← Nat.pow_add]
    exact Nat.pow_le_pow_right (by decide) (by omega)
theorem cn_g2_tab : ∀ m : Fin 31, ∀ j : Fin 31, j.val ≤ m.val → cn m.val j.val = g2 m.val j.val := by decide +kernel
theorem cn_g2 {m j : Nat} (hm : m ≤ 30) (hj : j ≤ m) : cn m j = g2 m j := cn_g2_tab ⟨m, by omega⟩ ⟨j, by omega⟩ hj
theorem fdivW {a b : Nat} {x : Nat} (hb : b < 2 ^ x) (h0 : 0 < b) (hx0 : 0 < x) (hx : x ≤ 9000) : CDivW (a : Int) (b : Int) := wide_div (by omega) (by rw [Int.natAbs_natCast]; exact hb) hx0 hx
section
variable {P : Program} {w : World} {K : PySem.W.Frag} {mg : Str → Option Value} {base : Heap} {Cb : Addr}
abbrev st_law_choose : Stmt := top 75
theorem sc_law_choose : FnScope ["_law_many", "_law_some", "_law_found", "_law_at"] ["_law_many", "_law_some"] (defScope st_law_choose) := ⟨rfl, rfl, rfl, by decide +kernel, rfl, by decide +kernel, by decide +kernel⟩
def R_choose (_ : Hp) (ds : List Dt) (C : Dt → Prop) : Prop := ∃ m s : Nat, ds = [.int (m : Int), .int (s : Int)] ∧ m ≤ 64 ∧ s ≤ m ∧ C = fun e => e = .int (cn m s : Nat)
theorem c_law_choose (T : Txt mg) (F : DefAt K mg "_law_choose" st_law_choose) : Cal P w K mg base CX0 1 "_law_choose" ["_law_many", "_law_some"] (spR R_choose) := by
  refine cal_of sc_law_choose F (fun _ _ _ ⟨_, _, e, _⟩ => by rw [e]; rfl) (fun _ _ _ _ _ _ us hl => match us, hl with | [_, _], _ => rfl) fun f cdv A outer s H hr E => ?_
  refine ⟨_, (pss_cons (ps_set (i := 2) sc_law_choose.nd rfl (Or.inl rfl) pe_int)
      (pss_cons (ps_for PassesOwn.never rfl (pi_range1 rfl T.range (pa_cons (pv 1) pa_nil)) (pg_name (i := 3) sc_law_choose.nd rfl (Or.inl rfl)) (pss_one (ps_set (i := 2) sc_law_choose.nd rfl (Or.inl rfl) (pe_op op_fdivW (pe_op op_mulW (pv 2) (pe_op op_sub (pv 0) (pv 3))) (pe_op op_addU (pv 3) pe_int)))))
      (pss_one (ps_ret (pv 2))))), ?_⟩
  rintro ds C vs hd ⟨m, s', rfl, hm, hs, rfl⟩ D kr kn
  obtain ⟨x, y, rfl, hx, hy⟩ := dqa2 hd
  cases hx
  cases hy
  refine g_asgD (d := .int 1) ed_int fun v H1 e1 dv => ?_
  cases dv
  refine g_forB1 (B := H) (wb_range (xv (.int (s' : Int))) ⟨by omega, by omega⟩) (fun i σ' H' => Ex H H' ∧ ∃ p, σ' = [some (.int (m : Int)), some (.int (s' : Int)), some (.int (cn m i : Nat)), p]) (fun H2 e2 => ⟨e1.trans e2, none, rfl⟩) (fun i σ' H' h => h.1) ?_ ?_
  · rintro i z v σ' H2 H3 ez ⟨e2, p, rfl⟩ e3 dv
    obtain ⟨hi, rfl⟩ := rngD_get ez
    cases dv
    have h1 : (m : Int) - (i : Int) = ((m - i : Nat) : Int) := by omega
    have h2 : ((i : Int) + 1) = ((i + 1 : Nat) : Int) := by omega
    have b1 := cn_le hm i
    have b2 : m - i ≤ 2 ^ 6 := by
      have : (2 : Nat) ^ 6 = 64 := by decide
      omega
    have b3 : i + 1 < 2 ^ 7 := by
      have : (2 : Nat) ^ 7 = 128 := by decide
      omega
    refine g_asgS (d := .int (cn m (i + 1) : Nat)) ?_ fun v H4 e4 dv => ?_
    · refine EvD.to (ed_iC (i := ((cn m i * (m - i) : Nat) : Int)) (j := ((i + 1 : Nat) : Int)) (EvD.to (ed_iC (j := ((m - i : Nat) : Int)) (xv (.int _)) (EvD.to (ed_i0 (xv (.int _)) (xv (.int _))) (congrArg Dt.int h1)) (cmulW b1 b2 (by omega))) (congrArg Dt.int (Int.natCast_mul _ _).symm)) (EvD.to (xa (xv (.int _)) ed_int rfl trivial) (congrArg Dt.int h2)) (fdivW b3 (Nat.succ_pos _) (by decide) (by decide))) ?_
      rw [← Int.natCast_ediv]
      rfl
    · cases dv
      exact ⟨(e2.trans e3).trans e4, _, rfl⟩
  · rintro σ' H2 ⟨e2, p, rfl⟩
    rw [rngD_len]
    have en : (s' : Int).toNat = s' := by omega
    rw [en]
    exact rtD (xv (.int _)) e2 kr
abbrev st_law_turns : Stmt := top 72
theorem sc_law_turns : FnScope ["_law_spec", "_law_rooms", "_law_found", "_law_room", "_law_cutter"] ["_law_spec", "_law_rooms"] (defScope st_law_turns) := ⟨rfl, rfl, rfl, by decide +kernel, rfl, by decide +kernel, by decide +kernel⟩
def R_law_turns (_ : Hp) (ds : List Dt) (C : Dt → Prop) : Prop := ∃ sp L, ds = [Spec.d sp, .lst (L.map Dt.str)] ∧ (sp.ls.length ≤ 8 ∧ sp.ct.length ≤ 3) ∧ L.length ≤ 1000 ∧ C = fun e => e = .lst (turnsL sp L)
theorem turns_len (sp : Spec) (ok : sp.ct.length ≤ 3) (L : List (List Nat)) : (turnsL sp L).length ≤ L.length * 3 := len_flat fun x _ => by
  rw [List.length_map]
  exact Nat.le_trans (List.length_filter_le _ _) ok
theorem c_law_turns (T : Txt mg) (F : DefAt K mg "_law_turns" st_law_turns) (C__law_cut : Cal P w K mg base CX0 4 "_law_cut" ["_law_spec", "_law_room", "_law_cutter"] (spR R_law_cut)) : Cal P w K mg base CX0 5 "_law_turns" ["_law_spec", "_law_rooms"] (spR R_law_turns) := by
  refine cal_of sc_law_turns F (fun _ _ _ ⟨_, _, e, _⟩ => by rw [e]; rfl) (fun _ _ _ _ _ _ us hl => match us, hl with | [_, _], _ => rfl) fun f cdv A outer s H hr E => ?_
  refine ⟨_, (pss_cons (ps_set (i := 2) sc_law_turns.nd rfl (Or.inl rfl) (pe_lst pa_nil))
      (pss_cons (ps_for PassesOwn.never rfl (pi_list (pv 1)) (pg_name (i := 3) sc_law_turns.nd rfl (Or.inr rfl)) (pss_one (ps_set (i := 2) sc_law_turns.nd rfl (Or.inl rfl) (pe_op op_addU (pv 2) (pe_lc (own := [("_law_cutter", 4)]) (g := gName 4) rfl sc_law_turns.nd (pi_str (pe_ix ix_U (pv 0) pe_int (fun _ _ => rfl))) (blkOk_by (own := [("_law_cutter", 4)]) (N := ["_law_spec", "_law_rooms", "_law_found", "_law_room", "_law_cutter"]) (sc := defScope st_law_turns) (by decide +kernel)) (fun _ _ _ _ _ => (pg_name (i := 4) sc_law_turns.nd rfl (Or.inl rfl))) (fun _ _ _ _ _ => pts_one (pt_hide (pt_cmpR op_ne (pe_cal C__law_cut hr pass0 (pa_cons (pv 0) (pa_cons (pv 3) (pa_cons (pv 4) pa_nil)))) pe_str (nomark _)))) (fun _ _ _ _ _ => pe_hide (pe_tup (pa_cons (pv 3) (pa_cons (pv 4) pa_nil)))))))))
      (pss_one (ps_ret (pv 2))))), ?_⟩
  rintro ds C vs hd ⟨sp, L, rfl, ok, hl, rfl⟩ D kr kn
  obtain ⟨x, y, rfl, hx, hy⟩ := dqa2 hd
  have l8 := ok.1
  have c3 := ok.2
  refine g_asgD (d := .lst []) (xL ad_nil) fun v H1 e1 dv => ?_
  refine g_for (ei_listD (xv (hy.mono e1))) fun xs B0 exs e0 => ?_
  subst exs
  refine ⟨fun i σ' H' => Ex B0 H' ∧ ∃ v p q, σ' = [some x, some y, some v, p, q] ∧ Dq H' v (.lst (turnsL sp (L.take i))), ⟨Ex.refl _, v, none, none, rfl, dv.mono e0⟩, fun i σ' H' h => h.1, ?_, ?_⟩
  · rintro i z u σ' H2 ez ⟨H0, ⟨e2, v, p, q, rfl, dv⟩, e3⟩ du
    obtain ⟨r, hr2, rfl⟩ := map_at ez
    have e4 : Ex H H2 := e1.trans (e0.trans (e2.trans e3))
    have hx := hx.mono e4
    have dv := dv.mono e3
    have tk : turnsL sp (L.take (i + 1)) = turnsL sp (L.take i) ++ (turnsK sp r).map (turnD r) := by
      unfold turnsL
      rw [List.take_succ, hr2, List.flatMap_append]
      simp
    have hlen : (turnsL sp (L.take (i + 1))).length ≤ 100000 := by
      have h1 := turns_len sp c3 (L.take (i + 1))
      have h2 := List.length_take_le (i + 1) L
      rw [List.length_take] at h1
      omega
    refine g_asgS (d := .lst (turnsL sp (L.take (i + 1)))) ?_ fun v H3 e5 dv => ⟨(e2.trans e3).trans e5, v, _, _, rfl, dv⟩
    refine xa (a := .lst (turnsL sp (L.take i))) (b := .lst ((turnsK sp r).map (turnD r))) (xv dv) ?_ (by rw [tk] <;> rfl) hlen
    refine EvD.to (ed_lcF (fun d => match d with | .str [k] => !decide (cutAt sp.ls r k = []) | _ => false) (fun d => match d with | .str [k] => turnD r k | _ => .non) (ei_str (xi (a := Spec.d sp) (xv hx))) (by rw [List.length_map]; omega) (fun _ => rfl) fun j z w B ez eB dz => ?_) ?_
    · obtain ⟨k, _, rfl⟩ := map_at ez
      exact ⟨EvB.to (et_B (xn (a := .str (cutAt sp.ls r k)) (ed_call (a3 (xv (hx.mono eB)) (xv (du.mono eB)) (xv dz)) fun H1 e => ⟨sp, r, k, rfl, by omega, rfl⟩) ed_str)) rfl, fun _ => xT (a2 (xv (du.mono eB)) (xv dz))⟩
    · rw [List.filter_map, List.map_map]
      rfl
  · rintro σ' H2 ⟨e2, v, p, q, rfl, dv⟩
    rw [List.length_map, List.take_length] at dv
    exact rtD (xv dv) (e1.trans (e0.trans e2)) kr
end
end FW
set_option maxRecDepth 100000
set_option maxHeartbeats 8000000
namespace FW
open PySem L2
open Evl (Ex Ex.refl Ex.trans Ex.new Ex.mut EvT)
theorem rp_twice {sp : Spec} (ok : SpecOk sp) {x : List Nat} {k : Nat} (h : is4 x) : (rp sp x k).Nodup ∨ ∀ y ∈ rp sp x k, y = x := by
  obtain ⟨n, e, s, w, rfl⟩ := h
  unfold rp
  rcases cutAt_ok ok.bok.cuts [n, e, s, w] k with h | ⟨o, a, b, h⟩
  · rw [h]
    left
    simp [partsL]
  · rw [h]
    by_cases ho : o = 124
    · have e1 : partsL [n, e, s, w] [o, a, b] = [[n, a, s, w], [n, e, s, b]] := by simp [partsL, ho]
      rw [e1]
      by_cases q : a = e ∧ w = b
      · right
        intro y hy
        simp at hy
        rcases hy with rfl | rfl
        · rw [q.1]
        · rw [q.2]
      · left
        simp
        intro z z2
        exact q ⟨z, z2⟩
    · have e1 : partsL [n, e, s, w] [o, a, b] = [[n, e, a, w], [b, e, s, w]] := by simp [partsL, ho]
      rw [e1]
      by_cases q : n = b ∧ a = s
      · right
        intro y hy
        simp at hy
        rcases hy with rfl | rfl
        · rw [q.2]
        · rw [q.1]
      · left
        simp
        intro z z2
        exact q ⟨z, z2⟩
theorem Half.addMany {sp : Spec} {r : List Nat} {n : Nat} : ∀ {zs : List (List Nat)} {L : List (List Nat)}, Half sp r L n → zs.Nodup → (∀ z ∈ zs, rmOf z sp.fc ∧ z ∉ L) → Half sp r (L ++ zs) n
  | [], L, h, _, _ => by rwa [List.append_nil]
  | z :: zs, L, h, nd, hz => by
    obtain ⟨h1, h2⟩ := List.nodup_cons.mp nd
    have e : L ++ z :: zs = (L ++ [z]) ++ zs := by simp
    rw [e]
    refine Half.addMany (h.add (hz z (List.mem_cons_self ..)).1 (hz z (List.mem_cons_self ..)).2) h2 fun y hy => ⟨(hz y (List.mem_cons_of_mem _ hy)).1, fun hm => ?_⟩
    rcases List.mem_append.mp hm with q | q
    · exact (hz y (List.mem_cons_of_mem _ hy)).2 q
    · rw [List.mem_singleton] at q
      exact h1 (q ▸ hy)
theorem op_niK (K : PySem.W.Frag) {X : Cx} (h : X.K = K := by rfl) : OpR X (compareOp .NotIn) (rIn K true) := by
  rw [← h]
  exact op_notIn_seq
section
variable {P : Program} {w : World} {K : PySem.W.Frag} {mg : Str → Option Value} {base : Heap} {Cb : Addr}
abbrev st_law_reached : Stmt := top 73
theorem sc_law_reached : FnScope ["_law_spec", "_law_start_z", "_law_found", "_law_done", "_law_turn", "_law_cutter", "_law_part_here"] ["_law_spec", "_law_start_z"] (defScope st_law_reached) := ⟨rfl, rfl, rfl, by decide +kernel, rfl, by decide +kernel, by decide +kernel⟩
def R_law_reached (_ : Hp) (ds : List Dt) (C : Dt → Prop) : Prop := ∃ sp r, ds = [Spec.d sp, .str r] ∧ SpecOk sp ∧ rmOf r sp.fc ∧ C = fun e => ∃ L, e = .lst (L.map Dt.str) ∧ Closed sp r L
abbrev P_lp : List Str := ["_law_spec", "_law_room", "_law_cutter"]
theorem c_law_reached (T : Txt mg) (F : DefAt K mg "_law_reached" st_law_reached) (C__law_parts : Cal P w K mg base CX0 5 "_law_parts" P_lp (spR R_law_parts)) : Cal P w K mg base CX0 6 "_law_reached" ["_law_spec", "_law_start_z"] (spR R_law_reached) := by
  refine cal_of sc_law_reached F (fun _ _ _ ⟨_, _, e, _⟩ => by rw [e]; rfl) (fun _ _ _ _ _ _ us hl => match us, hl with | [_, _], _ => rfl) fun f cdv A outer s H hr E => ?_
  refine ⟨_, (pss_cons (ps_asg (pe_tup (pa_cons (pe_lst (pa_cons (pv 1) pa_nil)) (pa_cons pe_int pa_nil))) (pg_tup rfl (pgs_cons (pg_name (i := 2) sc_law_reached.nd rfl (Or.inr rfl)) (pgs_cons (pg_name (i := 3) sc_law_reached.nd rfl (Or.inl rfl)) pgs_nil))))
      (pss_cons (ps_for PassesOwn.never rfl (pi_range1 rfl T.range (pa_cons pe_int pa_nil)) (pg_name (i := 4) sc_law_reached.nd rfl (Or.inl rfl)) (pss_cons (ps_if (pt_cmpR op_eq (pv 3) (pe_len T (pv 2)) (nomark _)) (pss_one (ps_ret (pv 2))) pss_nil)
        (pss_cons (ps_for PassesOwn.never rfl (pi_str (pe_ix ix_U (pv 0) pe_int (fun _ _ => rfl))) (pg_name (i := 5) sc_law_reached.nd rfl (Or.inl rfl)) (pss_one (ps_set (i := 2) sc_law_reached.nd rfl (Or.inr rfl) (pe_op op_addU (pv 2) (pe_lc (own := [("_law_part_here", 6)]) (g := gName 6) rfl sc_law_reached.nd (pi_list (pe_cal C__law_parts hr pass0 (pa_cons (pv 0) (pa_cons (pe_ix ix_U (pv 2) (pv 3) (fun _ _ => rfl)) (pa_cons (pv 5) pa_nil))))) (blkOk_by (own := [("_law_part_here", 6)]) (N := ["_law_spec", "_law_start_z", "_law_found", "_law_done", "_law_turn", "_law_cutter", "_law_part_here"]) (sc := defScope st_law_reached) (by decide +kernel)) (fun _ _ _ _ _ => (pg_name (i := 6) sc_law_reached.nd rfl (Or.inl rfl))) (fun _ _ _ _ _ => pts_one (pt_hide (pt_cmpR (op_niK K) (pv 6) (pv 2) rfl))) (fun _ _ _ _ _ => pe_hide (pv 6)))))))
        (pss_one (ps_set (i := 3) sc_law_reached.nd rfl (Or.inl rfl) (pe_op op_addU (pv 3) pe_int))))))
      (pss_one (ps_ret (pv 2))))), ?_⟩
  rintro ds C vs hd ⟨sp, r, rfl, ok, hrm, rfl⟩ D kr kn
  obtain ⟨x, y, rfl, hx, hy⟩ := dqa2 hd
  have l8 := ok.l8
  have l3 := ok.f3
  refine g_tup2 (A := fun d => d = .lst [.str r]) (B := fun d => d = .int 0) (xL (a1 (xv hy))) ed_int fun v0 w0 a0 b0 H1 e1 ea eb dv dw => ?_
  subst ea eb
  cases dw
  refine g_for (ei_rangeD ed_int ⟨by decide, by decide⟩) fun xs B0 exs e0 => ?_
  subst exs
  refine ⟨fun i σ' H' => Ex B0 H' ∧ ∃ L v p4 p5 p6, σ' = [some x, some y, some v, some (.int (i : Int)), p4, p5, p6] ∧ Dq H' v (.lst (L.map Dt.str)) ∧ Half sp r L i, ⟨Ex.refl _, [r], v0, none, none, none, rfl, dv.mono e0, ⟨by simp, by simp, fun z hz => by
    rw [List.mem_singleton] at hz
    rw [hz]
    exact hrm, Nat.zero_le _, fun i hi => absurd hi (Nat.not_lt_zero _)⟩⟩, fun i σ' H' h => h.1, ?_, ?_⟩
  · rintro i z u σ' H2 ez ⟨H0, ⟨e2, L, v, p4, p5, p6, rfl, dv, hf⟩, e3⟩ du
    obtain ⟨_, rfl⟩ := rngD_get ez
    have e4 : Ex H H2 := e1.trans (e0.trans (e2.trans e3))
    have hx := hx.mono e4
    have dv := dv.mono e3
    have ll := rooms_len l3 hf.nd hf.rm
    refine g_whenD (b := decide (i = L.length)) (EvB.to (tq (b := .int (L.length : Int)) (xv (.int (i : Int))) (EvD.to (xl (xv dv) rfl (by show List.length _ ≤ 100000; rw [List.length_map]; omega)) (by rw [List.length_map]))) (by show decide ((i : Int) = (L.length : Int)) = _; exact decide_eq_decide.mpr (by omega))) (fun hb H3 e5 => ?_) fun hb H3 e5 => ?_
    · have hi := of_decide_eq_true hb
      subst hi
      exact rtC (C := fun e => ∃ L, e = .lst (L.map Dt.str) ∧ Closed sp r L) (EvD.in (xv (dv.mono e5)) ⟨L, rfl, hf.closed⟩) (e4.trans e5) kr
    · have hi : i < L.length := by
        have h1 := of_decide_eq_false hb
        have h2 := hf.le
        omega
      obtain ⟨rm, hrm2⟩ : ∃ z, L[i]? = some z := ⟨L[i], by simp [hi]⟩
      have rmo := hf.rm rm (List.mem_of_getElem? hrm2)
      have hx := hx.mono e5
      refine g_for (ei_str (xi (a := Spec.d sp) (xv hx))) fun xs B1 exs e6 => ?_
      subst exs
      refine ⟨fun j σ' H' => Ex B1 H' ∧ ∃ L v p5 p6, σ' = [some x, some y, some v, some (.int (i : Int)), some u, p5, p6] ∧ Dq H' v (.lst (L.map Dt.str)) ∧ Half sp r L i ∧ L[i]? = some rm ∧ ∀ k ∈ sp.ct.take j, ∀ y ∈ rp sp rm k, y ∈ L, ⟨Ex.refl _, L, v, p5, p6, rfl, dv.mono (e5.trans e6), hf, hrm2, fun k hk => by simp at hk⟩, fun j σ' H' h => h.1, ?_, ?_⟩
      · rintro j z vc σ' H4 ez ⟨H0, ⟨e7, L, v, p5, p6, rfl, dv, hf, hrm3, hdone⟩, e8⟩ dz
        obtain ⟨k, hk, rfl⟩ := map_at ez
        have dv := dv.mono e8
        have hx := hx.mono (e6.trans (e7.trans e8))
        have ll := rooms_len l3 hf.nd hf.rm
        have nd : ((rp sp rm k).filter fun y => !decide (y ∈ L)).Nodup := by
          rcases rp_twice ok (k := k) rmo.1 with h | h
          · exact h.sublist List.filter_sublist
          · have : ((rp sp rm k).filter fun y => !decide (y ∈ L)) = [] := List.filter_eq_nil_iff.mpr fun y hy => by
              rw [h y hy]
              simp [List.mem_of_getElem? hrm3]
            rw [this]
            simp
        have hlen : (rp sp rm k).length ≤ 2 := by
          unfold rp
          obtain ⟨⟨a, b, c, d, rfl⟩, _⟩ := rmo
          rcases cutAt_ok ok.bok.cuts [a, b, c, d] k with h | ⟨o, x, y, h⟩
          · rw [h]
            simp [partsL]
          · rw [h]
            by_cases ho : o = 124
            · simp [partsL, ho]
            · simp [partsL, ho]
        have flen : ((rp sp rm k).filter fun y => !decide (y ∈ L)).length ≤ 2 := Nat.le_trans (List.length_filter_le _ _) hlen
        refine g_asgS (d := .lst ((L ++ (rp sp rm k).filter fun y => !decide (y ∈ L)).map Dt.str)) ?_ fun v9 H5 e9 d9 => ?_
        · refine xa (a := .lst (L.map Dt.str)) (b := .lst (((rp sp rm k).filter fun y => !decide (y ∈ L)).map Dt.str)) (xv dv) ?_ (by rw [List.map_append] <;> rfl) (by show List.length _ ≤ 100000; rw [List.length_map, List.length_append]; omega)
          refine EvD.to (ed_lcF (xs := (rp sp rm k).map Dt.str) (fun d => match d with | .str y => !decide (y ∈ L) | _ => false) (fun d => d) (ei_listD (ed_call (a3 (xv hx) (ed_ix (xv dv) (xv (.int (i : Int))) (atI_nat (by rw [List.getElem?_map, hrm3] <;> rfl)) (by show List.length _ ≤ 100000; rw [List.length_map]; omega)) (xv dz)) fun H1 e => ⟨sp, rm, k, rfl, by omega, rmo.1, ok.bok.cuts, rfl⟩)) (by rw [List.length_map]; omega) (fun _ => rfl) fun q z w B ez eB dz => ?_) ?_
          · obtain ⟨y, _, rfl⟩ := map_at ez
            exact ⟨EvB.to (et_B (ed_inL (neg := true) (ls := L) (xv dz) (.inl (xv (dv.mono eB))))) rfl, fun _ => xv dz⟩
          · rw [List.filter_map, List.map_map]
            rfl
        · refine ⟨(e7.trans e8).trans e9, _, v9, _, _, rfl, d9, hf.addMany nd (fun z hz => ?_), ?_, fun k' hk' y hy => ?_⟩
          · rw [List.mem_filter] at hz
            exact ⟨rp_rm ok rmo z hz.1, by simpa using hz.2⟩
          · have hnl : i < L.length := (List.getElem?_eq_some_iff.mp hrm3).1
            rw [List.getElem?_append_left hnl]
            exact hrm3
          · have tk : sp.ct.take (j + 1) = sp.ct.take j ++ [k] := by
              rw [List.take_succ, hk] <;> rfl
            rw [tk] at hk'
            rcases List.mem_append.mp hk' with q | q
            · exact List.mem_append_left _ (hdone k' q y hy)
            · rw [List.mem_singleton] at q
              rw [q] at hy
              by_cases hm : y ∈ L
              · exact List.mem_append_left _ hm
              · refine List.mem_append_right _ ?_
                rw [List.mem_filter]
                exact ⟨hy, by simp [hm]⟩
      · rintro σ' H4 ⟨e7, L, v, p5, p6, rfl, dv, hf, hrm3, hdone⟩
        rw [List.length_map, List.take_length] at hdone
        refine g_asgS (d := .int ((i : Int) + 1)) (xa (xv (.int (i : Int))) ed_int rfl trivial) fun v9 H5 e9 d9 => ?_
        cases d9
        refine ⟨((e2.trans e3).trans e5).trans ((e6.trans e7).trans e9), L, v, some u, p5, p6, by simp, dv.mono e9, ⟨hf.nd, hf.mem, hf.rm, (List.getElem?_eq_some_iff.mp hrm3).1, fun q hq z hz k hk y hy => ?_⟩⟩
        rcases Nat.lt_succ_iff_lt_or_eq.mp hq with h | h
        · exact hf.cl q h z hz k hk y hy
        · subst h
          rw [hrm3] at hz
          cases hz
          exact hdone k hk y hy
  · rintro σ' H2 ⟨e2, L, v, p4, p5, p6, rfl, dv, hf⟩
    exfalso
    have ll := rooms_len l3 hf.nd hf.rm
    have h1 := hf.le
    rw [rngD_len] at h1
    omega
end
end FW
set_option maxRecDepth 100000
set_option maxHeartbeats 8000000
namespace FW
open PySem L2
open Evl (Ex Ex.refl Ex.trans Ex.new Ex.mut EvT)
/-- the dict at Fd: for each room of L a list, by value -/
structure VDI (Hb : Hp) (Fd : Addr) (L : List (List Nat)) (kvs : List (L2.Key × V)) (val : List Nat → List Nat) (H' : Hp) : Prop where
  ex : Ex Hb H'
  fb : Hb Fd = none
  fd : H' Fd = some (.dK kvs)
  ks : keysL kvs L
  at_ : ∀ r ∈ L, ∃ v, valV kvs (kS r) = some v ∧ Dq (hid H' Fd) v (.lst (intsD (val r)))
theorem VDI.mono {Hb : Hp} {Fd : Addr} {L : List (List Nat)} {kvs : List (L2.Key × V)} {val : List Nat → List Nat} {H' H'' : Hp} (h : VDI Hb Fd L kvs val H') (e : Ex H' H'') : VDI Hb Fd L kvs val H'' := ⟨h.ex.trans e, h.fb, e _ _ h.fd, h.ks, fun r hr => by
  obtain ⟨v, h1, h2⟩ := h.at_ r hr
  exact ⟨v, h1, h2.mono (hid_mono e)⟩⟩
theorem VDI.congr {Hb : Hp} {Fd : Addr} {L : List (List Nat)} {kvs : List (L2.Key × V)} {val val' : List Nat → List Nat} {H' : Hp} (h : VDI Hb Fd L kvs val H') (e : ∀ r ∈ L, val r = val' r) : VDI Hb Fd L kvs val' H' := ⟨h.ex, h.fb, h.fd, h.ks, fun r hr => by
  rw [← e r hr]
  exact h.at_ r hr⟩
theorem VDI.put {Hb : Hp} {Fd : Addr} {M M' : List (List Nat)} {kvs : List (L2.Key × V)} {val : List Nat → List Nat} {H' : Hp} {r : List Nat} {v : V} {z : List Nat} (h : VDI Hb Fd M kvs val H') (hk : keysL (putK kvs (kS r) v) M') (hm : ∀ x ∈ M', x = r ∨ x ∈ M) (dv : Dq H' v (.lst (intsD z))) :
    VDI Hb Fd M' (putK kvs (kS r) v) (fun x => if x = r then z else val x) (upd H' Fd (.dK (putK kvs (kS r) v))) where
  ex := ex_put h.fb h.ex
  fb := h.fb
  fd := upd_same
  ks := hk
  at_ := fun x hx => by
    rw [hid_upd, valV_put]
    by_cases e : x = r
    · rw [if_pos (by rw [e])]
      show ∃ w, some v = some w ∧ Dq (hid H' Fd) w (.lst (intsD (if x = r then z else val x)))
      rw [if_pos e]
      exact ⟨v, rfl, dv.hid (fun xs q => by rw [h.fd] at q; cases q) (fun xs q => by rw [h.fd] at q; cases q)⟩
    · rw [if_neg (fun q => e (kS_inj q))]
      show ∃ w, valV kvs (kS x) = some w ∧ Dq (hid H' Fd) w (.lst (intsD (if x = r then z else val x)))
      rw [if_neg e]
      exact h.at_ x ((hm x hx).resolve_left e)
def gw (b : Bool) : Nat → Nat → Nat := if b then cn else g1
theorem gw_small (b : Bool) : Gb (gw b) := by
  cases b with
  | false => exact g1_small
  | true =>
    intro m j hm hj
    show cn m j ≤ _
    rw [cn_g2 (by omega) hj]
    exact g2_small m j hm hj
section
variable {K : PySem.W.Frag} {σ : St} {H : Hp} {D : Ends} {tz : TS}
theorem s_for {wi : TI} {j : Nat} {X : List Dt → Prop} {tu : TS} (hi : EvI wi σ H X)
    (hp : ∀ xs B0, X xs → Ex H B0 → ∃ Pv : Nat → St → Hp → Prop, Pv 0 σ B0 ∧ (∀ i σ' H', Pv i σ' H' → Ex B0 H') ∧
      (∀ (i : Nat) x v σ' H', xs[i]? = some x → (∃ H0, Pv i σ' H0 ∧ Ex H0 H') → Dq H' v x → tu { D with nx := Pv (i + 1), ct := Pv (i + 1), bk := D.nx } (σ'.set j (some v)) H') ∧ ∀ σ' H', Pv xs.length σ' H' → D.nx σ' H') :
    tFor wi (gName j) tu D σ H := g_for (tz := fun D => D.nx) hi hp
/-- x = {} -/
theorem g_newK {i : Nat} (k : ∀ L, H L = none → tz D (σ.set i (some (.ref L))) (upd H L (.dK []))) : tSeq (tAsg tDNewK (gName i)) tz D σ H := fun p hp => k p hp
end
section
variable {P : Program} {w : World} {K : PySem.W.Frag} {mg : Str → Option Value} {base : Heap} {Cb : Addr}
def spLTC : Sp := fun vs H Q _ => ∃ sp r n b, DqA H vs [Spec.d sp, .str r, .int ((n : Nat) : Int), .bl b] ∧ SpecOk sp ∧ rmOf r sp.fc ∧ n ≤ 30 ∧
  ∀ Fd kvs v H2, Ex H H2 → H2 Fd = some (.dK kvs) → valV kvs (kS r) = some v → Dq H2 v (.lst (intsD (Ft (gw b) sp n r))) → Q (.ref Fd) H2
abbrev P_ltc : List Str := ["_law_spec", "_law_start_z", "_law_cuts_z", "_law_woven"]
abbrev TC (x y : V) (n : Nat) (b : Bool) (vr : V) (Fd : Addr) (p6 p7 p8 p9 p10 p11 p12 p13 p14 : Option V) : St := [some x, some y, some (.int (n : Int)), some (.bl b), some vr, some (.ref Fd), p6, p7, p8, p9, p10, p11, p12, p13, p14]
abbrev st_law_tree_counts : Stmt := top 76
theorem sc_law_tree_counts : FnScope ["_law_spec", "_law_start_z", "_law_cuts_z", "_law_woven", "_law_rooms", "_law_found", "_law_room", "_law_many", "_law_late", "_law_total", "_law_name", "_law_cutter", "_law_parts_here", "_law_left", "_law_ways"] ["_law_spec", "_law_start_z", "_law_cuts_z", "_law_woven"] (defScope st_law_tree_counts) := ⟨rfl, rfl, rfl, by decide +kernel, rfl, by decide +kernel, by decide +kernel⟩
theorem c_law_tree_counts (T : Txt mg) (F : DefAt K mg "_law_tree_counts" st_law_tree_counts) (C__law_reached : Cal P w K mg base CX0 6 "_law_reached" ["_law_spec", "_law_start_z"] (spR R_law_reached)) (C__law_turns : Cal P w K mg base CX0 5 "_law_turns" ["_law_spec", "_law_rooms"] (spR R_law_turns)) (C__law_parts : Cal P w K mg base CX0 5 "_law_parts" P_lp (spR R_law_parts)) (C__law_choose : Cal P w K mg base CX0 1 "_law_choose" ["_law_many", "_law_some"] (spR R_choose)) : Cal P w K mg base CX0 7 "_law_tree_counts" P_ltc spLTC := by
  refine cal_ofS sc_law_tree_counts F (fun vs H Q E ⟨_, _, _, _, e, _⟩ => by rw [e.len]; rfl) (fun _ _ _ _ _ _ us hl => match us, hl with | [_, _, _, _], _ => rfl) fun f cdv A outer s H hr E => ?_
  refine ⟨_, (pss_cons (ps_par (i := 4) (j := 5) rfl sc_law_tree_counts.nd rfl rfl (by decide) rfl rfl (pa_cons (pe_cal C__law_reached hr pass0 (pa_cons (pv 0) (pa_cons (pv 1) pa_nil))) (pa_cons pe_dnewK pa_nil)) (by rfl))
      (pss_cons (ps_for PassesOwn.never rfl (pi_list (pv 4)) (pg_name (i := 6) sc_law_tree_counts.nd rfl (Or.inl rfl)) (pss_one (ps_dput (FW.Room.hu1 hr) (pv 5) (pv 6) (pe_lst (pa_cons pe_int pa_nil)) rfl)))
      (pss_cons (ps_for PassesOwn.never rfl (pi_range1 rfl T.range (pa_cons (pv 2) pa_nil)) (pg_name (i := 7) sc_law_tree_counts.nd rfl (Or.inl rfl)) (pss_cons (ps_set (i := 8) sc_law_tree_counts.nd rfl (Or.inl rfl) pe_dnewK)
        (pss_cons (ps_for PassesOwn.never rfl (pi_list (pv 4)) (pg_name (i := 6) sc_law_tree_counts.nd rfl (Or.inl rfl)) (pss_cons (ps_set (i := 9) sc_law_tree_counts.nd rfl (Or.inl rfl) pe_int)
          (pss_cons (ps_for PassesOwn.never rfl (pi_list (pe_cal C__law_turns hr pass0 (pa_cons (pv 0) (pa_cons (pe_lst (pa_cons (pv 6) pa_nil)) pa_nil)))) (pg_tup rfl (pgs_cons (pg_name (i := 10) sc_law_tree_counts.nd rfl (Or.inl rfl)) (pgs_cons (pg_name (i := 11) sc_law_tree_counts.nd rfl (Or.inl rfl)) pgs_nil))) (pss_cons (ps_set (i := 12) sc_law_tree_counts.nd rfl (Or.inl rfl) (pe_cal C__law_parts hr pass0 (pa_cons (pv 0) (pa_cons (pv 6) (pa_cons (pv 11) pa_nil)))))
            (pss_one (ps_for PassesOwn.never rfl (pi_range1 rfl T.range (pa_cons (pe_op op_addU (pv 7) pe_int) pa_nil)) (pg_name (i := 13) sc_law_tree_counts.nd rfl (Or.inl rfl)) (pss_cons (ps_set (i := 14) sc_law_tree_counts.nd rfl (Or.inl rfl) (pe_op op_mulW (pe_ix ix_U (pe_dget (FW.Room.hu1 hr) (pv 5) (pe_ix ix_U (pv 12) pe_int (fun _ _ => rfl)) (fun _ _ => rfl)) (pv 13) (fun _ _ => rfl)) (pe_ix ix_U (pe_dget (FW.Room.hu1 hr) (pv 5) (pe_ix ix_U (pv 12) pe_int (fun _ _ => rfl)) (fun _ _ => rfl)) (pe_op op_sub (pv 7) (pv 13)) (fun _ _ => rfl))))
              (pss_one (ps_set (i := 9) sc_law_tree_counts.nd rfl (Or.inl rfl) (pe_op op_addU (pv 9) (pe_op op_mulW (pv 14) (pe_ifExp (pt_val (pv 3)) (pe_cal C__law_choose hr pass0 (pa_cons (pv 7) (pa_cons (pv 13) pa_nil))) pe_int))))))))))
          (pss_one (ps_dput (FW.Room.hu1 hr) (pv 8) (pv 6) (pv 9) rfl)))))
        (pss_one (ps_for PassesOwn.never rfl (pi_list (pv 4)) (pg_name (i := 6) sc_law_tree_counts.nd rfl (Or.inl rfl)) (pss_one (ps_dput (FW.Room.hu1 hr) (pv 5) (pv 6) (pe_op op_addU (pe_dget (FW.Room.hu1 hr) (pv 5) (pv 6) (fun _ _ => rfl)) (pe_lst (pa_cons (pe_dget (FW.Room.hu1 hr) (pv 8) (pv 6) (fun _ _ => rfl)) pa_nil))) rfl)))))))
      (pss_one (ps_ret (pv 5)))))), ?_⟩
  rintro vs Q ⟨sp, r, n, b, hd, ok, hrm, hn, q⟩
  obtain ⟨x, y, z, u, rfl, hx, hy, hz, hu⟩ := dqa4 hd
  cases hz
  cases hu
  have l3 := ok.f3
  have c3 := ok.c3
  have l8 := ok.l8
  refine ed_call (C := fun e => ∃ L, e = .lst (L.map Dt.str) ∧ Closed sp r L) (a2 (xv hx) (xv hy)) (fun H1 e => ⟨sp, r, rfl, ok, hrm, rfl⟩) H (Ex.refl H) _ fun vr d H1 e1 hd dr => ?_
  obtain ⟨L, rfl, cl⟩ := hd
  intro Fd hFd
  refine ⟨vr, .ref Fd, rfl, ?_⟩
  have ll : L.length ≤ 81 := rooms_len l3 cl.nd cl.rm
  obtain ⟨ra, rvs, rfl, hra, kra⟩ := dq_lst dr
  have hx1 := hx.mono e1
  refine g_forB1 (B := H1) (wb_list (vv_var rfl) (Ex.new hFd) hra kra) (fun i σ' H' => ∃ kvs p6, σ' = TC x y n b (.ref ra) Fd p6 none none none none none none none none ∧ VDI H1 Fd (L.take i) kvs (fun _ => [1]) H') (fun H2 e2 => ⟨[], none, rfl, ⟨(Ex.new hFd).trans e2, hFd, e2 _ _ upd_same, rfl, fun _ h => by simp at h⟩⟩) (fun i σ' H' ⟨_, _, _, h⟩ => h.ex) ?_ ?_
  · rintro i zz v σ' H2 H3 ez ⟨kvs, p6, rfl, hV⟩ e3 dv
    obtain ⟨rr, hrr, rfl⟩ := map_at ez
    cases dv
    have hV := hV.mono e3
    have tk : L.take (i + 1) = L.take i ++ [rr] := by
      rw [List.take_succ, hrr] <;> rfl
    have hni : rr ∉ L.take i := fun hm => by
      have hnd : (L.take i ++ [rr]).Nodup := by
        rw [← tk]
        exact cl.nd.sublist (List.take_sublist _ _)
      rw [List.nodup_append] at hnd
      exact hnd.2.2 rr hm rr (by simp) rfl
    have kl := keys_len hV.ks
    have tl : (L.take i).length ≤ 81 := by
      rw [List.length_take]
      omega
    refine s_dput (C := fun d => d = .lst (intsD [1])) (xL (a1 ed_int)) (vw_var rfl) (xv (.str rr)) hV.fd (by omega) fun v d H4 e4 ed dv => ?_
    subst ed
    refine ⟨_, _, rfl, ((hV.mono e4).put (M' := L.take (i + 1)) (by rw [tk]; exact keys_put hV.ks hni) (fun x hx => by
      rw [tk] at hx
      rcases List.mem_append.mp hx with q | q
      · exact .inr q
      · exact .inl (List.mem_singleton.mp q)) dv).congr fun x _ => by split <;> rfl⟩
  · rintro σ' H2 ⟨kvs0, p6, rfl, hV⟩
    rw [List.length_map, List.take_length] at hV
    refine g_forB1 (B := H1) (wb_range (xv (.int (n : Int))) ⟨by omega, by omega⟩) (fun m σ' H' => ∃ kvs p6 p7 p8 p9 p10 p11 p12 p13 p14, σ' = TC x y n b (.ref ra) Fd p6 p7 p8 p9 p10 p11 p12 p13 p14 ∧ VDI H1 Fd L kvs (Ft (gw b) sp m) H') (fun H3 e3 => ⟨kvs0, _, _, _, _, _, _, _, _, _, rfl, (hV.mono e3).congr fun x _ => rfl⟩) (fun i σ' H' ⟨_, _, _, _, _, _, _, _, _, _, _, h⟩ => h.ex) ?_ ?_
    · rintro m zz vm σ' H3 Hm ez ⟨kvs, p6, p7, p8, p9, p10, p11, p12, p13, p14, rfl, hV⟩ e3 dm
      obtain ⟨hm, rfl⟩ := rngD_get ez
      cases dm
      have hV := hV.mono e3
      have hm30 : m < 30 := by omega
      have hg := gw_small b
      have sm : Small (Ft (gw b) sp m) m := Ft_small hg c3 m (by omega)
      refine g_newK fun Ld hLd => ?_
      have hLF : Ld ≠ Fd := fun z => by
        rw [z, hV.fd] at hLd
        cases hLd
      refine g_forB1 (B := Hm) (wb_list (vv_var rfl) (Ex.new hLd) (hV.ex _ _ hra) (kra.mono hV.ex)) (fun i σ' H' => ∃ kl p6 p9 p10 p11 p12 p13 p14, σ' = TC x y n b (.ref ra) Fd p6 (some (.int (m : Int))) (some (.ref Ld)) p9 p10 p11 p12 p13 p14 ∧ LDI Hm Ld (L.take i) kl (stepF (gw b) sp (Ft (gw b) sp m) m) H') (fun H4 e4 => ⟨[], _, _, _, _, _, _, _, rfl, ⟨(Ex.new hLd).trans e4, hLd, e4 _ _ upd_same, rfl, fun _ h => by simp at h⟩⟩) (fun i σ' H' ⟨_, _, _, _, _, _, _, _, _, h⟩ => h.ex) ?_ ?_
      · rintro i zz vx σ' H4 H5 ez ⟨kl, p6, p9, p10, p11, p12, p13, p14, rfl, hL⟩ e5 dx
        obtain ⟨rr, hrr, rfl⟩ := map_at ez
        cases dx
        have hL := hL.mono e5
        have hrL := List.mem_of_getElem? hrr
        have rro := cl.rm rr hrL
        have tk : L.take (i + 1) = L.take i ++ [rr] := by
          rw [List.take_succ, hrr] <;> rfl
        have hni : rr ∉ L.take i := fun hm => by
          have hnd : (L.take i ++ [rr]).Nodup := by
            rw [← tk]
            exact cl.nd.sublist (List.take_sublist _ _)
          rw [List.nodup_append] at hnd
          exact hnd.2.2 rr hm rr (by simp) rfl
        refine g_asgD (d := .int 0) ed_int fun v0 H6 e6 d0 => ?_
        cases d0
        have e1m : Ex H1 H6 := hV.ex.trans (hL.ex.trans e6)
        have hx6 := hx1.mono e1m
        have tOne : turnsL sp [rr] = (turnsK sp rr).map (turnD rr) := by
          unfold turnsL
          simp
        refine g_forP (ei_listD (ed_call (a2 (xv hx6) (xL (a1 (xv (.str rr))))) fun H1 e => ⟨sp, [rr], rfl, ⟨ok.l8, ok.c3⟩, by simp, rfl⟩)) (fun xs e z hz => ?_) fun xs B0 exs e7 => ?_
        · rw [e, tOne] at hz
          obtain ⟨k, _, rfl⟩ := List.mem_map.mp hz
          exact ⟨_, _, rfl⟩
        · subst exs
          rw [tOne]
          have hV7 := hV.mono ((hL.ex.trans e6).trans e7)
          have hx7 := hx6.mono e7
          refine ⟨fun j σ' H' => Ex B0 H' ∧ ∃ p10 p11 p12 p13 p14, σ' = TC x y n b (.ref ra) Fd (some (.str (S rr))) (some (.int (m : Int))) (some (.ref Ld)) (some (.int (((((turnsK sp rr).take j).map (inner (gw b) sp (Ft (gw b) sp m) m rr)).sum : Nat) : Int))) p10 p11 p12 p13 p14, ⟨Ex.refl _, p10, p11, p12, p13, p14, rfl⟩, fun j σ' H' h => h.1, ?_, ?_⟩
          · rintro j da db va vb σ' H8 ez ⟨H0, ⟨e8, p10, p11, p12, p13, p14, rfl⟩, e9⟩ dva dvb
            obtain ⟨k, hk, et⟩ := map_at ez
            obtain ⟨rfl, rfl⟩ : da = .str rr ∧ db = .str [k] := by
              unfold turnD at et
              simp at et
              exact et
            have hkm := List.mem_of_getElem? hk
            obtain ⟨hkc, hk2⟩ := turnsK_two ok rro hkm
            have hp0 : part0 sp rr k ∈ L := cl.cl rr hrL k hkc _ (by rw [hk2]; exact List.mem_cons_self ..)
            have hp1 : part1 sp rr k ∈ L := cl.cl rr hrL k hkc _ (by rw [hk2]; exact List.mem_cons_of_mem _ (List.mem_cons_self ..))
            have e78 := e8.trans e9
            refine g_asgD (d := .lst [.str (part0 sp rr k), .str (part1 sp rr k)]) (EvD.to (ed_call (C := fun d => d = .lst ((rp sp rr k).map Dt.str)) (a3 (xv (hx7.mono e78)) (xv (.str rr)) (xv dvb)) fun H1 e => ⟨sp, rr, k, rfl, by omega, rro.1, ok.bok.cuts, rfl⟩) (by rw [hk2] <;> rfl)) fun vp H9 e10 dvp => ?_
            have tks : (turnsK sp rr).take (j + 1) = (turnsK sp rr).take j ++ [k] := by
              rw [List.take_succ, hk] <;> rfl
            refine s_for (ei_rangeD (n := (m : Int) + 1) (xa (xv (.int (m : Int))) ed_int rfl trivial) ⟨by omega, by omega⟩) fun xs B1 exs e11 => ?_
            subst exs
            have hV9 := hV7.mono ((e78.trans e10).trans e11)
            refine ⟨fun l σ' H' => Ex B1 H' ∧ ∃ p13 p14, σ' = TC x y n b (.ref ra) Fd (some (.str (S rr))) (some (.int (m : Int))) (some (.ref Ld)) (some (.int (((((turnsK sp rr).take j).map (inner (gw b) sp (Ft (gw b) sp m) m rr)).sum + sumTo (term (gw b) (Ft (gw b) sp m) (part0 sp rr k) (part1 sp rr k) m) l : Nat) : Int))) (some va) (some vb) (some vp) p13 p14, ⟨Ex.refl _, p13, p14, rfl⟩, fun l σ' H' h => h.1, ?_, ?_⟩
            · rintro l zz vl σ' H10 ez2 ⟨H0', ⟨e12, p13, p14, rfl⟩, e13⟩ dl
              obtain ⟨hl, rfl⟩ := rngD_get ez2
              cases dl
              have hl : l ≤ m := by omega
              have hV10 := hV9.mono (e12.trans e13)
              have dvp := ((dvp.mono e11).mono e12).mono e13
              obtain ⟨w0, v0, d0⟩ := hV10.at_ _ hp0
              obtain ⟨w1, v1, d1⟩ := hV10.at_ _ hp1
              have d0 := d0.mono hid_sub
              have d1 := d1.mono hid_sub
              have len0 : (Ft (gw b) sp m (part0 sp rr k)).length = m + 1 := Ft_len _ sp _ m
              have len1 : (Ft (gw b) sp m (part1 sp rr k)).length = m + 1 := Ft_len _ sp _ m
              have hml : (m : Int) - (l : Int) = ((m - l : Nat) : Int) := by omega
              have pr := prod_le sm hl (part0 sp rr k) (part1 sp rr k)
              have ga := hg m l hm30 hl
              refine g_asgD (d := .int (((Ft (gw b) sp m (part0 sp rr k)).getD l 0 * (Ft (gw b) sp m (part1 sp rr k)).getD (m - l) 0 : Nat) : Int)) ?_ fun vw H11 e14 dw => ?_
              · refine EvD.to (ed_iC (i := ((Ft (gw b) sp m (part0 sp rr k)).getD l 0 : Nat)) (j := ((Ft (gw b) sp m (part1 sp rr k)).getD (m - l) 0 : Nat)) (ed_ix (a := .lst (intsD (Ft (gw b) sp m (part0 sp rr k)))) (ed_dget (vw_var rfl) (xi (xv dvp)) hV10.fd v0 d0) (xv (.int _)) (atI_nat (ints_at (by omega))) (by show (intsD _).length ≤ 100000; rw [ints_len]; omega)) (ed_ix (a := .lst (intsD (Ft (gw b) sp m (part1 sp rr k)))) (i := ((m - l : Nat) : Int)) (ed_dget (vw_var rfl) (xi (xv dvp)) hV10.fd v1 d1) (EvD.to (ed_i0 (xv (.int _)) (xv (.int _))) (congrArg Dt.int hml)) (atI_nat (ints_at (by omega))) (by show (intsD _).length ≤ 100000; rw [ints_len]; omega)) (cmulW (sm _ l hl) (sm _ (m - l) (Nat.sub_le _ _)) (by omega))) ?_
                rw [Int.natCast_mul]
              · cases dw
                refine g_asgS (d := .int (((((turnsK sp rr).take j).map (inner (gw b) sp (Ft (gw b) sp m) m rr)).sum + sumTo (term (gw b) (Ft (gw b) sp m) (part0 sp rr k) (part1 sp rr k) m) (l + 1) : Nat) : Int)) ?_ fun v9 H12 e15 d9 => ?_
                · refine EvD.to (xa (b := .int ((term (gw b) (Ft (gw b) sp m) (part0 sp rr k) (part1 sp rr k) m l : Nat) : Int)) (xv (.int _)) ?_ rfl trivial) ?_
                  · refine EvD.to (ed_iC (j := ((gw b m l : Nat) : Int)) (xv (.int _)) (ed_if (b := b) (et_T (xv (.bl b))) (fun hb => ?_) fun hb => ?_) (cmulW pr ga (by omega))) ?_
                    · subst hb
                      exact ed_call (C := fun d => d = .int ((cn m l : Nat) : Int)) (a2 (xv (.int (m : Int))) (xv (.int (l : Int)))) fun H1 e => ⟨m, l, rfl, by omega, hl, rfl⟩
                    · subst hb
                      exact ed_int
                    · rw [← Int.natCast_mul]
                      rfl
                  · show Dt.int _ = Dt.int _
                    rw [← Int.natCast_add, Nat.add_assoc]
                    rfl
                · cases d9
                  exact ⟨((e12.trans e13).trans e14).trans e15, _, _, rfl⟩
            · rintro σ' H10 ⟨e12, p13, p14, rfl⟩
              refine ⟨((e8.trans e9).trans e10).trans (e11.trans e12), some va, some vb, some vp, p13, p14, ?_⟩
              rw [tks, rngD_len]
              have en : ((m : Int) + 1).toNat = m + 1 := by omega
              rw [en, List.map_append, List.sum_append]
              simp [inner]
          · rintro σ' H8 ⟨e8, p10, p11, p12, p13, p14, rfl⟩
            rw [List.length_map, List.take_length]
            have hL8 := hL.mono ((e6.trans e7).trans e8)
            have kll := keys_len hL8.ks
            have tl : (L.take i).length ≤ 81 := by
              rw [List.length_take]
              omega
            refine s_dput (C := fun d => d = .int ((stepF (gw b) sp (Ft (gw b) sp m) m rr : Nat) : Int)) (xv (.int _)) (vw_var rfl) (xv (.str rr)) hL8.ld (by omega) fun v9 d9 H9 e9 ed d9' => ?_
            subst ed
            cases d9'
            have kn : valV kl (kS rr) = none := by
              have y := keys_none (l := rr) hL8.ks
              rw [decide_eq_false hni] at y
              simpa using y
            rw [putK_new _ kn]
            refine ⟨kl ++ [(kS rr, .int ((stepF (gw b) sp (Ft (gw b) sp m) m rr : Nat) : Int))], _, _, _, _, _, _, _, rfl, ?_⟩
            rw [tk]
            exact (hL8.mono e9).snoc hni
      · rintro σ' H4 ⟨kl, p6, p9, p10, p11, p12, p13, p14, rfl, hL⟩
        rw [List.length_map, List.take_length] at hL
        have hV4 := hV.mono hL.ex
        refine s_forB (B := H1) (wb_list (vv_var rfl) hV4.ex hra kra) (fun i σ' H' => ∃ kvs p6 p9 p10 p11 p12 p13 p14, σ' = TC x y n b (.ref ra) Fd p6 (some (.int (m : Int))) (some (.ref Ld)) p9 p10 p11 p12 p13 p14 ∧ VDI H1 Fd L kvs (fun x => if x ∈ L.take i then Ft (gw b) sp (m + 1) x else Ft (gw b) sp m x) H' ∧ H' Ld = some (.dK kl)) (fun H5 e5 => ⟨kvs, p6, _, _, _, _, _, _, rfl, (hV4.mono e5).congr fun x _ => by simp, e5 _ _ hL.ld⟩) (fun i σ' H' ⟨_, _, _, _, _, _, _, _, _, h, _⟩ => h.ex) ?_ ?_
        · rintro i zz vx σ' H5 H6 ez ⟨kvs, p6, p9, p10, p11, p12, p13, p14, rfl, hV5, hl5⟩ e6 dx
          obtain ⟨rr, hrr, rfl⟩ := map_at ez
          cases dx
          have hV6 := hV5.mono e6
          have hl6 := e6 _ _ hl5
          have hrL := List.mem_of_getElem? hrr
          have tk : L.take (i + 1) = L.take i ++ [rr] := by
            rw [List.take_succ, hrr] <;> rfl
          have hni : rr ∉ L.take i := fun hm => by
            have hnd : (L.take i ++ [rr]).Nodup := by
              rw [← tk]
              exact cl.nd.sublist (List.take_sublist _ _)
            rw [List.nodup_append] at hnd
            exact hnd.2.2 rr hm rr (by simp) rfl
          obtain ⟨wv, hv, dwv⟩ := hV6.at_ rr hrL
          rw [if_neg hni] at dwv
          have kl2 := keys_len hV6.ks
          refine s_dput (C := fun d => d = .lst (intsD (Ft (gw b) sp (m + 1) rr))) (xa (a := .lst (intsD (Ft (gw b) sp m rr))) (b := .lst (intsD [stepF (gw b) sp (Ft (gw b) sp m) m rr])) (ed_dget (vw_var rfl) (xv (.str rr)) hV6.fd hv (dwv.mono hid_sub)) (xL (a1 (ed_dget (vw_var rfl) (xv (.str rr)) hl6 (hL.at_ rr hrL) (.int _)))) ?_ ?_) (vw_var rfl) (xv (.str rr)) hV6.fd (by omega) fun v9 d9 H9 e9 ed d9' => ?_
          · show some (Dt.lst (intsD _ ++ intsD _)) = some (Dt.lst (intsD (Ft (gw b) sp m rr ++ [stepF (gw b) sp (Ft (gw b) sp m) m rr])))
            unfold intsD
            rw [← List.map_append]
          · show (intsD _).length ≤ 100000
            rw [ints_len, Ft_len]
            omega
          · subst ed
            refine ⟨_, _, _, _, _, _, _, _, rfl, ((hV6.mono e9).put (M' := L) (keys_put_old hV6.ks hrL) (fun x hx => .inr hx) d9').congr fun y hy => ?_, ?_⟩
            · by_cases ey : y = rr
              · rw [if_pos ey, ey, if_pos (by rw [tk]; simp)]
              · rw [if_neg ey]
                by_cases em : y ∈ L.take i
                · rw [if_pos em, if_pos (by rw [tk]; exact List.mem_append_left _ em)]
                · rw [if_neg em, if_neg (fun q => by
                    rw [tk] at q
                    rcases List.mem_append.mp q with w | w
                    · exact em w
                    · rw [List.mem_singleton] at w
                      exact ey w)]
            · rw [upd_ne hLF]
              exact e9 _ _ hl6
        · rintro σ' H5 ⟨kvs, p6, p9, p10, p11, p12, p13, p14, rfl, hV5, hl5⟩
          rw [List.length_map, List.take_length] at hV5
          exact ⟨kvs, _, _, _, _, _, _, _, _, _, rfl, hV5.congr fun x hx => if_pos hx⟩
    · rintro σ' H3 ⟨kvs, p6, p7, p8, p9, p10, p11, p12, p13, p14, rfl, hV⟩
      rw [rngD_len] at hV
      have en : (n : Int).toNat = n := by omega
      rw [en] at hV
      obtain ⟨v, h1, h2⟩ := hV.at_ r cl.mem
      exact ⟨_, rfl, q Fd kvs v H3 (e1.trans hV.ex) hV.fd h1 (h2.mono hid_sub)⟩
end
end FW
set_option maxRecDepth 100000
set_option maxHeartbeats 4000000
/-! # FR9: the bag: a list that a caller does not look into -/
namespace FW
open PySem L2
open Evl (Ex Ex.refl Ex.trans Ex.new Ex.mut EvT)
def bagV (l : Addr) (i r m c : Int) : List V := [.ref l, .int i, .int r, .int m, .int c]
def bagOk (i r m : Int) : Prop := 0 ≤ i ∧ 0 ≤ r ∧ 0 ≤ m ∧ m < 2147483648
def BagO (b l : Addr) : HO := .ext fun h => ∃ (its : List Value) (n : Nat) (i r m c : Int), Vals (bagV l i r m c) its ∧ h.get? b = some ({ cls := .type "list", data := .seq its.toArray n } : Obj) ∧ bagOk i r m
theorem bago_lst {b l : Addr} {xs : List V} : BagO b l ≠ .lst xs := fun z => by
  have z' : HO.ext _ = HO.lst xs := z
  cases z'
theorem bago_tup {b l : Addr} {xs : List V} : BagO b l ≠ .tup xs := fun z => by
  have z' : HO.ext _ = HO.tup xs := z
  cases z'
theorem bago_own {b l x : Addr} : BagO b l ≠ .own x := fun z => by
  have z' : HO.ext _ = HO.own x := z
  cases z'
theorem bago_frz {b l : Addr} {o : Obj} {u : HO} : BagO b l ≠ .frz o u := fun z => by
  have z' : HO.ext _ = HO.frz o u := z
  cases z'
theorem bago_tbl {b l : Addr} {ps : Array Value} : BagO b l ≠ .tbl ps := fun z => by
  have z' : HO.ext _ = HO.tbl ps := z
  cases z'
section
variable {X : Cx} {pins : List (Addr × Obj)} {σ : St} {H : Hp} {s : Shared} {b l : Addr}
theorem bago_ok {P : Program} {w : World} {H : Hp} {h : Heap} {its : List Value} {n : Nat} {i r m c : Int} (rv : Vals (bagV l i r m c) its) (ho : h.get? b = some ({ cls := .type "list", data := .seq its.toArray n } : Obj)) (hb : bagOk i r m) : ObjOk P w H h b (BagO b l) :=
  ⟨⟨its, n, i, r, m, c, rv, ho, hb⟩, ⟨_, ho⟩, fun h1 h2 z k => by
    obtain ⟨its, n, i, r, m, c, rv, ho, hb⟩ := z
    exact ⟨its, n, i, r, m, c, rv, k _ ho, hb⟩⟩
theorem bago_at {P : Program} {w : World} {h : Heap} (hok : HOk P w H h) (e : H b = some (BagO b l)) : ∃ (its : List Value) (n : Nat) (i r m c : Int), Vals (bagV l i r m c) its ∧ h.get? b = some ({ cls := .type "list", data := .seq its.toArray n } : Obj) ∧ bagOk i r m := by
  have x : ObjOk P w H h b (.ext fun h => ∃ (its : List Value) (n : Nat) (i r m c : Int), Vals (bagV l i r m c) its ∧ h.get? b = some ({ cls := .type "list", data := .seq its.toArray n } : Obj) ∧ bagOk i r m) := hok b _ e
  exact x.1
/-- the same heap told otherwise at one place -/
theorem inv_retype {o u : HO} (I : Inv X pins σ H s) (e : H b = some o) (n1 : ∀ xs, o ≠ .tup xs) (n2 : ∀ q v, o ≠ .frz q v) (n3 : ∀ ps, o ≠ .tbl ps) (n4 : ∀ x, o ≠ .own x) (hu : ObjOk X.prog X.w (upd H b u) s.heap b u) : Inv X pins σ (upd H b u) s := by
  have na : ∀ {c : Addr}, H c = none → c ≠ b := fun {c} n z => by
    rw [z, e] at n
    cases n
  have dn : ∀ {c : Addr} {v : HO}, H c = some v → o ≠ v → c ≠ b := fun {c v} hc d z => by
    rw [z, e] at hc
    exact d (Option.some.inj hc)
  have U : Un X.fs [] H (upd H b u) s.heap s.heap := {
    keep := fun c o q n _ _ => q
    slot := fun c o q n _ _ => ⟨o.slots, q⟩
    free := fun c o q n _ => by rw [upd_ne (na n)]; exact n
    there := fun c o q _ => ⟨o, q⟩
    tups := fun c xs q => by rw [upd_ne (dn q (n1 xs))]; exact q
    frzs := fun c o v q => by rw [upd_ne (dn q (n2 o v))]; exact q
    tbls := fun c ps q => ⟨#[], by rw [upd_ne (dn q (n3 ps)), q]; simp⟩ }
  have J := I.un (t' := s.toks) U fun c v q => by
    by_cases hc : c = b
    · subst hc
      rw [upd_same] at q
      cases q
      exact hu
    · rw [upd_ne hc] at q
      exact (I.hok c v q).stay (fun d w hd z => z) (fun d hd => by rw [upd_ne (dn hd (n4 _))]; exact hd) (fun d xs hd => by rw [upd_ne (dn hd (n1 xs))]; exact hd)
  exact J
theorem inv_open (I : Inv X pins σ H s) (e : H b = some (BagO b l)) : ∃ i r m c, bagOk i r m ∧ Inv X pins σ (upd H b (.lst (bagV l i r m c))) s := by
  obtain ⟨its, n, i, r, m, c, rv, ho, hb⟩ := bago_at I.hok e
  exact ⟨i, r, m, c, hb, inv_retype I e (fun _ => bago_tup) (fun _ _ => bago_frz) (fun _ => bago_tbl) (fun _ => bago_own) ⟨by show 5 ≤ sizeLine; decide, its, n, rv, ho⟩⟩
theorem inv_close {i r m c : Int} (I : Inv X pins σ H s) (e : H b = some (.lst (bagV l i r m c))) (hb : bagOk i r m) : Inv X pins σ (upd H b (BagO b l)) s := by
  obtain ⟨hz, its, n, rv, ho⟩ := I.hok b _ e
  exact inv_retype I e (fun _ => by intro q; cases q) (fun _ _ => by intro q; cases q) (fun _ => by intro q; cases q) (fun _ => by intro q; cases q) (bago_ok rv ho hb)
/-- a call by which the bag is opened -/
def tCallO (sp : Sp) (t : TA) : TE := fun σ H Q => t σ H fun vs H1 => ∃ b l, H1 b = some (BagO b l) ∧ ∀ i r m c, bagOk i r m → sp vs (upd H1 b (.lst (bagV l i r m c))) (fun v H2 => ∃ i' r' m' c', bagOk i' r' m' ∧ H2 b = some (.lst (bagV l i' r' m' c')) ∧ Q v (upd H2 b (BagO b l))) E0
theorem pe_calO {e : Expr} {es : List Expr} {t : TA} {p pos : Pos} {k j : Nat} {x : Str} {ps : List Str} {sp : Sp} (C : Cal X.prog X.w X.K X.mg X.base CX0 k x ps sp) (hr : Room j X.A) (ha : PA X (e :: es) t) (hk : k ≤ j := by decide) (hg : Gl X x := by rfl) (hd : (x == ("__debug__" : Str)) = false := by decide)
    (he : starEach (e :: es) X.env = (false, eval e X.env) :: starEach es X.env := by rfl) (hpl : (backTo pos (starEach es X.env)).any (·.1) = false := by rfl) : PE X (.Call (.Name x p) (e :: es) [] pos) (tCallO sp t) := by
  obtain ⟨f, fd, hm, hkp, F, hb⟩ := C.ex
  refine ⟨fun pins s σ H Q I h => ?_⟩
  refine wpAny_Call_Name_kw (ld_glob I hg hm ?_ hd)
  refine PySem.W.callWith_K (h₀ := X.base) I.ok.mod.kin hkp (thn (ha.run pos pins s σ H _ I h) fun us s1 ⟨vs, H1, I1, r, b, l, hB, q⟩ => ⟨I1.kIn, ?_⟩) he hpl
  obtain ⟨i, r', m, c, bd, I2⟩ := inv_open I1 hB
  have z := q i r' m c bd
  refine thn (Q := EP X pins σ fun v H2 => ∃ i' r' m' c', bagOk i' r' m' ∧ H2 b = some (.lst (bagV l i' r' m' c')) ∧ Q v (upd H2 b (BagO b l))) (run_fn (dvs := []) F (hr.mono hk) hb .nil pass0 I2 r (by rw [List.append_nil]; exact z)) fun u s2 ⟨v, H2, I3, rv, i', r2, m', c', bd', hl, q2⟩ => ⟨v, _, inv_close I3 hl bd', rv, q2⟩
end
/-! ### numbers -/
section
variable {X : Cx} {a : Expr} {ta : TE} {p pos : Pos}
theorem op_mulK : OpR X (binaryOp .Mult) (rI IntMulOk fun i j => .int (i * j)) := opI fun _ _ _ _ _ _ _ hc q => PyProof.Rows.mul_int q hc
def rIntI : List V → Hp → VK → Prop := fun xs H Q => (∃ i, xs = [.int i] ∧ Q (.int i) H) ∨ ∃ k, xs = [.bl k] ∧ Q (.int (if k then 1 else 0)) H
def rAbsI : List V → Hp → VK → Prop := fun xs H Q => ∃ i, xs = [.int i] ∧ Q (.int (if i < 0 then -i else i)) H
theorem call_intI : CallR X (.type "int") rIntI := call_int1
theorem call_absI : CallR X (.builtin "abs") rAbsI := call_abs
theorem pe_intC (T : Txt X.mg) (ha : PE X a ta) (hg : Gl X "int" := by rfl) (hs : starEach (a :: []) X.env = (false, eval a X.env) :: starEach [] X.env := by rfl) (hpl : (backTo pos (starEach [] X.env)).any (·.1) = false := by rfl) : PE X (.Call (.Name "int" p) [a] [] pos) (tCB rIntI (tCons ta tNil)) :=
  pe_callTy call_intI hg T.int PyProof.Rows.boot_int (pa_cons ha pa_nil hs) (by decide) (by decide) hs hpl
theorem pe_absC (T : Txt X.mg) (ha : PE X a ta) (hg : Gl X "abs" := by rfl) (hs : starEach (a :: []) X.env = (false, eval a X.env) :: starEach [] X.env := by rfl) (hpl : (backTo pos (starEach [] X.env)).any (·.1) = false := by rfl) : PE X (.Call (.Name "abs" p) [a] [] pos) (tCB rAbsI (tCons ta tNil)) :=
  pe_callB call_absI hg T.abs PyProof.Rows.boot_abs (pa_cons ha pa_nil hs) (by decide) (by decide) hs hpl
end
theorem mulOk_r {a b : Int} (h : b.natAbs < 2 ^ 63) : IntMulOk a b := by
  refine IntMulOk.of_right ?_
  unfold Builtin.Int.intBits
  split
  · omega
  · have := PySem.Flt.log2_lt_of (n := b.natAbs) (k := 63) (by decide) h
    omega
section
variable {K : PySem.W.Frag} {σ : St} {H : Hp} {ta tb te to : TE} {D : Ends} {tz : TS} {C : Dt → Prop}
theorem ed_intI {i : Int} (ha : EvD ta σ H (.int i)) : EvD (tCB rIntI (tCons ta tNil)) σ H (.int i) := ec_cbD (a1 ha) fun vs H1 _ k Q q => by
  obtain ⟨x, rfl, hx⟩ := dqa1 k
  cases hx
  exact .inl ⟨i, rfl, q _ _ H1 (Ex.refl H1) rfl (.int i)⟩
theorem ed_absI {i : Int} (ha : EvD ta σ H (.int i)) : EvD (tCB rAbsI (tCons ta tNil)) σ H (.int (if i < 0 then -i else i)) := ec_cbD (a1 ha) fun vs H1 _ k Q q => by
  obtain ⟨x, rfl, hx⟩ := dqa1 k
  cases hx
  exact ⟨i, rfl, q _ _ H1 (Ex.refl H1) rfl (.int _)⟩
/-- xs[k] = e -/
theorem g_setL {b : Addr} {xs : List V} {k : Int} {j : Nat} {d : Dt} (h : EvD te σ H d) (ho : EvW to σ H (.ref b)) (hb : H b = some (.lst xs)) (hj : ixN xs.length k = some j) (c : ∀ v H1, Ex H H1 → Dq H1 v d → tz D σ (upd H1 b (.lst (xs.set j v)))) : tSeq (tAsg te (gSub to (tC (.int k)) rSetL)) tz D σ H :=
  h H (Ex.refl H) _ fun v d' H1 e1 ed dv => ho H1 e1 _ fun H2 e2 => by
    subst ed
    exact ⟨b, xs, k, j, rfl, rfl, (e1.trans e2) _ _ hb, hj, c v H2 (e1.trans e2) (dv.mono e2)⟩
theorem s_setL {b : Addr} {xs : List V} {k : Int} {j : Nat} {d : Dt} (h : EvD te σ H d) (ho : EvW to σ H (.ref b)) (hb : H b = some (.lst xs)) (hj : ixN xs.length k = some j) (c : ∀ v H1, Ex H H1 → Dq H1 v d → D.nx σ (upd H1 b (.lst (xs.set j v)))) : tAsg te (gSub to (tC (.int k)) rSetL) D σ H :=
  h H (Ex.refl H) _ fun v d' H1 e1 ed dv => ho H1 e1 _ fun H2 e2 => by
    subst ed
    exact ⟨b, xs, k, j, rfl, rfl, (e1.trans e2) _ _ hb, hj, c v H2 (e1.trans e2) (dv.mono e2)⟩
end
def intsZ (zs : List Int) : List Dt := zs.map Dt.int
theorem dqa_intsZ {H : Hp} : ∀ zs : List Int, DqA H (zs.map V.int) (intsZ zs)
  | [] => .nil
  | z :: zs => .cons (.int z) (dqa_intsZ zs)
/-- the bag is there, its script too -/
structure Bag (b l : Addr) (zs : List Int) (H : Hp) : Prop where
  bag : H b = some (BagO b l)
  scr : H l = some (.lst (zs.map V.int))
  len : zs.length ≤ 63
theorem Bag.mono {b l : Addr} {zs : List Int} {H H' : Hp} (h : Bag b l zs H) (e : Ex H H') : Bag b l zs H' := ⟨e _ _ h.bag, e _ _ h.scr, h.len⟩
/-- the bag open -/
structure BgL (b l : Addr) (zs : List Int) (H0 : Hp) (i r m c : Int) (H : Hp) : Prop where
  ex : Ex (hid H0 b) H
  bag : H b = some (.lst (bagV l i r m c))
  scr : H l = some (.lst (zs.map V.int))
theorem BgL.mono {b l : Addr} {zs : List Int} {H0 H H' : Hp} {i r m c : Int} (h : BgL b l zs H0 i r m c H) (e : Ex H H') : BgL b l zs H0 i r m c H' := ⟨h.ex.trans e, e _ _ h.bag, e _ _ h.scr⟩
theorem BgL.dq {b l : Addr} {zs : List Int} {H0 H : Hp} {i r m c : Int} (h : BgL b l zs H0 i r m c H) : Dq H (.ref b) (.lst [.lst (intsZ zs), .int i, .int r, .int m, .int c]) :=
  .lst h.bag (.cons (.lst h.scr (dqa_intsZ zs)) (.cons (.int i) (.cons (.int r) (.cons (.int m) (.cons (.int c) .nil)))))
def spDrawL : Sp := fun vs H Q _ => ∃ b l zs many i r m c, vs = [.ref b, .int many] ∧ H b = some (.lst (bagV l i r m c)) ∧ H l = some (.lst (zs.map V.int)) ∧ l ≠ b ∧ zs.length ≤ 63 ∧ 1 ≤ many ∧ many ≤ 1000000 ∧ bagOk i r m ∧
  ∀ z i' r' m' c' H2, 0 ≤ z → z < many → bagOk i' r' m' → BgL b l zs H i' r' m' c' H2 → Q (.int z) H2
/-- a draw -/
theorem ec_draw {σ : St} {H : Hp} {t : TA} {b l : Addr} {zs : List Int} {many : Int} (h : EvAD t σ H [.obj b, .int many]) (B : Bag b l zs H) (h1 : 1 ≤ many) (h2 : many ≤ 1000000) : EvC (tCallO spDrawL t) σ H (fun d => ∃ z, d = .int z ∧ 0 ≤ z ∧ z < many) := fun H1 e Q q => h H1 e _ fun vs H2 e2 k => by
  obtain ⟨x, y, rfl, hx, hy⟩ := dqa2 k
  cases hx
  cases hy
  have B2 := B.mono (e.trans e2)
  have hlb : l ≠ b := fun z => by
    have w := B2.scr
    rw [z, B2.bag] at w
    exact bago_lst (Option.some.inj w)
  refine ⟨b, l, B2.bag, fun i r m c bd => ⟨b, l, zs, many, i, r, m, c, rfl, upd_same, by rw [upd_ne hlb]; exact B2.scr, hlb, B.len, h1, h2, bd, fun z i' r' m' c' H3 z0 z1 bd' g => ⟨i', r', m', c', bd', g.bag, q _ _ _ (e2.trans fun a o ha => ?_) ⟨z, rfl, z0, z1⟩ (.int z)⟩⟩⟩
  by_cases hab : a = b
  · subst hab
    rw [upd_same, ← ha, B2.bag]
  · rw [upd_ne hab]
    refine g.ex a o ?_
    rw [hid_ne hab, upd_ne hab]
    exact ha
end FW
set_option maxRecDepth 100000
set_option maxHeartbeats 8000000
namespace FW
open PySem L2
open Evl (Ex Ex.refl Ex.trans Ex.new Ex.mut EvT)
section
variable {K : PySem.W.Frag} {σ : St} {H : Hp} {D : Ends} {t : TT} {tu tw tz : TS}
/-- an if whose two ways meet in J -/
theorem g_ifJ {T : Bool → Prop} (J : St → Hp → Prop) (h : EvTC t σ H T) (h1 : T true → ∀ H1, Ex H H1 → (∀ σ' H', J σ' H' → tz D σ' H') → tu { D with nx := tz D } σ H1) (h2 : T false → ∀ H1, Ex H H1 → (∀ σ' H', J σ' H' → tz D σ' H') → tw { D with nx := tz D } σ H1) (hj : ∀ σ' H', J σ' H' → tz D σ' H') : tSeq (tIfS t tu tw) tz D σ H :=
  g_if h (fun a H1 e => h1 a H1 e hj) fun a H1 e => h2 a H1 e hj
theorem etc_any {b : Bool} (h : EvB t σ H b) : EvTC t σ H (fun c => c = b) := h
end
section
variable {P : Program} {w : World} {K : PySem.W.Frag} {mg : Str → Option Value} {base : Heap} {Cb : Addr}
theorem mod_bd (a b : Int) (h : 0 < b) : 0 ≤ a % b ∧ a % b < b := ⟨Int.emod_nonneg a (by omega), Int.emod_lt_of_pos a h⟩
abbrev st_law_draw : Stmt := top 50
theorem sc_law_draw : FnScope ["_law_bag", "_law_many", "_law_cell", "_law_digit", "_law_twice"] ["_law_bag", "_law_many"] (defScope st_law_draw) := ⟨rfl, rfl, rfl, by decide +kernel, rfl, by decide +kernel, by decide +kernel⟩
theorem c_law_draw (T : Txt mg) (F : DefAt K mg "_law_draw" st_law_draw) : Cal P w K mg base CX0 1 "_law_draw" ["_law_bag", "_law_many"] spDrawL := by
  refine cal_ofS sc_law_draw F (fun vs H Q E ⟨_, _, _, _, _, _, _, _, e, _⟩ => by rw [e]; rfl) (fun _ _ _ _ _ _ us hl => match us, hl with | [_, _], _ => rfl) fun f cdv A outer s H hr E => ?_
  refine ⟨_, (pss_cons (ps_asg (pe_op op_addU (pe_ix ix_U (pv 0) pe_int (fun _ _ => rfl)) pe_int) (pg_sub (pv 0) pe_int set_list (fun _ => rfl)))
      (pss_cons (ps_if (PW.pt (pw_and (pt_cmpR op_eq (pe_ix ix_U (pv 0) pe_int (fun _ _ => rfl)) pe_int (nomark _)) (pw_and1 (pt_cmpR op_lt (pe_ix ix_U (pv 0) pe_int (fun _ _ => rfl)) (pe_len T (pe_ix ix_U (pv 0) pe_int (fun _ _ => rfl))) (nomark _))))) (pss_cons (ps_set (i := 2) sc_law_draw.nd rfl (Or.inl rfl) (pe_ix ix_U (pe_ix ix_U (pv 0) pe_int (fun _ _ => rfl)) (pe_ix ix_U (pv 0) pe_int (fun _ _ => rfl)) (fun _ _ => rfl)))
        (pss_cons (ps_asg (pe_op op_addU (pe_ix ix_U (pv 0) pe_int (fun _ _ => rfl)) pe_int) (pg_sub (pv 0) pe_int set_list (fun _ => rfl)))
        (pss_one (ps_if (pt_cmpR op_ge (pe_absC T (pv 2)) (pe_op op_pow pe_int pe_int) (nomark _)) (pss_one (ps_asg (pe_absC T (pv 2)) (pg_sub (pv 0) pe_int set_list (fun _ => rfl)))) (pss_one (ps_asg (pe_op op_mod (pe_intC T (pe_op op_addU (pe_op op_addU (pe_op op_mulK (pe_ix ix_U (pv 0) pe_int (fun _ _ => rfl)) pe_int) (pe_op op_mulK (pe_op op_mod (pe_intC T (pv 2)) pe_int) pe_int)) pe_int)) pe_int) (pg_sub (pv 0) pe_int set_list (fun _ => rfl)))))))) pss_nil)
      (pss_cons (ps_if (pt_cmpR op_gt (pe_ix ix_U (pv 0) pe_int (fun _ _ => rfl)) pe_int (nomark _)) (pss_cons (ps_set (i := 3) sc_law_draw.nd rfl (Or.inl rfl) (pe_op op_mod (pe_intC T (pe_ix ix_U (pv 0) pe_int (fun _ _ => rfl))) (pv 1)))
        (pss_cons (ps_asg (pe_op op_fdivW (pe_ix ix_U (pv 0) pe_int (fun _ _ => rfl)) (pv 1)) (pg_sub (pv 0) pe_int set_list (fun _ => rfl)))
        (pss_one (ps_ret (pv 3))))) pss_nil)
      (pss_cons (ps_set (i := 4) sc_law_draw.nd rfl (Or.inl rfl) (pe_op op_mod (pe_intC T (pe_op op_addU (pe_op op_mulK (pe_ix ix_U (pv 0) pe_int (fun _ _ => rfl)) (pe_ix ix_U (pv 0) pe_int (fun _ _ => rfl))) (pe_op op_mulK (pe_ix ix_U (pv 0) pe_int (fun _ _ => rfl)) pe_int))) pe_int))
      (pss_cons (ps_asg (pe_op op_mod (pe_intC T (pe_op op_addU (pe_op op_addU (pe_op op_mulK (pv 4) pe_int) (pe_op op_mulK (pe_ix ix_U (pv 0) pe_int (fun _ _ => rfl)) pe_int)) pe_int)) pe_int) (pg_sub (pv 0) pe_int set_list (fun _ => rfl)))
      (pss_one (ps_ret (pe_op op_mod (pe_intC T (pe_op op_fdivW (pe_ix ix_U (pv 0) pe_int (fun _ _ => rfl)) pe_int)) (pv 1))))))))), ?_⟩
  rintro vs Q ⟨b, l, zs, many, i, r, m, c, rfl, hb, hl, hlb, hz, hm1, hm2, bd, q⟩
  have B0 : BgL b l zs H i r m c H := ⟨hid_sub, hb, hl⟩
  have upB : ∀ {i r m c i' r' m' c' : Int} {H' : Hp}, BgL b l zs H i r m c H' → BgL b l zs H i' r' m' c' (upd H' b (.lst (bagV l i' r' m' c'))) := fun h => ⟨ex_put hid_same h.ex, upd_same, by rw [upd_ne hlb]; exact h.scr⟩
  have cdiv : ∀ r : Int, CDivW r many := fun r => wide_div (b := 20) (by omega) (by omega) (by decide) (by decide)
  refine g_setL (xa (xi (xv B0.dq)) ed_int) (vw_var rfl) hb rfl fun v H1 e1 dv => ?_
  cases dv
  have B1 : BgL b l zs H i r m (c + 1) (upd H1 b (.lst (bagV l i r m (c + 1)))) := upB (B0.mono e1)
  refine g_ifJ (fun σ' H' => ∃ i r m p, bagOk i r m ∧ BgL b l zs H i r m (c + 1) H' ∧ σ' = [some (.ref b), some (.int many), p, none, none]) (T := fun q => q = (decide (r = 0) && decide (i < (zs.length : Int)))) ?_ (fun hq H2 e2 hj => ?_) (fun _ H2 e2 hj => hj _ _ ⟨i, r, m, none, bd, B1.mono e2, rfl⟩) ?_
  · exact (et_and (a := decide (r = 0)) (b := decide (i < (zs.length : Int))) (EvB.to (tq (b := .int 0) (xi (xv B1.dq)) ed_int) rfl) fun _ => EvB.to (et_B (ed_b0 (xi (xv B1.dq)) (EvD.to (xl (a := .lst (intsZ zs)) (xi (xv B1.dq)) rfl (by show (intsZ zs).length ≤ 100000; unfold intsZ; rw [List.length_map]; omega)) (by unfold intsZ; rw [List.length_map])))) rfl)
  · have B2 := B1.mono e2
    have hi2 : i < (zs.length : Int) := by
      have := (Bool.and_eq_true_iff.mp hq.symm).2
      exact of_decide_eq_true this
    have hi0 := bd.1
    obtain ⟨zi, hzi⟩ : ∃ z, zs[i.toNat]? = some z := ⟨zs[i.toNat]'(by omega), List.getElem?_eq_getElem (by omega)⟩
    have hat : L2.atI (intsZ zs) i = some (.int zi) := by
      have e : i = ((i.toNat : Nat) : Int) := by omega
      rw [e]
      exact atI_nat (by unfold intsZ; rw [List.getElem?_map, hzi] <;> rfl)
    refine g_asgD (d := .int zi) (ed_ix (a := .lst (intsZ zs)) (xi (xv B2.dq)) (xi (xv B2.dq)) hat (by show (intsZ zs).length ≤ 100000; unfold intsZ; rw [List.length_map]; omega)) fun v H3 e3 dv => ?_
    cases dv
    have B3 := B2.mono e3
    refine g_setL (xa (xi (xv B3.dq)) ed_int) (vw_var rfl) B3.bag rfl fun v H4 e4 dv => ?_
    cases dv
    have B4 : BgL b l zs H (i + 1) r m (c + 1) (upd H4 b (.lst (bagV l (i + 1) r m (c + 1)))) := upB (B3.mono e4)
    refine s_if (T := fun _ => True) (EvTC.imp (et_B (ed_b0 (ed_absI (xv (.int zi))) (ed_iC ed_int ed_int (show CPow 10 18 from ⟨by decide, by decide, by decide⟩)))) fun _ _ => trivial) (fun _ H5 e5 => ?_) fun _ H5 e5 => ?_
    · have B5 := B4.mono e5
      refine s_setL (ed_absI (xv (.int zi))) (vw_var rfl) B5.bag rfl fun v H6 e6 dv => ?_
      cases dv
      refine hj _ _ ⟨i + 1, _, m, _, ⟨by omega, ?_, bd.2.2⟩, upB (B5.mono e6), rfl⟩
      split <;> omega
    · have B5 := B4.mono e5
      refine s_setL (d := .int ((m * 45589 + zi % 1000033 * 701 + 53) % 2147483587)) (ed_iC (ed_intI (xa (xa (ed_iC (xi (xv B5.dq)) ed_int (mulOk_r (by decide))) (ed_iC (ed_iC (ed_intI (xv (.int zi))) ed_int (by decide)) ed_int (mulOk_r (by decide))) rfl trivial) ed_int rfl trivial)) ed_int (by decide)) (vw_var rfl) B5.bag rfl fun v H6 e6 dv => ?_
      cases dv
      have mb := mod_bd (m * 45589 + zi % 1000033 * 701 + 53) 2147483587 (by decide)
      exact hj _ _ ⟨i + 1, r, _, _, ⟨by omega, bd.2.1, mb.1, by omega⟩, upB (B5.mono e6), rfl⟩
  · rintro σ' H3 ⟨i, r, m, p, bd, B3, rfl⟩
    refine g_whenD (b := decide (r > 0)) (EvB.to (et_B (ed_b0 (xi (xv B3.dq)) ed_int)) rfl) (fun hr H4 e4 => ?_) fun hr H4 e4 => ?_
    · have B4 := B3.mono e4
      have hr := of_decide_eq_true hr
      refine g_asgD (d := .int (r % many)) (ed_iC (ed_intI (xi (xv B4.dq))) (xv (.int many)) (by omega)) fun v H5 e5 dv => ?_
      cases dv
      have B5 := B4.mono e5
      refine g_setL (ed_iC (xi (xv B5.dq)) (xv (.int many)) (cdiv r)) (vw_var rfl) B5.bag rfl fun v H6 e6 dv => ?_
      cases dv
      have mb := mod_bd r many (by omega)
      exact ⟨_, rfl, q _ i (r / many) m (c + 1) _ mb.1 mb.2 ⟨bd.1, Int.ediv_nonneg bd.2.1 (by omega), bd.2.2⟩ (upB (B5.mono e6))⟩
    · have B4 := B3.mono e4
      have m1 : m.natAbs < 2 ^ 63 := by
        have h1 := bd.2.2
        omega
      refine g_asgD (d := .int ((m * m + (c + 1) * 8111) % 2147483629)) (ed_iC (ed_intI (xa (ed_iC (xi (xv B4.dq)) (xi (xv B4.dq)) (mulOk_r m1)) (ed_iC (xi (xv B4.dq)) ed_int (mulOk_r (by decide))) rfl trivial)) ed_int (by decide)) fun v H5 e5 dv => ?_
      cases dv
      have B5 := B4.mono e5
      refine g_setL (d := .int ((((m * m + (c + 1) * 8111) % 2147483629) * 17041 + m * 48049 + 70001) % 2147483587)) (ed_iC (ed_intI (xa (xa (ed_iC (xv (.int _)) ed_int (mulOk_r (by decide))) (ed_iC (xi (xv B5.dq)) ed_int (mulOk_r (by decide))) rfl trivial) ed_int rfl trivial)) ed_int (by decide)) (vw_var rfl) B5.bag rfl fun v H6 e6 dv => ?_
      cases dv
      have mb := mod_bd (((m * m + (c + 1) * 8111) % 2147483629) * 17041 + m * 48049 + 70001) 2147483587 (by decide)
      have B6 : BgL b l zs H i r ((((m * m + (c + 1) * 8111) % 2147483629) * 17041 + m * 48049 + 70001) % 2147483587) (c + 1) (upd H6 b (.lst (bagV l i r ((((m * m + (c + 1) * 8111) % 2147483629) * 17041 + m * 48049 + 70001) % 2147483587) (c + 1)))) := upB (B5.mono e6)
      generalize (((m * m + (c + 1) * 8111) % 2147483629) * 17041 + m * 48049 + 70001) % 2147483587 = m2 at mb B6
      refine (EvD.to (ed_iC (ed_intI (ed_iC (xi (xv B6.dq)) ed_int (wide_div (b := 7) (by decide) (by decide) (by decide) (by decide)))) (xv (.int many)) (by omega)) rfl) _ (Ex.refl _) _ fun v d H7 e7 ed dv => ?_
      subst ed
      cases dv
      have mb2 := mod_bd (m2 / 64) many (by omega)
      exact q _ i r m2 (c + 1) _ mb2.1 mb2.2 ⟨bd.1, bd.2.1, mb.1, by omega⟩ (B6.mono e7)
end
end FW
set_option maxRecDepth 100000
set_option maxHeartbeats 8000000
namespace FW
open PySem L2
open Evl (Ex Ex.refl Ex.trans Ex.new Ex.mut EvT)
theorem Made.sub {T : Dt → Bool → Prop} {R : Dt → Dt → Prop} : ∀ {xs ds : List Dt}, Made T R xs ds → (∀ x d, R x d → d = x) → ds.Sublist xs
  | _, _, .nil, _ => .slnil
  | _, _, .no _ m, h => .cons _ (Made.sub m h)
  | x :: xs, _, .yes _ r m, h => by
    rw [h _ _ r]
    exact .cons₂ _ (Made.sub m h)
theorem Made.all {T : Dt → Bool → Prop} {R : Dt → Dt → Prop} : ∀ {xs ds : List Dt}, Made T R xs ds → (∀ x b, T x b → b = true) → ds.length = xs.length ∧ ∀ d ∈ ds, ∃ x, R x d
  | _, _, .nil, _ => ⟨rfl, fun _ h => by cases h⟩
  | _, _, .no t m, h => by cases h _ _ t
  | _, _, .yes t r m, h => by
    obtain ⟨h1, h2⟩ := Made.all m h
    refine ⟨by rw [List.length_cons, List.length_cons, h1], fun d hd => ?_⟩
    rcases List.mem_cons.mp hd with rfl | z
    · exact ⟨_, r⟩
    · exact h2 d z
section
variable {K : PySem.W.Frag} {σ : St} {H : Hp} {ta tb te to : TE} {D : Ends} {tz : TS} {C : Dt → Prop} {X : List Dt → Prop}
theorem tt_cmp {g : Int → Int → Bool} {n : Int} {Pz : Int → Prop} (h : EvC ta σ H (fun d => ∃ z, d = .int z ∧ Pz z)) : EvTC (tB (tOp (rI0 fun i j => .bl (g i j)) ta (tC (.int n)))) σ H (fun _ => True) :=
  etc_B ((ec_i0 (G := fun i j => .bl (g i j)) (C := fun d => ∃ b, d = .bl b ∧ True) h ed_int (fun _ _ _ => .bl _) fun a b ⟨z, e, _⟩ eb => ⟨z, n, e, eb, _, rfl, trivial⟩))
theorem tt_eq {n : Int} {Pz : Int → Prop} (h : EvC ta σ H (fun d => ∃ z, d = .int z ∧ Pz z)) : EvTC (tB (tOp rEq ta (tC (.int n)))) σ H (fun _ => True) :=
  etc_B ((ec_eq (C := fun d => ∃ b, d = .bl b ∧ True) h ed_int fun a b ⟨z, e, _⟩ eb => by
    subst e eb
    exact ⟨rfl, _, rfl, trivial⟩))
theorem ec_join0 {Cs : List (List Nat) → Prop} (ho : EvD to σ H (.str [])) (he : EvC te σ H (fun d => ∃ xs : List (List Nat), d = .lst (xs.map Dt.str) ∧ Cs xs)) (hl : ∀ xs, Cs xs → (xs.map List.length).sum ≤ 100000) : EvC (tM1 (rJoin K) to te) σ H (fun d => ∃ xs, Cs xs ∧ d = .str xs.flatten) := fun H1 e Q q =>
  ho H1 e _ fun x d H2 e2 ed k => by
    subst ed
    cases k
    refine ⟨⟨_, rfl⟩, he H2 (e.trans e2) _ fun y d' H3 e3 ⟨xs, ed', hc⟩ k' => ?_⟩
    subst ed'
    obtain ⟨p, vs, rfl, h1, k1⟩ := dq_lst k'
    rw [strs_of k1] at h1
    have := hl xs hc
    refine ⟨_, p, xs.map S, rfl, rfl, .inl (sqL_of h1), ?_, ?_⟩
    · rw [sum_map_S, List.length_map]
      have : (S []).length = 0 := rfl
      rw [this]
      omega
    · rw [join_0]
      exact q _ _ _ (e2.trans e3) ⟨xs, hc, rfl⟩ (.str _)
theorem ef_lc {wi : TI} {tt : TT} {te : TE} {vs : List Nat} {j : Nat} {T : Dt → Bool → Prop} {R : Dt → Dt → Prop} (hi : EvI wi σ H X) (hz : ∀ xs, X xs → xs.length ≤ 100000) (hw : ∀ v, wipe ((wipe σ vs).set j (some v)) vs = wipe σ vs)
    (turn : ∀ xs, X xs → ∀ (i : Nat) x v B, xs[i]? = some x → Ex H B → Dq B v x → EvTC tt ((wipe σ vs).set j (some v)) B (T x) ∧ (T x true → EvC te ((wipe σ vs).set j (some v)) B (R x))) :
    EvF (tLc wi (gName j) (tHideT tt) (tHide te) vs) σ H (fun d => ∃ xs ds, X xs ∧ d = .lst ds ∧ Made T R xs ds) :=
  ef_lcG hi hz fun xs cx i x v B H1 ex eB dx eB2 P p => p _ (hw v) (turn xs cx i x v B ex eB dx).1 (turn xs cx i x v B ex eB dx).2
theorem g_asgF {i : Nat} (h : EvF te σ H C) (k : ∀ v d H1, Ex H H1 → C d → Dq H1 v d → (∀ a, v = .ref a → H a = none) → tz D (σ.set i (some v)) H1) : tSeq (tAsg te (gName i)) tz D σ H := h H (Ex.refl H) _ fun v d H1 e c dq f => k v d H1 e c dq f
end
section
variable {P : Program} {w : World} {K : PySem.W.Frag} {mg : Str → Option Value} {base : Heap} {Cb : Addr}
abbrev CDr (P : Program) (w : World) (K : PySem.W.Frag) (mg : Str → Option Value) (base : Heap) : Prop := Cal P w K mg base CX0 1 "_law_draw" ["_law_bag", "_law_many"] spDrawL
abbrev st_law_of : Stmt := top 51
theorem sc_law_of : FnScope ["_law_bag", "_law_things"] ["_law_bag", "_law_things"] (defScope st_law_of) := ⟨rfl, rfl, rfl, by decide +kernel, rfl, by decide +kernel, by decide +kernel⟩
def R_of (H : Hp) (ds : List Dt) (C : Dt → Prop) : Prop := ∃ b l zs d n, ds = [.obj b, d] ∧ Bag b l zs H ∧ lenD d = some n ∧ 1 ≤ n ∧ n ≤ 1000 ∧ C = fun e => ∃ i : Nat, i < n ∧ ixD d (i : Int) = some e
theorem ixS {L : List Nat} {a c : Nat} (hc : L[a]? = some c) : ixD (.str L) (a : Int) = some (.str [c]) := by
  show (L2.atI L (a : Int)).map (fun c => Dt.str [c]) = _
  rw [atI_nat hc] <;> rfl
theorem ixD_ok {d : Dt} {n i : Nat} (h : lenD d = some n) (hi : i < n) : ∃ e, ixD d (i : Int) = some e := by
  cases d <;> simp only [lenD, Option.some.injEq, reduceCtorEq] at h
  · rename_i l
    obtain ⟨c, hc⟩ : ∃ c, l[i]? = some c := ⟨l[i]'(by omega), List.getElem?_eq_getElem (by omega)⟩
    exact ⟨.str [c], ixS hc⟩
  · rename_i l
    obtain ⟨c, hc⟩ : ∃ c, l[i]? = some c := ⟨l[i]'(by omega), List.getElem?_eq_getElem (by omega)⟩
    exact ⟨c, atI_nat hc⟩
  · rename_i l
    obtain ⟨c, hc⟩ : ∃ c, l[i]? = some c := ⟨l[i]'(by omega), List.getElem?_eq_getElem (by omega)⟩
    exact ⟨c, atI_nat hc⟩
theorem okL_len {d : Dt} {n : Nat} (h : lenD d = some n) (hn : n ≤ 1000) : okL d := by
  cases d <;> simp only [lenD, Option.some.injEq, reduceCtorEq] at h
  · show _ ≤ 100000
    omega
  · show _ ≤ 100000
    omega
  · show _ ≤ 100000
    omega
theorem c_law_of (T : Txt mg) (F : DefAt K mg "_law_of" st_law_of) (C__law_draw : CDr P w K mg base) : Cal P w K mg base CX0 2 "_law_of" ["_law_bag", "_law_things"] (spR R_of) := by
  refine cal_of sc_law_of F (fun _ _ _ ⟨_, _, _, _, _, e, _⟩ => by rw [e]; rfl) (fun _ _ _ _ _ _ us hl => match us, hl with | [_, _], _ => rfl) fun f cdv A outer s H hr E => ?_
  refine ⟨_, (pss_one (ps_ret (pe_ix ix_U (pv 1) (pe_calO C__law_draw hr (pa_cons (pv 0) (pa_cons (pe_len T (pv 1)) pa_nil))) (fun _ _ => rfl)))), ?_⟩
  rintro ds C vs hd ⟨b, l, zs, d, n, rfl, B, hl, h1, h2, rfl⟩ D kr kn
  obtain ⟨x, y, rfl, hx, hy⟩ := dqa2 hd
  have ok := okL_len hl h2
  refine rtC (ec_ix (A := fun a => a = d) (xv hy) (ec_draw (many := (n : Int)) (a2 (xv hx) (ed_len (xv hy) hl ok)) B (by omega) (by omega)) fun a z ea ⟨i, ez, i0, i1⟩ => ?_) (Ex.refl H) kr
  subst ea ez
  have hi : (i : Int) = ((i.toNat : Nat) : Int) := by omega
  obtain ⟨e, he⟩ := ixD_ok (i := i.toNat) hl (by omega)
  exact ⟨i, e, rfl, by rw [hi]; exact he, ok, i.toNat, by omega, he⟩
/-- .. out of a text -/
theorem of_str {σ : St} {H : Hp} {E : XK} {ta : TA} {b l : Addr} {zs : List Int} {L : List Nat} (h : EvAD ta σ H [.obj b, .str L]) (B : Bag b l zs H) (h1 : 1 ≤ L.length) (h2 : L.length ≤ 1000) : EvC (tCall (spR R_of) [] E ta) σ H (fun d => ∃ c, d = .str [c] ∧ c ∈ L) := by
  refine EvC.imp (ed_call (C := fun e => ∃ i : Nat, i < L.length ∧ ixD (.str L) (i : Int) = some e) h fun H1 e => ⟨b, l, zs, .str L, L.length, rfl, B.mono e, rfl, h1, h2, rfl⟩) fun d ⟨i, hi, he⟩ => ?_
  have hc : L[i]? = some L[i] := List.getElem?_eq_getElem hi
  have he : (L2.atI L (i : Int)).map (fun c => Dt.str [c]) = some d := he
  rw [atI_nat hc] at he
  cases he
  exact ⟨L[i], rfl, List.getElem_mem hi⟩
abbrev st_law_letters : Stmt := top 56
theorem sc_law_letters : FnScope ["_law_bag", "_law_letters_here", "_law_many", "_law_found", "_law_low", "_law_k", "_law_at"] ["_law_bag", "_law_letters_here", "_law_many"] (defScope st_law_letters) := ⟨rfl, rfl, rfl, by decide +kernel, rfl, by decide +kernel, by decide +kernel⟩
def R_letters (H : Hp) (ds : List Dt) (C : Dt → Prop) : Prop := ∃ b l zs L n, ds = [.obj b, .str L, .int ((n : Nat) : Int)] ∧ Bag b l zs H ∧ L.Pairwise (· < ·) ∧ 1 ≤ n ∧ n ≤ L.length ∧ L.length ≤ 100 ∧ C = fun e => ∃ f, e = .str f ∧ f.length = n ∧ f.Pairwise (· < ·) ∧ ∀ c ∈ f, c ∈ L
theorem c_law_letters (T : Txt mg) (F : DefAt K mg "_law_letters" st_law_letters) (C__law_draw : CDr P w K mg base) : Cal P w K mg base CX0 2 "_law_letters" ["_law_bag", "_law_letters_here", "_law_many"] (spR R_letters) := by
  refine cal_of sc_law_letters F (fun _ _ _ ⟨_, _, _, _, _, e, _⟩ => by rw [e]; rfl) (fun _ _ _ _ _ _ us hl => match us, hl with | [_, _, _], _ => rfl) fun f cdv A outer s H hr E => ?_
  refine ⟨_, (pss_cons (ps_asg (pe_tup (pa_cons pe_str (pa_cons pe_int pa_nil))) (pg_tup rfl (pgs_cons (pg_name (i := 3) sc_law_letters.nd rfl (Or.inl rfl)) (pgs_cons (pg_name (i := 4) sc_law_letters.nd rfl (Or.inl rfl)) pgs_nil))))
      (pss_cons (ps_for PassesOwn.never rfl (pi_range1 rfl T.range (pa_cons (pv 2) pa_nil)) (pg_name (i := 5) sc_law_letters.nd rfl (Or.inl rfl)) (pss_cons (ps_set (i := 6) sc_law_letters.nd rfl (Or.inl rfl) (pe_op op_addU (pv 4) (pe_calO C__law_draw hr (pa_cons (pv 0) (pa_cons (pe_op op_sub (pe_op op_sub (pe_len T (pv 1)) (pv 4)) (pe_op op_sub (pe_op op_sub (pv 2) pe_int) (pv 5))) pa_nil)))))
        (pss_one (ps_par (i := 3) (j := 4) rfl sc_law_letters.nd rfl rfl (by decide) rfl rfl (pa_cons (pe_op op_addU (pv 3) (pe_ix ix_U (pv 1) (pv 6) (fun _ _ => rfl))) (pa_cons (pe_op op_addU (pv 6) pe_int) pa_nil)) (by rfl)))))
      (pss_one (ps_ret (pv 3))))), ?_⟩
  rintro ds C vs hd ⟨b, l, zs, L, n, rfl, B, hp, hn1, hn2, hL, rfl⟩ D kr kn
  obtain ⟨x, y, z, rfl, hx, hy, hz⟩ := dqa3 hd
  cases hx
  cases hy
  cases hz
  refine g_tup2 (A := fun d => d = .str []) (B := fun d => d = .int 0) ed_str ed_int fun v0 w0 a0 b0 H1 e1 ea eb dv dw => ?_
  subst ea eb
  cases dv
  cases dw
  refine g_for (ei_rangeD (n := (n : Int)) (xv (.int _)) ⟨by omega, by omega⟩) fun xs B0 exs e0 => ?_
  subst exs
  refine ⟨fun k σ' H' => Ex B0 H' ∧ ∃ (fs : List Nat) (low : Nat) (p q : Option V), σ' = [some (.ref b), some (.str (S L)), some (.int (n : Int)), some (.str (S fs)), some (.int (low : Int)), p, q] ∧ fs.length = k ∧ low + n ≤ L.length + k ∧ k ≤ n ∧ fs.Pairwise (· < ·) ∧ ∀ c ∈ fs, c ∈ L.take low, ⟨Ex.refl _, [], 0, none, none, rfl, rfl, by omega, Nat.zero_le _, .nil, fun _ h => by cases h⟩, fun i σ' H' h => h.1, ?_, ?_⟩
  · rintro k zz v σ' H2 ez ⟨H0, ⟨e2, fs, low, p, q, rfl, hk, hlow, hkn, hpw, hsub⟩, e3⟩ dv
    obtain ⟨hkn2, rfl⟩ := rngD_get ez
    cases dv
    have e4 : Ex H H2 := e1.trans (e0.trans (e2.trans e3))
    have hm : (L.length : Int) - (low : Int) - ((n : Int) - 1 - (k : Int)) = ((L.length - low - (n - 1 - k) : Nat) : Int) := by omega
    refine g_asg (C := fun d => ∃ a : Nat, d = .int (a : Int) ∧ low ≤ a ∧ a + n ≤ L.length + k) ?_ fun va da H3 e5 ⟨a, ea, ha1, ha2⟩ dva => ?_
    · refine ec_add (A := fun d => d = .int (low : Int)) (xv (.int _)) (ec_draw (many := ((L.length - low - (n - 1 - k) : Nat) : Int)) (a2 (xv (.obj b)) (EvD.to (ed_i0 (ed_i0 (xl (a := .str L) (xv (.str L)) rfl (by show L.length ≤ 100000; omega)) (xv (.int _))) (ed_i0 (ed_i0 (xv (.int _)) ed_int) (xv (.int _)))) (congrArg Dt.int hm))) (B.mono e4) (by omega) (by omega)) fun a d ea ⟨z, ed, z0, z1⟩ => ?_
      subst ea ed
      exact ⟨_, rfl, trivial, low + z.toNat, by show Dt.int _ = Dt.int _; congr 1; omega, by omega, by omega⟩
    · subst ea
      cases dva
      have hal : a < L.length := by omega
      have hc : L[a]? = some L[a] := List.getElem?_eq_getElem hal
      refine g_parS (A := fun d => d = .str (fs ++ [L[a]])) (B := fun d => d = .int ((a : Int) + 1)) (xa (b := .str [L[a]]) (xv (.str fs)) (ed_ix (a := .str L) (xv (.str L)) (xv (.int (a : Int))) (ixS hc) (by show L.length ≤ 100000; omega)) rfl (by show List.length _ ≤ 100000; rw [List.length_append, hk]; simp; omega)) (xa (xv (.int (a : Int))) ed_int rfl trivial) fun v w ad bd H4 e6 ea eb dv dw => ?_
      subst ea eb
      cases dv
      cases dw
      refine ⟨(e2.trans e3).trans (e5.trans e6), fs ++ [L[a]], a + 1, _, _, rfl, by rw [List.length_append, hk] <;> rfl, by omega, by omega, ?_, fun c hc' => ?_⟩
      · rw [List.pairwise_append]
        refine ⟨hpw, by simp, fun u hu v hv => ?_⟩
        rw [List.mem_singleton] at hv
        rw [hv]
        obtain ⟨j, hj, ej⟩ := List.mem_iff_getElem.mp (hsub u hu)
        rw [List.length_take] at hj
        rw [List.getElem_take] at ej
        rw [← ej]
        exact (List.pairwise_iff_getElem.mp hp) j a (by omega) hal (by omega)
      · have tk : L.take (a + 1) = L.take a ++ [L[a]] := by
          rw [List.take_succ, hc] <;> rfl
        rw [tk]
        rcases List.mem_append.mp hc' with q | q
        · refine List.mem_append_left _ ?_
          have : (L.take low).Sublist (L.take a) := by
            have h2 : L.take low = (L.take a).take low := by rw [List.take_take, Nat.min_eq_left ha1]
            rw [h2]
            exact List.take_sublist _ _
          exact this.subset (hsub c q)
        · exact List.mem_append_right _ q
  · rintro σ' H2 ⟨e2, fs, low, p, q, rfl, hk, hlow, hkn, hpw, hsub⟩
    rw [rngD_len] at hk
    exact rtC (C := fun e => ∃ f, e = .str f ∧ f.length = n ∧ f.Pairwise (· < ·) ∧ ∀ c ∈ f, c ∈ L) (EvD.in (xv (.str fs)) ⟨fs, rfl, by omega, hpw, fun c hc => (List.take_sublist _ _).subset (hsub c hc)⟩) (e1.trans (e0.trans e2)) kr
end
end FW
set_option maxRecDepth 100000
set_option maxHeartbeats 8000000
namespace FW
open PySem L2
open Evl (Ex Ex.refl Ex.trans Ex.new Ex.mut EvT)
section
variable {P : Program} {w : World} {K : PySem.W.Frag} {mg : Str → Option Value} {base : Heap} {Cb : Addr}
abbrev CLe (P : Program) (w : World) (K : PySem.W.Frag) (mg : Str → Option Value) (base : Heap) : Prop := Cal P w K mg base CX0 2 "_law_letters" ["_law_bag", "_law_letters_here", "_law_many"] (spR R_letters)
abbrev COf (P : Program) (w : World) (K : PySem.W.Frag) (mg : Str → Option Value) (base : Heap) : Prop := Cal P w K mg base CX0 2 "_law_of" ["_law_bag", "_law_things"] (spR R_of)
def R_some (ls : List Nat) (H : Hp) (ds : List Dt) (C : Dt → Prop) : Prop := ∃ b l zs m, ds = [.obj b, .int ((m : Nat) : Int)] ∧ Bag b l zs H ∧ 1 ≤ m ∧ m ≤ 20 ∧ C = fun e => ∃ f, e = .str f ∧ Rising f ls ∧ f.length ≤ m
theorem some_letters {σ : St} {H : Hp} {E : XK} {ta tb : TE} {td : TA} {b l : Addr} {zs : List Int} {L : List Nat} {m : Nat} (hL : L.Pairwise (· < ·)) (h26 : L.length = 26) (hasc : ∀ c ∈ L, c < 128) (ho : EvD ta σ H (.obj b)) (hs : EvD tb σ H (.str L)) (hd : EvAD td σ H [.obj b, .int (m : Int)]) (B : Bag b l zs H) (h1 : 1 ≤ m) (h2 : m ≤ 20) :
    EvC (tCall (spR R_letters) [] E (tCons ta (tCons tb (tCons (tOp rAddU (tC (.int 1)) (tCallO spDrawL td)) tNil)))) σ H (fun e => ∃ f, e = .str f ∧ Rising f L ∧ f.length ≤ m) := by
  refine EvC.imp (ec_call (Cs := [fun d => d = .obj b, fun d => d = .str L, fun d => ∃ n : Nat, d = .int (n : Int) ∧ 1 ≤ n ∧ n ≤ m]) (ea_cons ho (ea_cons hs (ea_cons (ec_add ed_int (ec_draw hd B (by omega) (by omega)) fun a d ea ⟨z, ed, z0, z1⟩ => ?_) ea_nil))) (C := fun e => ∃ f, e = .str f ∧ Rising f L ∧ f.length ≤ m) fun ds H1 e cs => ?_) fun d h => h
  · subst ea ed
    exact ⟨_, rfl, trivial, 1 + z.toNat, by show Dt.int _ = Dt.int _; congr 1; omega, by omega, by omega⟩
  · cases cs with
    | cons c1 cs => cases cs with
      | cons c2 cs => cases cs with
        | cons c3 cs =>
          cases cs
          obtain ⟨n, rfl, n1, n2⟩ := c3
          subst c1 c2
          exact ⟨_, ⟨b, l, zs, L, n, rfl, B.mono e, hL, n1, by omega, by omega, rfl⟩, fun d ⟨f, ef, fl, fp, fs⟩ => ⟨f, ef, ⟨fp, by omega, by omega, fun c hc => hasc c (fs c hc), fs⟩, by omega⟩⟩
abbrev st_law_some_faces : Stmt := top 57
theorem sc_law_some_faces : FnScope ["_law_bag", "_law_most"] ["_law_bag", "_law_most"] (defScope st_law_some_faces) := ⟨rfl, rfl, rfl, by decide +kernel, rfl, by decide +kernel, by decide +kernel⟩
theorem c_law_some_faces (T : Txt mg) (F : DefAt K mg "_law_some_faces" st_law_some_faces) (C__law_draw : CDr P w K mg base) (C__law_letters : CLe P w K mg base) : Cal P w K mg base CX0 3 "_law_some_faces" ["_law_bag", "_law_most"] (spR (R_some lowerL)) := by
  refine cal_of sc_law_some_faces F (fun _ _ _ ⟨_, _, _, _, e, _⟩ => by rw [e]; rfl) (fun _ _ _ _ _ _ us hl => match us, hl with | [_, _], _ => rfl) fun f cdv A outer s H hr E => ?_
  refine ⟨_, (pss_one (ps_ret (pe_cal C__law_letters hr pass0 (pa_cons (pv 0) (pa_cons pe_str (pa_cons (pe_op op_addU pe_int (pe_calO C__law_draw hr (pa_cons (pv 0) (pa_cons (pv 1) pa_nil)))) pa_nil)))))), ?_⟩
  rintro ds C vs hd ⟨b, l, zs, m, rfl, B, h1, h2, rfl⟩ D kr kn
  obtain ⟨x, y, rfl, hx, hy⟩ := dqa2 hd
  exact rtC (some_letters (L := lowerL) (by decide) rfl (by decide) (xv hx) ed_str (a2 (xv hx) (xv hy)) B h1 h2) (Ex.refl H) kr
abbrev st_law_some_cutters : Stmt := top 58
theorem sc_law_some_cutters : FnScope ["_law_bag", "_law_most"] ["_law_bag", "_law_most"] (defScope st_law_some_cutters) := ⟨rfl, rfl, rfl, by decide +kernel, rfl, by decide +kernel, by decide +kernel⟩
theorem c_law_some_cutters (T : Txt mg) (F : DefAt K mg "_law_some_cutters" st_law_some_cutters) (C__law_draw : CDr P w K mg base) (C__law_letters : CLe P w K mg base) : Cal P w K mg base CX0 3 "_law_some_cutters" ["_law_bag", "_law_most"] (spR (R_some upperL)) := by
  refine cal_of sc_law_some_cutters F (fun _ _ _ ⟨_, _, _, _, e, _⟩ => by rw [e]; rfl) (fun _ _ _ _ _ _ us hl => match us, hl with | [_, _], _ => rfl) fun f cdv A outer s H hr E => ?_
  refine ⟨_, (pss_one (ps_ret (pe_cal C__law_letters hr pass0 (pa_cons (pv 0) (pa_cons pe_str (pa_cons (pe_op op_addU pe_int (pe_calO C__law_draw hr (pa_cons (pv 0) (pa_cons (pv 1) pa_nil)))) pa_nil)))))), ?_⟩
  rintro ds C vs hd ⟨b, l, zs, m, rfl, B, h1, h2, rfl⟩ D kr kn
  obtain ⟨x, y, rfl, hx, hy⟩ := dqa2 hd
  exact rtC (some_letters (L := upperL) (by decide) rfl (by decide) (xv hx) ed_str (a2 (xv hx) (xv hy)) B h1 h2) (Ex.refl H) kr
theorem sub_strs : ∀ {ds : List Dt} {L : List Nat}, ds.Sublist (L.map fun c => Dt.str [c]) → ∃ M : List Nat, ds = (M.map fun c => [c]).map Dt.str ∧ M.Sublist L
  | ds, [], h => by
    have : ds = [] := by simpa using h
    exact ⟨[], by rw [this] <;> rfl, .slnil⟩
  | ds, c :: L, h => by
    rw [List.map_cons] at h
    cases h with
    | cons _ h =>
      obtain ⟨M, e, s⟩ := sub_strs h
      exact ⟨M, e, s.cons _⟩
    | cons_cons _ h =>
      obtain ⟨M, e, s⟩ := sub_strs h
      exact ⟨c :: M, by rw [e] <;> rfl, s.cons₂ _⟩
theorem flat_ones : ∀ M : List Nat, (M.map fun c => [c]).flatten = M
  | [] => rfl
  | c :: M => by
    show c :: (M.map fun c => [c]).flatten = c :: M
    rw [flat_ones M]
theorem sum_ones : ∀ M : List Nat, ((M.map fun c => [c]).map List.length).sum = M.length
  | [] => rfl
  | c :: M => by
    show 1 + ((M.map fun c => [c]).map List.length).sum = M.length + 1
    rw [sum_ones M]
    omega
abbrev st_law_part : Stmt := top 59
theorem sc_law_part : FnScope ["_law_bag", "_law_letters_here", "_law_chosen", "_law_letter"] ["_law_bag", "_law_letters_here"] (defScope st_law_part) := ⟨rfl, rfl, rfl, by decide +kernel, rfl, by decide +kernel, by decide +kernel⟩
def R_part (H : Hp) (ds : List Dt) (C : Dt → Prop) : Prop := ∃ b l zs L ls, ds = [.obj b, .str L] ∧ Bag b l zs H ∧ Rising L ls ∧ L.length ≤ 20 ∧ C = fun e => ∃ p, e = .str p ∧ PartOk p L
theorem c_law_part (T : Txt mg) (F : DefAt K mg "_law_part" st_law_part) (C__law_draw : CDr P w K mg base) : Cal P w K mg base CX0 2 "_law_part" ["_law_bag", "_law_letters_here"] (spR R_part) := by
  refine cal_of sc_law_part F (fun _ _ _ ⟨_, _, _, _, _, e, _⟩ => by rw [e]; rfl) (fun _ _ _ _ _ _ us hl => match us, hl with | [_, _], _ => rfl) fun f cdv A outer s H hr E => ?_
  refine ⟨_, (pss_cons (ps_set (i := 2) sc_law_part.nd rfl (Or.inl rfl) (pe_join pe_str (pe_lc (own := [("_law_letter", 3)]) (g := gName 3) rfl sc_law_part.nd (pi_str (pv 1)) (blkOk_by (own := [("_law_letter", 3)]) (N := ["_law_bag", "_law_letters_here", "_law_chosen", "_law_letter"]) (sc := defScope st_law_part) (by decide +kernel)) (fun _ _ _ _ _ => (pg_name (i := 3) sc_law_part.nd rfl (Or.inl rfl))) (fun _ _ _ _ _ => pts_one (pt_hide (pt_cmpR op_eq (pe_calO C__law_draw hr (pa_cons (pv 0) (pa_cons pe_int pa_nil))) pe_int (nomark _)))) (fun _ _ _ _ _ => pe_hide (pv 3)))))
      (pss_one (ps_ret (pe_ifExp (PW.pt (pw_and (pt_cmpR op_ne (pv 2) pe_str (nomark _)) (pw_and1 (pt_cmpR op_gt (pe_calO C__law_draw hr (pa_cons (pv 0) (pa_cons pe_int pa_nil))) pe_int (nomark _))))) (pv 2) pe_str)))), ?_⟩
  rintro ds C vs hd ⟨b, l, zs, L, ls, rfl, B, R, hL, rfl⟩ D kr kn
  obtain ⟨x, y, rfl, hx, hy⟩ := dqa2 hd
  refine g_asg (C := fun d => ∃ M : List Nat, d = .str M ∧ M.Sublist L) ?_ fun v d H1 e1 ⟨M, ed, hM⟩ dv => ?_
  · refine EvC.imp (ec_join0 (Cs := fun xs => ∃ M : List Nat, xs = (M.map fun c => [c]) ∧ M.Sublist L) ed_str (EvC.imp (ec_lc (X := fun ys => ys = L.map fun c => Dt.str [c]) (T := fun _ _ => True) (R := fun x d => d = x) (ei_str (xv hy)) (fun xs e => by rw [e, List.length_map]; omega) (fun _ => rfl) fun xs ex i z v B0 ez eB dz => ⟨EvTC.imp (tt_eq (ec_draw (many := 2) (a2 (xv (hx.mono eB)) ed_int) (B.mono eB) (by decide) (by decide))) fun _ _ => trivial, fun _ => xv dz⟩) fun d ⟨xs, ds, ex, ed, m⟩ => ?_) fun xs ⟨M, e, hs⟩ => ?_) fun d ⟨xs, ⟨M, e, hs⟩, ed⟩ => ⟨M, by rw [ed, e, flat_ones], hs⟩
    · subst ex
      obtain ⟨M, e, s⟩ := sub_strs (m.sub fun _ _ q => q)
      exact ⟨M.map fun c => [c], by rw [ed, e], M, rfl, s⟩
    · rw [e, sum_ones]
      have := hs.length_le
      omega
  · subst ed
    refine rtC (ec_if (T := fun q => q = true → M ≠ []) (EvTC.imp (etc_and (T := fun q => q = true → M ≠ []) (U := fun _ => True) (EvTC.imp (tn (xv dv) ed_str) fun q hq hq2 => ?_) fun _ => EvTC.imp (tt_cmp (ec_draw (many := 3) (a2 (xv (hx.mono e1)) ed_int) (B.mono e1) (by decide) (by decide))) fun _ _ => trivial) fun q hq hq2 => ?_) (fun ht => ?_) fun _ => ?_) e1 kr
    · rw [hq2] at hq
      have : (!decide (M = [])) = true := hq.symm
      simpa using this
    · rcases hq with ⟨h, _⟩ | ⟨h, _⟩
      · rw [h] at hq2
        cases hq2
      · exact h rfl
    · refine EvD.in (xv dv) ⟨M, rfl, .inr ⟨⟨R.pw.sublist hM, ?_, ?_, fun c hc => R.asc c (hM.subset hc), fun c hc => hM.subset hc⟩, hM.length_le⟩⟩
      · have := ht rfl
        cases M with
        | nil => exact absurd rfl this
        | cons _ _ => simp
      · have := hM.length_le
        omega
    · exact EvD.in ed_str ⟨[46], rfl, .inl rfl⟩
abbrev st_law_some_room : Stmt := top 60
theorem sc_law_some_room : FnScope ["_law_bag", "_law_faces"] ["_law_bag", "_law_faces"] (defScope st_law_some_room) := ⟨rfl, rfl, rfl, by decide +kernel, rfl, by decide +kernel, by decide +kernel⟩
def R_room (H : Hp) (ds : List Dt) (C : Dt → Prop) : Prop := ∃ b l zs L, ds = [.obj b, .str L] ∧ Bag b l zs H ∧ 1 ≤ L.length ∧ L.length ≤ 20 ∧ C = fun e => ∃ r, e = .str r ∧ rmOf r L
theorem ec_cat {σ : St} {H : Hp} {ta tb : TE} {A : List Nat → Prop} {L : List Nat} (ha : EvC ta σ H (fun d => ∃ a, d = .str a ∧ a.length ≤ 10 ∧ A a)) (hb : EvC tb σ H (fun d => ∃ c, d = .str [c] ∧ c ∈ L)) : EvC (tOp rAddU ta tb) σ H (fun d => ∃ a c, d = .str (a ++ [c]) ∧ a.length ≤ 10 ∧ A a ∧ c ∈ L) :=
  ec_add ha hb fun a b ⟨x, ea, hx, ax⟩ ⟨c, eb, hc⟩ => by
    subst ea eb
    exact ⟨_, rfl, by show List.length _ ≤ 100000; rw [List.length_append]; simp; omega, x, c, rfl, hx, ax, hc⟩
theorem c_law_some_room (T : Txt mg) (F : DefAt K mg "_law_some_room" st_law_some_room) (C__law_of : COf P w K mg base) : Cal P w K mg base CX0 3 "_law_some_room" ["_law_bag", "_law_faces"] (spR R_room) := by
  refine cal_of sc_law_some_room F (fun _ _ _ ⟨_, _, _, _, e, _⟩ => by rw [e]; rfl) (fun _ _ _ _ _ _ us hl => match us, hl with | [_, _], _ => rfl) fun f cdv A outer s H hr E => ?_
  refine ⟨_, (pss_one (ps_ret (pe_op op_addU (pe_op op_addU (pe_op op_addU (pe_cal C__law_of hr pass0 (pa_cons (pv 0) (pa_cons (pv 1) pa_nil))) (pe_cal C__law_of hr pass0 (pa_cons (pv 0) (pa_cons (pv 1) pa_nil)))) (pe_cal C__law_of hr pass0 (pa_cons (pv 0) (pa_cons (pv 1) pa_nil)))) (pe_cal C__law_of hr pass0 (pa_cons (pv 0) (pa_cons (pv 1) pa_nil)))))), ?_⟩
  rintro ds C vs hd ⟨b, l, zs, L, rfl, B, h1, h2, rfl⟩ D kr kn
  obtain ⟨x, y, rfl, hx, hy⟩ := dqa2 hd
  have one := of_str (E := E0) (a2 (xv (i := 0) (σ := start ["_law_bag", "_law_faces"] [x, y]) hx) (xv (i := 1) hy)) B h1 (by omega)
  refine rtC (EvC.imp (ec_cat (A := fun a => ∃ p q u, a = [p, q, u] ∧ p ∈ L ∧ q ∈ L ∧ u ∈ L) (EvC.imp (ec_cat (A := fun a => ∃ p q, a = [p, q] ∧ p ∈ L ∧ q ∈ L) (EvC.imp (ec_cat (A := fun a => ∃ p, a = [p] ∧ p ∈ L) (EvC.imp one fun d ⟨c, e, hc⟩ => ⟨[c], e, by simp, c, rfl, hc⟩) one) fun d ⟨a, c, e, _, ⟨p, ea, hp⟩, hc⟩ => ⟨a ++ [c], e, by rw [ea]; simp, p, c, by rw [ea] <;> rfl, hp, hc⟩) one) fun d ⟨a, c, e, _, ⟨p, q, ea, hp, hq⟩, hc⟩ => ⟨a ++ [c], e, by rw [ea]; simp, p, q, c, by rw [ea] <;> rfl, hp, hq, hc⟩) one) fun d ⟨a, c, e, _, ⟨p, q, u, ea, hp, hq, hu⟩, hc⟩ => ⟨a ++ [c], e, ⟨p, q, u, c, by rw [ea] <;> rfl⟩, fun z hz => ?_⟩) (Ex.refl H) kr
  rw [ea] at hz
  simp at hz
  rcases hz with rfl | rfl | rfl | rfl <;> assumption
abbrev st_law_some_cut : Stmt := top 61
theorem sc_law_some_cut : FnScope ["_law_bag", "_law_faces"] ["_law_bag", "_law_faces"] (defScope st_law_some_cut) := ⟨rfl, rfl, rfl, by decide +kernel, rfl, by decide +kernel, by decide +kernel⟩
def R_scut (H : Hp) (ds : List Dt) (C : Dt → Prop) : Prop := ∃ b l zs L, ds = [.obj b, .str L] ∧ Bag b l zs H ∧ 1 ≤ L.length ∧ L.length ≤ 20 ∧ C = fun e => ∃ c, e = .str c ∧ CutOk c L
theorem c_law_some_cut (T : Txt mg) (F : DefAt K mg "_law_some_cut" st_law_some_cut) (C__law_of : COf P w K mg base) : Cal P w K mg base CX0 3 "_law_some_cut" ["_law_bag", "_law_faces"] (spR R_scut) := by
  refine cal_of sc_law_some_cut F (fun _ _ _ ⟨_, _, _, _, e, _⟩ => by rw [e]; rfl) (fun _ _ _ _ _ _ us hl => match us, hl with | [_, _], _ => rfl) fun f cdv A outer s H hr E => ?_
  refine ⟨_, (pss_one (ps_ret (pe_op op_addU (pe_op op_addU (pe_cal C__law_of hr pass0 (pa_cons (pv 0) (pa_cons pe_str pa_nil))) (pe_cal C__law_of hr pass0 (pa_cons (pv 0) (pa_cons (pv 1) pa_nil)))) (pe_cal C__law_of hr pass0 (pa_cons (pv 0) (pa_cons (pv 1) pa_nil)))))), ?_⟩
  rintro ds C vs hd ⟨b, l, zs, L, rfl, B, h1, h2, rfl⟩ D kr kn
  obtain ⟨x, y, rfl, hx, hy⟩ := dqa2 hd
  have one := of_str (E := E0) (a2 (xv (i := 0) (σ := start ["_law_bag", "_law_faces"] [x, y]) hx) (xv (i := 1) hy)) B h1 (by omega)
  have sgn := of_str (L := [124, 45]) (E := E0) (a2 (xv (i := 0) (σ := start ["_law_bag", "_law_faces"] [x, y]) hx) (ed_str (z := "|-"))) B (by decide) (by decide)
  exact rtC (EvC.imp (ec_cat (A := fun a => ∃ p q, a = [p, q] ∧ (p = 124 ∨ p = 45) ∧ q ∈ L) (EvC.imp (ec_cat (A := fun a => ∃ p, a = [p] ∧ (p = 124 ∨ p = 45)) (EvC.imp sgn fun d ⟨c, e, hc⟩ => ⟨[c], e, by simp, c, rfl, by simpa using hc⟩) one) fun d ⟨a, c, e, _, ⟨p, ea, hp⟩, hc⟩ => ⟨a ++ [c], e, by rw [ea]; simp, p, c, by rw [ea] <;> rfl, hp, hc⟩) one) fun d ⟨a, c, e, _, ⟨p, q, ea, hp, hq⟩, hc⟩ => ⟨a ++ [c], e, p, q, c, by rw [ea] <;> rfl, hp, hq, hc⟩) (Ex.refl H) kr
end
end FW
set_option maxRecDepth 100000
set_option maxHeartbeats 8000000
namespace FW
open PySem L2
open Evl (Ex Ex.refl Ex.trans Ex.new Ex.mut EvT)
section
variable {P : Program} {w : World} {K : PySem.W.Frag} {mg : Str → Option Value} {base : Heap} {Cb : Addr}
abbrev CPa (P : Program) (w : World) (K : PySem.W.Frag) (mg : Str → Option Value) (base : Heap) : Prop := Cal P w K mg base CX0 2 "_law_part" ["_law_bag", "_law_letters_here"] (spR R_part)
abbrev CSc (P : Program) (w : World) (K : PySem.W.Frag) (mg : Str → Option Value) (base : Heap) : Prop := Cal P w K mg base CX0 3 "_law_some_cut" ["_law_bag", "_law_faces"] (spR R_scut)
theorem four {p : Dt → Prop} {ds : List Dt} (hl : ds.length = 4) (h : ∀ d ∈ ds, p d) : ∃ a b c d, ds = [a, b, c, d] ∧ p a ∧ p b ∧ p c ∧ p d := by
  match ds, hl with
  | [a, b, c, d], _ => exact ⟨a, b, c, d, rfl, h a (by simp), h b (by simp), h c (by simp), h d (by simp)⟩
abbrev st_law_some_line : Stmt := top 62
theorem sc_law_some_line : FnScope ["_law_bag", "_law_faces", "_law_cutters", "_law_cut_here", "_law_parts_here", "_law_k"] ["_law_bag", "_law_faces", "_law_cutters"] (defScope st_law_some_line) := ⟨rfl, rfl, rfl, by decide +kernel, rfl, by decide +kernel, by decide +kernel⟩
def R_sline (H : Hp) (ds : List Dt) (C : Dt → Prop) : Prop := ∃ b l zs fc ct, ds = [.obj b, .str fc, .str ct] ∧ Bag b l zs H ∧ Rising fc lowerL ∧ Rising ct upperL ∧ fc.length ≤ 20 ∧ ct.length ≤ 20 ∧ C = fun e => ∃ ln : Ln, e = ln.d ∧ LnOk ln fc ct
theorem c_law_some_line (T : Txt mg) (F : DefAt K mg "_law_some_line" st_law_some_line) (C__law_draw : CDr P w K mg base) (C__law_part : CPa P w K mg base) (C__law_some_cut : CSc P w K mg base) : Cal P w K mg base CX0 4 "_law_some_line" ["_law_bag", "_law_faces", "_law_cutters"] (spR R_sline) := by
  refine cal_of sc_law_some_line F (fun _ _ _ ⟨_, _, _, _, _, e, _⟩ => by rw [e]; rfl) (fun _ _ _ _ _ _ us hl => match us, hl with | [_, _, _], _ => rfl) fun f cdv A outer s H hr E => ?_
  refine ⟨_, (pss_cons (ps_set (i := 3) sc_law_some_line.nd rfl (Or.inl rfl) (pe_ifExp (pt_cmpR op_gt (pe_calO C__law_draw hr (pa_cons (pv 0) (pa_cons pe_int pa_nil))) pe_int (nomark _)) (pe_cal C__law_some_cut hr pass0 (pa_cons (pv 0) (pa_cons (pv 1) pa_nil))) pe_str))
      (pss_cons (ps_setLc (i := 4) (own := [("_law_k", 5)]) (g := gName 5) rfl sc_law_some_line.nd rfl rfl (sw_true rfl rfl rfl (by decide +kernel)) (pi_range1 rfl T.range (pa_cons pe_int pa_nil)) (blkOk_by (own := [("_law_k", 5)]) (N := ["_law_bag", "_law_faces", "_law_cutters", "_law_cut_here", "_law_parts_here", "_law_k"]) (sc := defScope st_law_some_line) (by decide +kernel)) (fun _ _ _ _ _ => (pg_name (i := 5) sc_law_some_line.nd rfl (Or.inl rfl))) (fun _ _ _ _ _ => pts_nilH) (fun _ _ _ _ _ => pe_hide (pe_ifExp (pt_cmpR op_eq (pe_calO C__law_draw hr (pa_cons (pv 0) (pa_cons pe_int pa_nil))) pe_int (nomark _)) (pe_cal C__law_part hr pass0 (pa_cons (pv 0) (pa_cons (pv 1) pa_nil))) pe_str)))
      (pss_one (ps_ret (pe_tup (pa_cons (pe_ix ix_U (pv 4) pe_int (fun _ _ => rfl)) (pa_cons (pe_ix ix_U (pv 4) pe_int (fun _ _ => rfl)) (pa_cons (pe_ix ix_U (pv 4) pe_int (fun _ _ => rfl)) (pa_cons (pe_ix ix_U (pv 4) pe_int (fun _ _ => rfl)) (pa_cons (pe_cal C__law_part hr pass0 (pa_cons (pv 0) (pa_cons (pv 2) pa_nil))) (pa_cons (pv 3) pa_nil))))))))))), ?_⟩
  rintro ds C vs hd ⟨b, l, zs, fc, ct, rfl, B, Rf, Rc, hf, hc, rfl⟩ D kr kn
  obtain ⟨x, y, z, rfl, hx, hy, hz⟩ := dqa3 hd
  have f1 := Rf.ne
  refine g_asg (C := fun d => ∃ c, d = .str c ∧ (c = [] ∨ CutOk c fc)) (ec_if (T := fun _ => True) (EvTC.imp (tt_cmp (ec_draw (many := 5) (a2 (xv hx) ed_int) B (by decide) (by decide))) fun _ _ => trivial) (fun _ => EvC.imp (ed_call (C := fun e => ∃ c, e = .str c ∧ CutOk c fc) (a2 (xv hx) (xv hy)) fun H1 e => ⟨b, l, zs, fc, rfl, B.mono e, f1, hf, rfl⟩) fun d ⟨c, e, h⟩ => ⟨c, e, .inr h⟩) fun _ => EvD.in ed_str ⟨[], rfl, .inl rfl⟩) fun vc dc H1 e1 ⟨cu, ec, hcu⟩ dvc => ?_
  subst ec
  have B1 := B.mono e1
  refine g_asg (C := fun d => ∃ ds, d = .lst ds ∧ ds.length = 4 ∧ ∀ d ∈ ds, ∃ p, d = .str p ∧ PartOk p fc) ?_ fun vp dp H2 e2 ⟨ds, ed, hl, hp⟩ dvp => ?_
  · refine EvC.imp (ec_lc (X := fun ys => ys = rngD 4) (T := fun _ b => b = true) (R := fun _ d => ∃ p, d = .str p ∧ PartOk p fc) (ei_rangeD ed_int ⟨by decide, by decide⟩) (fun xs e => by rw [e, rngD_len]; decide) (fun _ => rfl) fun xs ex i z v B0 ez eB dz => ⟨etc_yes, fun _ => ?_⟩) fun d ⟨xs, ds, ex, ed, m⟩ => ?_
    · refine ec_if (T := fun _ => True) (EvTC.imp (tt_eq (ec_draw (many := 2) (a2 (xv ((hx.mono e1).mono eB)) ed_int) (B1.mono eB) (by decide) (by decide))) fun _ _ => trivial) (fun _ => ed_call (a2 (xv ((hx.mono e1).mono eB)) (xv ((hy.mono e1).mono eB))) fun H1 e => ⟨b, l, zs, fc, lowerL, rfl, (B1.mono eB).mono e, Rf, hf, rfl⟩) fun _ => EvD.in ed_str ⟨[46], rfl, .inl rfl⟩
    · obtain ⟨h1, h2⟩ := m.all fun _ _ q => q
      exact ⟨ds, ed, by rw [h1, ex, rngD_len] <;> rfl, fun d hd => (h2 d hd).elim fun _ q => q⟩
  · subst ed
    obtain ⟨a0, a1', a2', a3', rfl, ⟨p0, rfl, h0⟩, ⟨p1, rfl, h1⟩, ⟨p2, rfl, h2⟩, ⟨p3, rfl, h3⟩⟩ := four hl hp
    refine rtC (EvC.imp (ec_tup (Cs := [fun d => d = .str p0, fun d => d = .str p1, fun d => d = .str p2, fun d => d = .str p3, fun d => ∃ p, d = .str p ∧ PartOk p ct, fun d => d = .str cu]) (ea_cons (xi (xv dvp)) (ea_cons (xi (xv dvp)) (ea_cons (xi (xv dvp)) (ea_cons (xi (xv dvp)) (ea_cons (ed_call (a2 (xv ((hx.mono e1).mono e2)) (xv ((hz.mono e1).mono e2))) fun H1 e => ⟨b, l, zs, ct, upperL, rfl, (B1.mono e2).mono e, Rc, hc, rfl⟩) (ea_cons (xv (dvc.mono e2)) ea_nil)))))) (by simp)) fun d ⟨ds, ed, cs⟩ => ?_) (e1.trans e2) kr
    cases cs with
    | cons c1 cs => cases cs with
      | cons c2 cs => cases cs with
        | cons c3 cs => cases cs with
          | cons c4 cs => cases cs with
            | cons c5 cs => cases cs with
              | cons c6 cs =>
                cases cs
                obtain ⟨pc, rfl, hpc⟩ := c5
                subst c1 c2 c3 c4 c6
                exact ⟨⟨p0, p1, p2, p3, pc, cu⟩, ed, ⟨h0, h1, h2, h3, hpc, hcu⟩⟩
abbrev st_law_some_book : Stmt := top 63
theorem sc_law_some_book : FnScope ["_law_bag", "_law_sizes", "_law_faces", "_law_cutters", "_law_lines", "_law_k"] ["_law_bag", "_law_sizes"] (defScope st_law_some_book) := ⟨rfl, rfl, rfl, by decide +kernel, rfl, by decide +kernel, by decide +kernel⟩
def R_sbook (H : Hp) (ds : List Dt) (C : Dt → Prop) : Prop := ∃ b l zs, ds = [.obj b, .lst [.int 3, .int 3, .int 3]] ∧ Bag b l zs H ∧ C = fun e => ∃ sp, e = Spec.d sp ∧ SpecOk sp
theorem lines_of {fc ct : List Nat} : ∀ {ds : List Dt}, (∀ d ∈ ds, ∃ ln : Ln, d = ln.d ∧ LnOk ln fc ct) → ∃ ls : List Ln, ds = ls.map Ln.d ∧ ∀ l ∈ ls, LnOk l fc ct
  | [], _ => ⟨[], rfl, fun _ h => by cases h⟩
  | d :: ds, h => by
    obtain ⟨ln, e, hl⟩ := h d (List.mem_cons_self ..)
    obtain ⟨ls, e2, hls⟩ := lines_of (ds := ds) fun x hx => h x (List.mem_cons_of_mem _ hx)
    refine ⟨ln :: ls, by rw [e, e2] <;> rfl, fun x hx => ?_⟩
    rcases List.mem_cons.mp hx with rfl | z
    · exact hl
    · exact hls x z
theorem noLA_lines : ∀ ls : List Ln, NoLA (ls.map Ln.d)
  | [] => .nil
  | l :: ls => .cons l.noL (noLA_lines ls)
theorem c_law_some_book (T : Txt mg) (F : DefAt K mg "_law_some_book" st_law_some_book) (C__law_draw : CDr P w K mg base) (C__law_some_faces : Cal P w K mg base CX0 3 "_law_some_faces" ["_law_bag", "_law_most"] (spR (R_some lowerL))) (C__law_some_cutters : Cal P w K mg base CX0 3 "_law_some_cutters" ["_law_bag", "_law_most"] (spR (R_some upperL)))
    (C__law_some_line : Cal P w K mg base CX0 4 "_law_some_line" ["_law_bag", "_law_faces", "_law_cutters"] (spR R_sline)) (C__law_part : CPa P w K mg base) (C__law_some_cut : CSc P w K mg base) : Cal P w K mg base CX0 5 "_law_some_book" ["_law_bag", "_law_sizes"] (spR R_sbook) := by
  refine cal_of sc_law_some_book F (fun _ _ _ ⟨_, _, _, e, _⟩ => by rw [e]; rfl) (fun _ _ _ _ _ _ us hl => match us, hl with | [_, _], _ => rfl) fun f cdv A outer s H hr E => ?_
  refine ⟨_, (pss_cons (ps_asg (pe_tup (pa_cons (pe_cal C__law_some_faces hr pass0 (pa_cons (pv 0) (pa_cons (pe_ix ix_U (pv 1) pe_int (fun _ _ => rfl)) pa_nil))) (pa_cons (pe_cal C__law_some_cutters hr pass0 (pa_cons (pv 0) (pa_cons (pe_ix ix_U (pv 1) pe_int (fun _ _ => rfl)) pa_nil))) pa_nil))) (pg_tup rfl (pgs_cons (pg_name (i := 2) sc_law_some_book.nd rfl (Or.inr rfl)) (pgs_cons (pg_name (i := 3) sc_law_some_book.nd rfl (Or.inr rfl)) pgs_nil))))
      (pss_cons (ps_setLc (i := 4) (own := [("_law_k", 5)]) (g := gName 5) rfl sc_law_some_book.nd rfl rfl (sw_true rfl rfl rfl (by decide +kernel)) (pi_range1 rfl T.range (pa_cons (pe_calO C__law_draw hr (pa_cons (pv 0) (pa_cons (pe_op op_addU (pe_ix ix_U (pv 1) pe_int (fun _ _ => rfl)) pe_int) pa_nil))) pa_nil)) (blkOk_by (own := [("_law_k", 5)]) (N := ["_law_bag", "_law_sizes", "_law_faces", "_law_cutters", "_law_lines", "_law_k"]) (sc := defScope st_law_some_book) (by decide +kernel)) (fun _ _ _ _ _ => (pg_name (i := 5) sc_law_some_book.nd rfl (Or.inl rfl))) (fun _ _ _ _ _ => pts_nilH) (fun _ _ _ _ _ => pe_hide (pe_cal C__law_some_line hr pass0 (pa_cons (pv 0) (pa_cons (pv 2) (pa_cons (pv 3) pa_nil))))))
      (pss_cons (ps_if (PW.pt (pw_and (pt_cmpR op_gt (pe_calO C__law_draw hr (pa_cons (pv 0) (pa_cons pe_int pa_nil))) pe_int (nomark _)) (pw_and1 (pt_cmpR op_lt (pe_len T (pv 4)) (pe_ix ix_U (pv 1) pe_int (fun _ _ => rfl)) (nomark _))))) (pss_one (ps_expr (pe_bm PySem.F.plainAttrs_list PySem.F.slot_list_append PySem.F.type_list_append mt_append (pv 4) (pa_cons (pe_tup (pa_cons pe_str (pa_cons pe_str (pa_cons pe_str (pa_cons pe_str (pa_cons (pe_cal C__law_part hr pass0 (pa_cons (pv 0) (pa_cons (pv 3) pa_nil))) (pa_cons (pe_cal C__law_some_cut hr pass0 (pa_cons (pv 0) (pa_cons (pv 2) pa_nil))) pa_nil))))))) pa_nil)))) pss_nil)
      (pss_one (ps_ret (pe_lst (pa_cons (pv 2) (pa_cons (pv 3) (pa_cons (pv 4) pa_nil))))))))), ?_⟩
  rintro ds C vs hd ⟨b, l, zs, rfl, B, rfl⟩ D kr kn
  obtain ⟨x, y, rfl, hx, hy⟩ := dqa2 hd
  refine g_tup2 (A := fun e => ∃ f, e = .str f ∧ Rising f lowerL ∧ f.length ≤ 3) (B := fun e => ∃ f, e = .str f ∧ Rising f upperL ∧ f.length ≤ 3) (ed_call (a2 (xv hx) (xi (xv hy))) fun H1 e => ⟨b, l, zs, 3, rfl, B.mono e, by decide, by decide, rfl⟩) (ed_call (a2 (xv hx) (xi (xv hy))) fun H1 e => ⟨b, l, zs, 3, rfl, B.mono e, by decide, by decide, rfl⟩) fun vf vct df dct H1 e1 ⟨fc, ef, Rf, f3⟩ ⟨ct, ec, Rc, c3⟩ dvf dvc => ?_
  subst ef ec
  cases dvf
  cases dvc
  have B1 := B.mono e1
  have hx1 := hx.mono e1
  have hy1 := hy.mono e1
  have f1 := Rf.ne
  refine g_asgF (C := fun d => ∃ ls : List Ln, d = .lst (ls.map Ln.d) ∧ ls.length ≤ 3 ∧ ∀ l ∈ ls, LnOk l fc ct) ?_ fun vl dl H2 e2 ⟨ls, ed, hl, hls⟩ dvl fr => ?_
  · refine EvF.imp (ef_lc (X := fun ys => ∃ n : Int, (0 ≤ n ∧ n ≤ 3) ∧ ys = rngD n) (T := fun _ b => b = true) (R := fun _ d => ∃ ln : Ln, d = ln.d ∧ LnOk ln fc ct) (ei_range (N := fun n => 0 ≤ n ∧ n ≤ 3) (EvC.imp (ec_draw (many := 3 + 1) (a2 (xv hx1) (xa (xi (xv hy1)) ed_int rfl trivial)) B1 (by decide) (by decide)) fun d ⟨z, e, z0, z1⟩ => ⟨z, e, z0, by omega⟩) fun n hn => by omega) (fun xs ⟨n, hn, e⟩ => by rw [e, rngD_len]; omega) (fun _ => rfl) fun xs ex i z v B0 ez eB dz => ⟨etc_yes, fun _ => ed_call (a3 (xv (hx1.mono eB)) (xv (.str fc)) (xv (.str ct))) fun H1 e => ⟨b, l, zs, fc, ct, rfl, (B1.mono eB).mono e, Rf, Rc, by omega, by omega, rfl⟩⟩) fun d ⟨xs, ds, ⟨n, hn, ex⟩, ed, m⟩ => ?_
    obtain ⟨h1, h2⟩ := m.all fun _ _ q => q
    obtain ⟨ls, e3, hls⟩ := lines_of (ds := ds) (fc := fc) (ct := ct) fun d hd => (h2 d hd).elim fun _ q => q
    refine ⟨ls, by rw [ed, e3], ?_, hls⟩
    have := congrArg List.length e3
    rw [List.length_map, h1, ex, rngD_len] at this
    omega
  · subst ed
    obtain ⟨p, pvs, rfl, hp, kp⟩ := dq_lst dvl
    have hp1 : H1 p = none := fr p rfl
    have B2 := B1.mono e2
    have hx2 := hx1.mono e2
    have hy2 := hy1.mono e2
    have fin : ∀ (ls : List Ln) (H3 : Hp), ls.length ≤ 4 → (∀ l ∈ ls, LnOk l fc ct) → Ex H H3 → Dq H3 (.ref p) (.lst (ls.map Ln.d)) → ∀ σ', σ' = [some x, some y, some (.str (S fc)), some (.str (S ct)), some (.ref p), (none : Option V)] → tRet (tLst (tCons (tVar 2) (tCons (tVar 3) (tCons (tVar 4) tNil)))) D σ' H3 := fun ls H3 h4 hls e dp σ' hσ => by
      subst hσ
      exact rtC (C := fun e => ∃ sp, e = Spec.d sp ∧ SpecOk sp) (EvD.in (xL (a3 (xv (.str fc)) (xv (.str ct)) (xv dp))) ⟨⟨fc, ct, ls⟩, rfl, ⟨Rf, Rc, f3, c3, by show ls.length ≤ 8; omega, hls⟩⟩) e kr
    refine g_when (T := fun _ => True) (EvTC.imp (etc_and (T := fun _ => True) (U := fun _ => True) (EvTC.imp (tt_cmp (ec_draw (many := 3) (a2 (xv hx2) ed_int) B2 (by decide) (by decide))) fun _ _ => trivial) fun _ => EvTC.imp (et_B (ed_b0 (xl (xv dvl) rfl (by show List.length _ ≤ 100000; rw [List.length_map]; omega)) (xi (xv hy2)))) fun _ _ => trivial) fun _ _ => trivial) (fun _ H3 e3 => ?_) fun _ H3 e3 => ?_
    · have B3 := B2.mono e3
      have hx3 := hx2.mono e3
      refine s_append (C := fun d => ∃ ln : Ln, d = ln.d ∧ LnOk ln fc ct) (vv_var rfl) (e3 _ _ hp) (by have := kp.len; rw [List.length_map] at this; omega) ?_ fun v4 d4 H4 e4 ⟨ln, ed, hln⟩ dv4 => ?_
      · refine EvC.imp (ec_tup (Cs := [fun d => d = .str [46], fun d => d = .str [46], fun d => d = .str [46], fun d => d = .str [46], fun d => ∃ p, d = .str p ∧ PartOk p ct, fun d => ∃ c, d = .str c ∧ CutOk c fc]) (ea_cons ed_str (ea_cons ed_str (ea_cons ed_str (ea_cons ed_str (ea_cons (ed_call (a2 (xv hx3) (xv (.str ct))) fun H1 e => ⟨b, l, zs, ct, upperL, rfl, B3.mono e, Rc, by omega, rfl⟩) (ea_cons (ed_call (a2 (xv hx3) (xv (.str fc))) fun H1 e => ⟨b, l, zs, fc, rfl, B3.mono e, f1, by omega, rfl⟩) ea_nil)))))) (by simp)) fun d ⟨ds, ed, cs⟩ => ?_
        cases cs with
        | cons c1 cs => cases cs with
          | cons c2 cs => cases cs with
            | cons c3' cs => cases cs with
              | cons c4 cs => cases cs with
                | cons c5 cs => cases cs with
                  | cons c6 cs =>
                    cases cs
                    obtain ⟨pc, rfl, hpc⟩ := c5
                    obtain ⟨cu, rfl, hcu⟩ := c6
                    subst c1 c2 c3' c4
                    exact ⟨⟨[46], [46], [46], [46], pc, cu⟩, ed, ⟨.inl rfl, .inl rfl, .inl rfl, .inl rfl, hpc, .inr hcu⟩⟩
      · subst ed
        have nT : ∀ xs, H4 p ≠ some (.tup xs) := fun xs z => by
          rw [e4 _ _ (e3 _ _ hp)] at z
          cases z
        refine fin (ls ++ [ln]) _ (by rw [List.length_append]; simp; omega) (fun q hq => ?_) (ex_put (Evl.fresh_back e1 hp1) (((e1.trans e2).trans e3).trans e4)) ?_ _ rfl
        · rcases List.mem_append.mp hq with z | z
          · exact hls q z
          · rw [List.mem_singleton] at z
            rw [z]
            exact hln
        · refine .lst upd_same ?_
          rw [List.map_append]
          have hs : Ex (hid H4 p) (upd H4 p (.lst (pvs ++ [v4]))) := ex_put hid_same hid_sub
          exact (((kp.mono (e3.trans e4)).hidL nT (noLA_lines ls)).mono hs).app (.one ((dv4.hidL nT ln.noL).mono hs))
    · exact fin ls H3 (by omega) hls ((e1.trans e2).trans e3) (dvl.mono e3) _ rfl
/-! ### the bag is made -/
theorem sqL_mono {K : PySem.W.Frag} {H H' : Hp} {a : Addr} {xs : List V} (e : Ex H H') (h : SqL K H a xs) : SqL K H' a xs := by
  rcases h with (h | ⟨o, h⟩) | h
  · exact .inl (.inl (e _ _ h))
  · exact .inl (.inr ⟨o, e _ _ h⟩)
  · exact .inr h
def spOpen (K : PySem.W.Frag) : Sp := fun vs H Q _ => ∃ (sl : Addr) (zs : List Int), vs = [.ref sl] ∧ SqL K H sl (zs.map V.int) ∧ zs.length ≤ 63 ∧ ∀ b l m H2, Ex H H2 → H b = none → H2 b = some (.lst (bagV l 0 0 m 0)) → H2 l = some (.lst (zs.map V.int)) → bagOk 0 0 m → Q (.ref b) H2
theorem vs_intsZ {H : Hp} : ∀ {zs : List Int} {vs : List V}, DqA H vs (intsZ zs) → vs = zs.map V.int
  | [], _, .nil => rfl
  | z :: zs, _, .cons k ks => by
    cases k
    rw [vs_intsZ ks, List.map_cons]
abbrev st_law_open : Stmt := top 49
theorem sc_law_open : FnScope ["_law_script", "_law_mixed", "_law_cell"] ["_law_script"] (defScope st_law_open) := ⟨rfl, rfl, rfl, by decide +kernel, rfl, by decide +kernel, by decide +kernel⟩
theorem c_law_open (T : Txt mg) (F : DefAt K mg "_law_open" st_law_open) : Cal P w K mg base CX0 1 "_law_open" ["_law_script"] (spOpen K) := by
  refine cal_ofS sc_law_open F (fun vs H Q E ⟨_, _, e, _⟩ => by rw [e]; rfl) (fun _ _ _ _ _ _ us hl => match us, hl with | [_], _ => rfl) fun f cdv A outer s H hr E => ?_
  refine ⟨_, (pss_cons (ps_set (i := 1) sc_law_open.nd rfl (Or.inl rfl) pe_int)
      (pss_cons (ps_for PassesOwn.never rfl (pi_list (pe_slice sl_U (pv 0) po_none (po_some pe_int))) (pg_name (i := 2) sc_law_open.nd rfl (Or.inl rfl)) (pss_one (ps_set (i := 1) sc_law_open.nd rfl (Or.inl rfl) (pe_op op_mod (pe_intC T (pe_op op_addU (pe_op op_addU (pe_op op_mulK (pv 1) pe_int) (pe_op op_mulK (pe_op op_mod (pe_intC T (pv 2)) pe_int) pe_int)) pe_int)) pe_int))))
      (pss_one (ps_ret (pe_lst (pa_cons (pe_listL T (pe_slice sl_U (pv 0) po_none (po_some pe_int))) (pa_cons pe_int (pa_cons pe_int (pa_cons (pv 1) (pa_cons pe_int pa_nil)))))))))), ?_⟩
  rintro vs Q ⟨sl, zs, rfl, hs, hz, q⟩
  have lz : (intsZ zs).length = zs.length := List.length_map ..
  have cutE : cutV (zs.map V.int) none (some 63) = zs.map V.int := by
    have lv : (zs.map V.int).length = zs.length := List.length_map ..
    rw [cutV_L]
    unfold cutL
    have h1 : HT.sIx (zs.map V.int).length 0 none = 0 := rfl
    have h2 : HT.sIx (zs.map V.int).length (zs.map V.int).length (some 63) = min 63 (zs.map V.int).length := by
      unfold HT.sIx
      simp
    rw [h1, h2, lv, List.drop_zero, Nat.sub_zero, Nat.min_eq_right hz, ← lv, List.take_length]
  have sl63 : ∀ {σ : St} {H' : Hp}, σ[0]? = some (some (.ref sl)) → Ex H H' → EvD (tSl (rSlU K) (tVar 0) tNoPart (tPart (tC (.int 63)))) σ H' (.lst (intsZ zs)) := fun {σ H'} h e H1 e1 Q q =>
    ⟨.ref sl, h, eo_none (σ := σ) H1 (Ex.refl H1) _ fun H3 e3 => eo_i (σ := σ) (i := 63) H3 (Ex.refl H3) _ fun H4 e4 => .inl ⟨sl, zs.map V.int, rfl, sqL_mono (((e.trans e1).trans e3).trans e4) hs, fun p np => by
      rw [cutE]
      exact q _ _ _ ((e3.trans e4).trans (Ex.new np)) rfl (.lst upd_same (dqa_intsZ zs))⟩⟩
  refine g_asgD (d := .int 10042) ed_int fun v H1 e1 dv => ?_
  cases dv
  refine g_for (ei_listD (sl63 rfl e1)) fun xs B0 exs e0 => ?_
  subst exs
  refine ⟨fun i σ' H' => Ex B0 H' ∧ ∃ m p, σ' = [some (.ref sl), some (.int m), p] ∧ 0 ≤ m ∧ m < 2147483648, ⟨Ex.refl _, 10042, none, rfl, by decide, by decide⟩, fun i σ' H' h => h.1, ?_, ?_⟩
  · rintro i z v σ' H2 ez ⟨H0, ⟨e2, m, p, rfl, m0, m1⟩, e3⟩ dv
    obtain ⟨zi, _, rfl⟩ := map_at ez
    cases dv
    refine g_asgS (d := .int ((m * 52321 + zi % 1000033 * 977 + 29) % 2147483549)) (ed_iC (ed_intI (xa (xa (ed_iC (xv (.int m)) ed_int (mulOk_r (by decide))) (ed_iC (ed_iC (ed_intI (xv (.int zi))) ed_int (by decide)) ed_int (mulOk_r (by decide))) rfl trivial) ed_int rfl trivial)) ed_int (by decide)) fun v9 H3 e4 d9 => ?_
    cases d9
    have mb := mod_bd (m * 52321 + zi % 1000033 * 977 + 29) 2147483549 (by decide)
    exact ⟨(e2.trans e3).trans e4, _, _, rfl, mb.1, by omega⟩
  · rintro σ' H2 ⟨e2, m, p, rfl, m0, m1⟩
    have e02 := e1.trans (e0.trans e2)
    have AD := ad_cons (ed_listL (K := K) (.inl (sl63 (σ := [some (.ref sl), some (.int m), p]) rfl e02))) (ad_cons (ed_int (i := 0)) (ad_cons (ed_int (i := 0)) (ad_cons (xv (σ := [some (.ref sl), some (.int m), p]) (i := 1) (.int m)) (ad_cons (ed_int (i := 0)) ad_nil))))
    unfold tRet tLst
    refine AD H2 (Ex.refl _) _ fun vs H3 e3 kv => ?_
    cases kv with
    | cons k0 kv => cases kv with
      | cons k1 kv => cases kv with
        | cons k2 kv => cases kv with
          | cons k3 kv => cases kv with
            | cons k4 kv =>
              cases kv
              cases k1
              cases k2
              cases k3
              cases k4
              obtain ⟨l, lvs, rfl, hl, kl⟩ := dq_lst k0
              have ev : lvs = zs.map V.int := vs_intsZ kl
              subst ev
              refine ⟨by show 5 ≤ sizeLine; decide, fun b hb => ?_⟩
              have hlb : l ≠ b := fun z => by
                rw [z, hb] at hl
                cases hl
              exact q b l m _ ((e02.trans e3).trans (Ex.new hb)) (Evl.fresh_back (e02.trans e3) hb) upd_same (by rw [upd_ne hlb]; exact hl) ⟨by decide, by decide, m0, m1⟩
end
end FW
set_option maxRecDepth 100000
set_option maxHeartbeats 8000000
namespace FW
open PySem L2
open Evl (Ex Ex.refl Ex.trans Ex.new Ex.mut EvT)
/-! # FD5: a room that is no room -/
theorem foldl_cps (l : List Nat) : ∀ (k : Nat) (acc : List Nat), (List.replicate k l.toArray).foldl (· ++ ·) acc.toArray = (acc ++ (List.replicate k l).flatten).toArray
  | 0, acc => by simp
  | k + 1, acc => by
    rw [List.replicate_succ, List.foldl_cons, List.append_toArray, foldl_cps l k (acc ++ l), List.replicate_succ, List.flatten_cons, List.append_assoc]
theorem mul_S (l : List Nat) (k : Nat) : Txt.mul (S l) (k : Int) = S (List.replicate k l).flatten := by
  unfold Txt.mul
  by_cases h0 : k = 0
  · subst h0
    rfl
  · rw [if_neg (by omega)]
    by_cases h1 : (((k : Int) == 1) || ((S l).length == 0)) = true
    · rw [if_pos h1]
      rw [Bool.or_eq_true, beq_iff_eq, beq_iff_eq] at h1
      rcases h1 with h | h
      · have : k = 1 := by omega
        subst this
        simp
      · have hl : l = [] := by
          have : l.length = 0 := by
            rw [S_len] at h
            exact h
          exact List.eq_nil_of_length_eq_zero this
        subst hl
        simp
    · rw [if_neg h1]
      show (⟨(List.replicate (Int.toNat (k : Int)) l.toArray).foldl (· ++ ·) #[]⟩ : Str) = ⟨_⟩
      rw [Int.toNat_natCast]
      have := foldl_cps l k []
      rw [List.nil_append] at this
      exact congrArg Str.mk this
/-- text * int -/
def rMulS : R2 := fun x y H Q => ∃ l k, x = .str (S l) ∧ y = .int ((k : Nat) : Int) ∧ l.length ≤ 100 ∧ k ≤ 100 ∧ Q (.str (S (List.replicate k l).flatten)) H
theorem op_mulS {X : Cx} : OpR X (binaryOp .Mult) rMulS := by
  intro pins s σ H x y v u Q I rx ry h
  obtain ⟨l, k, rfl, rfl, h1, h2, q⟩ := h
  obtain ⟨t, rfl⟩ := rx
  obtain ⟨t', rfl⟩ := ry
  refine SB.mul (PyProof.Rows.mulOk_of 100 100 (by rw [S_len]; exact h1) (by omega) (by omega) (by decide) (by decide)) fun t' k' => ⟨.str (S (List.replicate k l).flatten), H, I.tok _, ⟨t', ?_⟩, q⟩
  rw [mul_S]
section
variable {K : PySem.W.Frag} {σ : St} {H : Hp} {ta tb : TE}
theorem ed_mulS {l : List Nat} {n : Int} (k : Nat) (ha : EvD ta σ H (.str l)) (hb : EvD tb σ H (.int n)) (hn : n = (k : Int) := by rfl) (h1 : l.length ≤ 100 := by exact Nat.le_of_ble_eq_true rfl) (h2 : k ≤ 100 := by decide) : EvD (tOp rMulS ta tb) σ H (.str (List.replicate k l).flatten) := ec_op ha hb fun x y a' b' H1 _ ca cb hx hy Q q => by
  subst ca cb hn
  cases hx
  cases hy
  exact ⟨l, k, rfl, rfl, h1, h2, q _ _ H1 (Ex.refl H1) rfl (.str _)⟩
end
theorem dqa_rep {H : Hp} {v : V} {d : Dt} (h : Dq H v d) : ∀ k : Nat, DqA H (List.replicate k v) (List.replicate k d)
  | 0 => .nil
  | k + 1 => .cons h (dqa_rep h k)
theorem flat_one {α : Type} (a : α) : ∀ k : Nat, (List.replicate k [a]).flatten = List.replicate k a
  | 0 => rfl
  | k + 1 => by rw [List.replicate_succ, List.flatten_cons, flat_one a k]; rfl
section
variable {K : PySem.W.Frag} {σ : St} {H : Hp} {ta tb : TE}
theorem ed_repT {d : Dt} {n : Int} (k : Nat) (ha : EvD ta σ H (.tup [d])) (hb : EvD tb σ H (.int n)) (hn : n = (k : Int) := by rfl) (h1 : 2 ≤ k := by decide) (h2 : k ≤ 1000 := by decide) : EvD (tOp (rRepT K) ta tb) σ H (.tup (List.replicate k d)) := ec_op ha hb fun x y a' b' H1 _ ca cb hx hy Q q => by
  subst ca cb hn
  cases hy
  obtain ⟨p, vs, rfl, hp, kv⟩ := dq_tup hx
  obtain ⟨v, rfl, dv⟩ := dqa1 kv
  refine ⟨p, (k : Int), [v], rfl, rfl, sqT_of hp, by simp, by omega, by omega, by simp, fun p2 h2 => ?_⟩
  rw [Int.toNat_natCast, flat_one]
  exact q _ _ _ (Ex.new h2) rfl (.tup upd_same (dqa_rep (dv.mono (Ex.new h2)) k))
end
theorem Made.some {T : Dt → Bool → Prop} {R : Dt → Dt → Prop} : ∀ {xs ds : List Dt}, Made T R xs ds → (∃ x ∈ xs, ∀ b, T x b → b = true) → ds ≠ []
  | _, _, .nil, ⟨_, h, _⟩ => by cases h
  | _, _, .no t m, ⟨x, h, k⟩ => by
    rcases List.mem_cons.mp h with rfl | z
    · cases k _ t
    · exact Made.some m ⟨x, z, k⟩
  | _, _, .yes _ _ _, _ => by simp
theorem Made.from {T : Dt → Bool → Prop} {R : Dt → Dt → Prop} : ∀ {xs ds : List Dt}, Made T R xs ds → ∀ d ∈ ds, ∃ x, x ∈ xs ∧ T x true ∧ R x d
  | _, _, .nil, _, h => by cases h
  | _, _, .no _ m, d, h => by
    obtain ⟨x, h1, h2⟩ := Made.from m d h
    exact ⟨x, List.mem_cons_of_mem _ h1, h2⟩
  | _, _, .yes t r m, d, h => by
    rcases List.mem_cons.mp h with rfl | z
    · exact ⟨_, List.mem_cons_self .., t, r⟩
    · obtain ⟨x, h1, h2⟩ := Made.from m d z
      exact ⟨x, List.mem_cons_of_mem _ h1, h2⟩
/-- the odd ones -/
def oddL (c g : Nat) : List Dt := [.str [], .str [c, c, c], .str [c, c, c, c, c], .str [c, c, c, g], .str [g, c, c, c], .non, .int 3, .bl true, .lst [.str [c, c, c, c]], .tup [.str [c], .str [c], .str [c], .str [c]], .str [124, c, c, c], .str [65, 65, 65, 65], .str [c, c, c, c, 10], .str [10, c, c, c]]
theorem sub_len : ∀ {L F : List Nat}, L.Nodup → (∀ c ∈ L, c ∈ F) → L.length ≤ F.length
  | [], _, _, _ => Nat.zero_le _
  | c :: L, F, h, k => by
    have hc := k c (List.mem_cons_self ..)
    rw [List.nodup_cons] at h
    have := sub_len (L := L) (F := F.erase c) h.2 fun d hd => by
      have hne : d ≠ c := fun z => h.1 (z ▸ hd)
      exact (List.mem_erase_of_ne hne).mpr (k d (List.mem_cons_of_mem _ hd))
    rw [List.length_erase_of_mem hc] at this
    have := List.length_pos_of_mem hc
    rw [List.length_cons]
    omega
theorem notall {L F : List Nat} (h : F.length < L.length) (hl : L.Nodup) : ∃ c ∈ L, c ∉ F := by
  apply Classical.byContradiction
  intro z
  have hs : ∀ c ∈ L, c ∈ F := fun c hc => Classical.byContradiction fun k => z ⟨c, hc, k⟩
  have := sub_len hl hs
  omega
section
variable {P : Program} {w : World} {K : PySem.W.Frag} {mg : Str → Option Value} {base : Heap} {Cb : Addr}
abbrev st_law_odd_room : Stmt := top 74
theorem sc_law_odd_room : FnScope ["_law_bag", "_law_faces", "_law_gone", "_law_letter"] ["_law_bag", "_law_faces"] (defScope st_law_odd_room) := ⟨rfl, rfl, rfl, by decide +kernel, rfl, by decide +kernel, by decide +kernel⟩
def R_odd (H : Hp) (ds : List Dt) (C : Dt → Prop) : Prop := ∃ b l zs f, ds = [.obj b, .str f] ∧ Bag b l zs H ∧ Rising f lowerL ∧ f.length ≤ 3 ∧ C = fun e => ∃ c g, c ∈ f ∧ g ∉ f ∧ e ∈ oddL c g
theorem c_law_odd_room (T : Txt mg) (F : DefAt K mg "_law_odd_room" st_law_odd_room) (C__law_of : COf P w K mg base) : Cal P w K mg base CX0 3 "_law_odd_room" ["_law_bag", "_law_faces"] (spR R_odd) := by
  refine cal_of sc_law_odd_room F (fun _ _ _ ⟨_, _, _, _, e, _⟩ => by rw [e]; rfl) (fun _ _ _ _ _ _ us hl => match us, hl with | [_, _], _ => rfl) fun f cdv A outer s H hr E => ?_
  refine ⟨_, (pss_cons (ps_set (i := 2) sc_law_odd_room.nd rfl (Or.inl rfl) (pe_ix ix_U (pe_lc (own := [("_law_letter", 3)]) (g := gName 3) rfl sc_law_odd_room.nd (pi_str pe_str) (blkOk_by (own := [("_law_letter", 3)]) (N := ["_law_bag", "_law_faces", "_law_gone", "_law_letter"]) (sc := defScope st_law_odd_room) (by decide +kernel)) (fun _ _ _ _ _ => (pg_name (i := 3) sc_law_odd_room.nd rfl (Or.inl rfl))) (fun _ _ _ _ _ => pts_one (pt_hide (pt_cmpR op_niSg (pv 3) (pv 1) rfl))) (fun _ _ _ _ _ => pe_hide (pv 3))) pe_int (fun _ _ => rfl)))
      (pss_one (ps_ret (pe_cal C__law_of hr pass0 (pa_cons (pv 0) (pa_cons (pe_lst (pa_cons pe_str (pa_cons (pe_op op_mulS (pe_ix ix_U (pv 1) pe_int (fun _ _ => rfl)) pe_int) (pa_cons (pe_op op_mulS (pe_ix ix_U (pv 1) pe_int (fun _ _ => rfl)) pe_int) (pa_cons (pe_op op_addU (pe_op op_mulS (pe_ix ix_U (pv 1) pe_int (fun _ _ => rfl)) pe_int) (pv 2)) (pa_cons (pe_op op_addU (pv 2) (pe_op op_mulS (pe_ix ix_U (pv 1) pe_int (fun _ _ => rfl)) pe_int)) (pa_cons pe_non (pa_cons pe_int (pa_cons pe_bl (pa_cons (pe_lst (pa_cons (pe_op op_mulS (pe_ix ix_U (pv 1) pe_int (fun _ _ => rfl)) pe_int) pa_nil)) (pa_cons (pe_op op_repT (pe_tup (pa_cons (pe_ix ix_U (pv 1) pe_int (fun _ _ => rfl)) pa_nil)) pe_int) (pa_cons (pe_op op_addU pe_str (pe_op op_mulS (pe_ix ix_U (pv 1) pe_int (fun _ _ => rfl)) pe_int)) (pa_cons (pe_op op_mulS pe_str pe_int) (pa_cons (pe_op op_addU (pe_op op_mulS (pe_ix ix_U (pv 1) pe_int (fun _ _ => rfl)) pe_int) pe_str) (pa_cons (pe_op op_addU pe_str (pe_op op_mulS (pe_ix ix_U (pv 1) pe_int (fun _ _ => rfl)) pe_int)) pa_nil))))))))))))))) pa_nil)))))), ?_⟩
  rintro ds C vs hd ⟨b, l, zs, f, rfl, B, Rf, f3, rfl⟩ D kr kn
  obtain ⟨x, y, rfl, hx, hy⟩ := dqa2 hd
  have f1 := Rf.ne
  obtain ⟨c, f', rfl⟩ : ∃ c f', f = c :: f' := by
    cases f with
    | nil => cases f1
    | cons c f' => exact ⟨c, f', rfl⟩
  refine g_asg (C := fun d => ∃ g, d = .str [g] ∧ g ∉ (c :: f')) ?_ fun vg dg H1 e1 ⟨g, eg, hg⟩ dvg => ?_
  · refine ec_ix (A := fun a => ∃ g gs, a = .lst (.str [g] :: gs) ∧ gs.length ≤ 26 ∧ g ∉ (c :: f')) (EvC.imp (ec_lc (X := fun ys => ys = lowerL.map fun c => Dt.str [c]) (T := fun x b => ∃ g, x = .str [g] ∧ b = !decide (g ∈ (c :: f'))) (R := fun x d => d = x) (ei_str (l := lowerL) ed_str) (fun xs e => by rw [e, List.length_map]; decide) (fun _ => rfl) fun xs ex i z v B0 ez eB dz => ?_) fun d ⟨xs, ds, ex, ed, m⟩ => ?_) ed_int fun a z ⟨g, gs, ea, hl, hg⟩ ez => ?_
    · rw [ex] at ez
      obtain ⟨g, _, rfl⟩ := map_at ez
      exact ⟨EvTC.imp (et_B (ed_niS (xv dz) (xv (hy.mono eB)))) fun b eb => ⟨g, rfl, eb⟩, fun _ => EvD.in (xv dz) rfl⟩
    · subst ex ed
      obtain ⟨g0, hg0, hn⟩ := notall (L := lowerL) (F := c :: f') (by have : lowerL.length = 26 := rfl; omega) (by decide)
      have ne := m.some ⟨.str [g0], List.mem_map.mpr ⟨g0, hg0, rfl⟩, fun b ⟨g, e, eb⟩ => by
        cases e
        rw [eb, decide_eq_false hn] <;> rfl⟩
      have fr := m.from
      have ml := m.len
      cases ds with
      | nil => exact absurd rfl ne
      | cons d ds =>
        obtain ⟨x, hx', ⟨g, rfl, hb⟩, rfl⟩ := fr d (List.mem_cons_self ..)
        refine ⟨g, ds, rfl, ?_, fun z => ?_⟩
        · rw [List.length_map, List.length_cons] at ml
          have : lowerL.length = 26 := rfl
          omega
        · rw [decide_eq_true z] at hb
          cases hb
    · subst ea ez
      exact ⟨0, .str [g], rfl, atI_nat (i := 0) rfl, by show List.length _ ≤ 100000; rw [List.length_cons]; omega, g, rfl, hg⟩
  · subst eg
    have hx1 := hx.mono e1
    have hy1 := hy.mono e1
    have h0 : EvD (tOp (rIxU K) (tVar 1) (tC (.int 0))) [some x, some y, some vg, none] H1 (.str [c]) := xi (a := .str (c :: f')) (xv hy1) (ixS (a := 0) rfl) (by show List.length _ ≤ 100000; omega)
    refine rtC (EvC.imp (ed_call (C := fun e => ∃ i : Nat, i < 14 ∧ ixD (.lst (oddL c g)) (i : Int) = some e) (a2 (xv hx1) (xL (ds := oddL c g) (ad_cons ed_str (ad_cons (ed_mulS 3 h0 ed_int) (ad_cons (ed_mulS 5 h0 ed_int) (ad_cons (xa (ed_mulS 3 h0 ed_int) (xv dvg)) (ad_cons (xa (xv dvg) (ed_mulS 3 h0 ed_int)) (ad_cons ed_non (ad_cons ed_int (ad_cons ed_bl (ad_cons (xL (a1 (ed_mulS 4 h0 ed_int))) (ad_cons (ed_repT 4 (xT (a1 h0)) ed_int) (ad_cons (xa ed_str (ed_mulS 3 h0 ed_int)) (ad_cons (ed_mulS 4 ed_str ed_int) (ad_cons (xa (ed_mulS 4 h0 ed_int) ed_str) (ad_cons (xa ed_str (ed_mulS 3 h0 ed_int)) ad_nil))))))))))))))))
      fun H2 e => ⟨b, l, zs, .lst (oddL c g), 14, rfl, (B.mono e1).mono e, rfl, by decide, by decide, rfl⟩) fun d ⟨i, hi, he⟩ => ?_) e1 kr
    refine ⟨c, g, List.mem_cons_self .., hg, ?_⟩
    have he' : L2.atI (oddL c g) (i : Int) = some d := he
    have hc : (oddL c g)[i]? = some (oddL c g)[i] := List.getElem?_eq_getElem hi
    rw [atI_nat hc] at he'
    cases he'
    exact List.getElem_mem hi
end
end FW
set_option maxRecDepth 100000
set_option maxHeartbeats 8000000
namespace FW
open PySem L2
open Evl (Ex Ex.refl Ex.trans Ex.new Ex.mut EvT)
open RZ (pi_zipA iZipA)
/-! # FD6: the law's own sameness -/
def zipDD (xs ys : List Dt) : List Dt := (xs.zip ys).map fun q => .tup [q.1, q.2]
theorem zipDD_len (xs ys : List Dt) : (zipDD xs ys).length = min xs.length ys.length := by
  unfold zipDD
  rw [List.length_map, List.length_zip]
theorem zipDD_at {xs ys : List Dt} {i : Nat} {x y : Dt} (h1 : xs[i]? = some x) (h2 : ys[i]? = some y) : (zipDD xs ys)[i]? = some (.tup [x, y]) := by
  unfold zipDD
  have e : (xs.zip ys)[i]? = some (x, y) := List.getElem?_zip_eq_some.mpr ⟨h1, h2⟩
  rw [List.getElem?_map, e] <;> rfl
theorem zipDD_self (xs : List Dt) : zipDD xs xs = xs.map fun x => .tup [x, x] := by
  unfold zipDD
  induction xs with
  | nil => rfl
  | cons x xs ih => rw [List.zip_cons_cons, List.map_cons, List.map_cons, ih]
section
variable {K : PySem.W.Frag} {σ : L2.St} {H : Hp} {ta tb : TE}
theorem ei_zipA {xs ys : List Dt} (h : (EvD ta σ H (.lst xs) ∧ EvD tb σ H (.lst ys)) ∨ (EvD ta σ H (.tup xs) ∧ EvD tb σ H (.tup ys))) : EvI (RZ.iZipA K (tCons ta (tCons tb tNil))) σ H (fun zs => zs = zipDD xs ys) := fun H1 e R q => by
  rcases h with ⟨ha, hb⟩ | ⟨ha, hb⟩
  · refine ha H1 e _ fun v d H2 e2 c k => hb H2 (e.trans e2) _ fun v' d' H3 e3 c' k' => ?_
    subst c c'
    obtain ⟨a, vs, rfl, h1, k1⟩ := dq_lst k
    obtain ⟨b, us, rfl, h2, k2⟩ := dq_lst k'
    have h3 : H3 a = some (.lst vs) := e3 _ _ h1
    have hl := k1.len
    have hl2 := k2.len
    refine ⟨a, b, vs, us, rfl, .inl ⟨sqL_of h3, sqL_of h2, q _ _ H3 (e2.trans e3) rfl ⟨fun i H4 hi e4 => ?_, fun H4 e4 => ?_, fun i H4 v H5 hi e4 y => ?_⟩⟩⟩
    · rw [zipDD_len] at hi
      have i1 : i < vs.length := by omega
      have i2 : i < us.length := by omega
      exact ⟨vs, us, vs[i], us[i], sqL_of (e4 _ _ h3), sqL_of (e4 _ _ h2), by simp [i1], by simp [i2]⟩
    · exact ⟨vs, us, sqL_of (e4 _ _ h3), sqL_of (e4 _ _ h2), by rw [zipDD_len]; omega⟩
    · obtain ⟨T, x, z, rfl, hT, rfl, y, yc⟩ := y
      obtain ⟨d, e6, e7⟩ := k1.get (y vs (sqL_of (e4 _ _ h3)))
      obtain ⟨d2, e8, e9⟩ := k2.get (yc us (sqL_of (e4 _ _ h2)))
      have hT2 : H3 T = none := Evl.fresh_back e4 hT
      refine ⟨_, upd H3 T (.tup [x, z]), zipDD_at e6 e8, Ex.new hT, Ex.new hT2, ex_upd e4, .tup upd_same (.cons (e7.mono (e3.trans (Ex.new hT2))) (.cons (e9.mono (Ex.new hT2)) .nil)), fun b z1 z2 => ?_⟩
      rw [upd_ne (fun z => z2 (by rw [z]; exact hT))]
      exact z1
  · refine ha H1 e _ fun v d H2 e2 c k => hb H2 (e.trans e2) _ fun v' d' H3 e3 c' k' => ?_
    subst c c'
    obtain ⟨a, vs, rfl, h1, k1⟩ := dq_tup k
    obtain ⟨b, us, rfl, h2, k2⟩ := dq_tup k'
    have h3 : H3 a = some (.tup vs) := e3 _ _ h1
    have hl := k1.len
    have hl2 := k2.len
    refine ⟨a, b, vs, us, rfl, .inr ⟨sqT_of h3, sqT_of h2, q _ _ H3 (e2.trans e3) rfl ⟨fun i H4 hi e4 => ?_, fun H4 e4 => ?_, fun i H4 v H5 hi e4 y => ?_⟩⟩⟩
    · rw [zipDD_len] at hi
      have i1 : i < vs.length := by omega
      have i2 : i < us.length := by omega
      exact ⟨vs, us, vs[i], us[i], sqT_of (e4 _ _ h3), sqT_of (e4 _ _ h2), by simp [i1], by simp [i2]⟩
    · exact ⟨vs, us, sqT_of (e4 _ _ h3), sqT_of (e4 _ _ h2), by rw [zipDD_len]; omega⟩
    · obtain ⟨T, x, z, rfl, hT, rfl, y, yc⟩ := y
      obtain ⟨d, e6, e7⟩ := k1.get (y vs (sqT_of (e4 _ _ h3)))
      obtain ⟨d2, e8, e9⟩ := k2.get (yc us (sqT_of (e4 _ _ h2)))
      have hT2 : H3 T = none := Evl.fresh_back e4 hT
      refine ⟨_, upd H3 T (.tup [x, z]), zipDD_at e6 e8, Ex.new hT, Ex.new hT2, ex_upd e4, .tup upd_same (.cons (e7.mono (e3.trans (Ex.new hT2))) (.cons (e9.mono (Ex.new hT2)) .nil)), fun b z1 z2 => ?_⟩
      rw [upd_ne (fun z => z2 (by rw [z]; exact hT))]
      exact z1
end
/-- never run -/
theorem pe_dead {X : Cx} {e : Expr} : PE X e (fun _ _ _ => False) := ⟨fun _ _ _ _ _ _ h => h.elim⟩
def ScD : Dt → Prop
  | .non => True
  | .bl _ => True
  | .int _ => True
  | .str _ => True
  | _ => False
def SmD : Nat → Dt → Prop
  | 0, d => ScD d
  | n + 1, d => ScD d ∨ ∃ ds, (d = .lst ds ∨ d = .tup ds) ∧ ds.length ≤ 1000 ∧ ∀ x ∈ ds, SmD n x
section
variable {P : Program} {w : World} {K : PySem.W.Frag} {mg : Str → Option Value} {base : Heap} {Cb : Addr}
theorem all_true {α : Type} : ∀ xs : List α, (xs.map fun _ => true).all id = true
  | [] => rfl
  | _ :: xs => by rw [List.map_cons, List.all_cons, all_true xs] <;> rfl
abbrev st_law_same : Stmt := top 52
theorem sc_law_same : FnScope ["_law_found", "_law_due", "_law_a", "_law_b"] ["_law_found", "_law_due"] (defScope st_law_same) := ⟨rfl, rfl, rfl, by decide +kernel, rfl, by decide +kernel, by decide +kernel⟩
def R_same (n : Nat) (_ : Hp) (ds : List Dt) (C : Dt → Prop) : Prop := ∃ d, ds = [d, d] ∧ SmD n d ∧ C = fun e => e = .bl true
abbrev CSm (P : Program) (w : World) (K : PySem.W.Frag) (mg : Str → Option Value) (base : Heap) (n : Nat) : Prop := Cal P w K mg base CX0 (n + 1) "_law_same" ["_law_found", "_law_due"] (spR (R_same n))
theorem c_law_same0 (T : Txt mg) (F : DefAt K mg "_law_same" st_law_same) : CSm P w K mg base 0 := by
  refine cal_of sc_law_same F (fun _ _ _ ⟨_, e, _⟩ => by rw [e]; rfl) (fun _ _ _ _ _ _ us hl => match us, hl with | [_, _], _ => rfl) fun f cdv A outer s H hr E => ?_
  refine ⟨_, (pss_cons (ps_if (PW.pt (pw_or (pt_cmp (pc_isN (pv 1))) (pw_or1 (pt_cmp (pc_isN (pv 0)))))) (pss_one (ps_ret (pe_and (pe_cmp (pc_isN (pv 1))) (pe_one (pe_cmp (pc_isN (pv 0))))))) pss_nil)
      (pss_cons (ps_if (pt_val (pe_isiT T (pv 1) (pe_tup (pa_cons (pe_tyList T) (pa_cons (pe_tyTuple T) pa_nil))))) (pss_cons (ps_if (pt_cmpR op_ne (pe_isi T (pv 0) (pe_tyList T)) (pe_isi T (pv 1) (pe_tyList T)) (nomark _)) (pss_one (ps_ret pe_bl)) pss_nil)
        (pss_cons (ps_if (PW.pt (pw_or (pt_cmpR op_ne (pe_isi T (pv 0) (pe_tyTuple T)) (pe_isi T (pv 1) (pe_tyTuple T)) (nomark _)) (pw_or1 (pt_cmpR op_ne (pe_len T (pv 0)) (pe_len T (pv 1)) (nomark _))))) (pss_one (ps_ret pe_bl)) pss_nil)
        (pss_one (ps_ret (pe_all T rfl (pe_lc (own := [("_law_a", 2), ("_law_b", 3)]) (g := gTup K 2 (gCons (gName 2) (gCons (gName 3) gNil))) rfl sc_law_same.nd (pi_zipA rfl T.zip (pa_cons (pv 0) (pa_cons (pv 1) pa_nil))) (blkOk_by (own := [("_law_a", 2), ("_law_b", 3)]) (N := ["_law_found", "_law_due", "_law_a", "_law_b"]) (sc := defScope st_law_same) (by decide +kernel)) (fun _ _ _ _ _ => (pg_tup rfl (pgs_cons (pg_name (i := 2) sc_law_same.nd rfl (Or.inl rfl)) (pgs_cons (pg_name (i := 3) sc_law_same.nd rfl (Or.inl rfl)) pgs_nil)))) (fun _ _ _ _ _ => pts_nilH) (fun _ _ _ _ _ => pe_hide pe_dead))))))) pss_nil)
      (pss_cons (ps_if (pt_val (pe_isiT T (pv 0) (pe_tup (pa_cons (pe_tyList T) (pa_cons (pe_tyTuple T) pa_nil))))) (pss_one (ps_ret pe_bl)) pss_nil)
      (pss_cons (ps_if (pt_cmpR op_ne (pe_isi T (pv 0) (pe_tyBool T)) (pe_isi T (pv 1) (pe_tyBool T)) (nomark _)) (pss_one (ps_ret pe_bl)) pss_nil)
      (pss_cons (ps_if (pt_cmpR op_ne (pe_isi T (pv 0) (pe_tyInt T)) (pe_isi T (pv 1) (pe_tyInt T)) (nomark _)) (pss_one (ps_ret pe_bl)) pss_nil)
      (pss_one (ps_ret (pe_and (pe_cmpR op_eq (pe_isi T (pv 0) (pe_tyStr T)) (pe_isi T (pv 1) (pe_tyStr T)) (nomark _)) (pe_one (pe_cmpR op_eq (pv 0) (pv 1) (nomark _))))))))))), ?_⟩
  rintro ds C vs hd ⟨d, rfl, hd', rfl⟩ D kr kn
  obtain ⟨x, y, rfl, hx, hy⟩ := dqa2 hd
  cases d <;> first | (cases hd'; done) | skip
  · refine g_whenD (b := true) (et_or1 (et_B (ed_isN (xv hy) fun H v h => by rw [dq_non h] <;> rfl))) (fun _ H1 e1 => ?_) fun q => by cases q
    exact rtD (EvD.to (ed_andV (a := true) (b := true) (ed_isN (xv (hy.mono e1)) fun H v h => by rw [dq_non h] <;> rfl) fun _ => ed_isN (xv (hx.mono e1)) fun H v h => by rw [dq_non h] <;> rfl) rfl) e1 kr
  all_goals
    refine g_whenD (b := false) (EvB.to (et_or (a := false) (b := false) (et_B (ed_isN (xv hy) fun H v h => by cases h <;> rfl)) fun _ => et_B (ed_isN (xv hx) fun H v h => by cases h <;> rfl)) rfl) (fun q => by cases q) fun _ H1 e1 => ?_
    have hx := hx.mono e1
    have hy := hy.mono e1
    refine g_whenD (b := false) (et_B (ed_isSeq (xv hy) trivial)) (fun q => by cases q) fun _ H2 e2 => ?_
    have hx := hx.mono e2
    have hy := hy.mono e2
    refine g_whenD (b := false) (et_B (ed_isSeq (xv hx) trivial)) (fun q => by cases q) fun _ H3 e3 => ?_
    have hx := hx.mono e3
    have hy := hy.mono e3
    refine g_whenD (b := false) (EvB.to (tn (ed_isBl (xv hx) trivial) (ed_isBl (xv hy) trivial)) rfl) (fun q => by cases q) fun _ H4 e4 => ?_
    have hx := hx.mono e4
    have hy := hy.mono e4
    refine g_whenD (b := false) (EvB.to (tn (ed_isInt (xv hx) trivial) (ed_isInt (xv hy) trivial)) rfl) (fun q => by cases q) fun _ H5 e5 => ?_
    have hx := hx.mono e5
    have hy := hy.mono e5
    exact rtD (EvD.to (ed_andV (a := true) (b := true) (EvD.to (xq (ed_isStr (xv hx) trivial) (ed_isStr (xv hy) trivial)) rfl) fun _ => EvD.to (xq (xv hx) (xv hy)) (by simp [eqS])) rfl) ((((e1.trans e2).trans e3).trans e4).trans e5) kr
theorem c_law_same1 (T : Txt mg) (F : DefAt K mg "_law_same" st_law_same) (n : Nat) (C__law_same : CSm P w K mg base n) : CSm P w K mg base (n + 1) := by
  refine cal_of sc_law_same F (fun _ _ _ ⟨_, e, _⟩ => by rw [e]; rfl) (fun _ _ _ _ _ _ us hl => match us, hl with | [_, _], _ => rfl) fun f cdv A outer s H hr E => ?_
  refine ⟨_, (pss_cons (ps_if (PW.pt (pw_or (pt_cmp (pc_isN (pv 1))) (pw_or1 (pt_cmp (pc_isN (pv 0)))))) (pss_one (ps_ret (pe_and (pe_cmp (pc_isN (pv 1))) (pe_one (pe_cmp (pc_isN (pv 0))))))) pss_nil)
      (pss_cons (ps_if (pt_val (pe_isiT T (pv 1) (pe_tup (pa_cons (pe_tyList T) (pa_cons (pe_tyTuple T) pa_nil))))) (pss_cons (ps_if (pt_cmpR op_ne (pe_isi T (pv 0) (pe_tyList T)) (pe_isi T (pv 1) (pe_tyList T)) (nomark _)) (pss_one (ps_ret pe_bl)) pss_nil)
        (pss_cons (ps_if (PW.pt (pw_or (pt_cmpR op_ne (pe_isi T (pv 0) (pe_tyTuple T)) (pe_isi T (pv 1) (pe_tyTuple T)) (nomark _)) (pw_or1 (pt_cmpR op_ne (pe_len T (pv 0)) (pe_len T (pv 1)) (nomark _))))) (pss_one (ps_ret pe_bl)) pss_nil)
        (pss_one (ps_ret (pe_all T rfl (pe_lc (own := [("_law_a", 2), ("_law_b", 3)]) (g := gTup K 2 (gCons (gName 2) (gCons (gName 3) gNil))) rfl sc_law_same.nd (pi_zipA rfl T.zip (pa_cons (pv 0) (pa_cons (pv 1) pa_nil))) (blkOk_by (own := [("_law_a", 2), ("_law_b", 3)]) (N := ["_law_found", "_law_due", "_law_a", "_law_b"]) (sc := defScope st_law_same) (by decide +kernel)) (fun _ _ _ _ _ => (pg_tup rfl (pgs_cons (pg_name (i := 2) sc_law_same.nd rfl (Or.inl rfl)) (pgs_cons (pg_name (i := 3) sc_law_same.nd rfl (Or.inl rfl)) pgs_nil)))) (fun _ _ _ _ _ => pts_nilH) (fun _ _ _ _ _ => pe_hide (pe_cal C__law_same hr pass0 (pa_cons (pv 2) (pa_cons (pv 3) pa_nil)) (Nat.le_refl _))))))))) pss_nil)
      (pss_cons (ps_if (pt_val (pe_isiT T (pv 0) (pe_tup (pa_cons (pe_tyList T) (pa_cons (pe_tyTuple T) pa_nil))))) (pss_one (ps_ret pe_bl)) pss_nil)
      (pss_cons (ps_if (pt_cmpR op_ne (pe_isi T (pv 0) (pe_tyBool T)) (pe_isi T (pv 1) (pe_tyBool T)) (nomark _)) (pss_one (ps_ret pe_bl)) pss_nil)
      (pss_cons (ps_if (pt_cmpR op_ne (pe_isi T (pv 0) (pe_tyInt T)) (pe_isi T (pv 1) (pe_tyInt T)) (nomark _)) (pss_one (ps_ret pe_bl)) pss_nil)
      (pss_one (ps_ret (pe_and (pe_cmpR op_eq (pe_isi T (pv 0) (pe_tyStr T)) (pe_isi T (pv 1) (pe_tyStr T)) (nomark _)) (pe_one (pe_cmpR op_eq (pv 0) (pv 1) (nomark _))))))))))), ?_⟩
  rintro ds C vs hd ⟨d, rfl, hd', rfl⟩ D kr kn
  obtain ⟨x, y, rfl, hx, hy⟩ := dqa2 hd
  rcases hd' with hs | ⟨xs, hk, hl, hm⟩
  · cases d <;> first | (cases hs; done) | skip
    · refine g_whenD (b := true) (et_or1 (et_B (ed_isN (xv hy) fun H v h => by rw [dq_non h] <;> rfl))) (fun _ H1 e1 => ?_) fun q => by cases q
      exact rtD (EvD.to (ed_andV (a := true) (b := true) (ed_isN (xv (hy.mono e1)) fun H v h => by rw [dq_non h] <;> rfl) fun _ => ed_isN (xv (hx.mono e1)) fun H v h => by rw [dq_non h] <;> rfl) rfl) e1 kr
    all_goals
      refine g_whenD (b := false) (EvB.to (et_or (a := false) (b := false) (et_B (ed_isN (xv hy) fun H v h => by cases h <;> rfl)) fun _ => et_B (ed_isN (xv hx) fun H v h => by cases h <;> rfl)) rfl) (fun q => by cases q) fun _ H1 e1 => ?_
      have hx := hx.mono e1
      have hy := hy.mono e1
      refine g_whenD (b := false) (et_B (ed_isSeq (xv hy) trivial)) (fun q => by cases q) fun _ H2 e2 => ?_
      have hx := hx.mono e2
      have hy := hy.mono e2
      refine g_whenD (b := false) (et_B (ed_isSeq (xv hx) trivial)) (fun q => by cases q) fun _ H3 e3 => ?_
      have hx := hx.mono e3
      have hy := hy.mono e3
      refine g_whenD (b := false) (EvB.to (tn (ed_isBl (xv hx) trivial) (ed_isBl (xv hy) trivial)) rfl) (fun q => by cases q) fun _ H4 e4 => ?_
      have hx := hx.mono e4
      have hy := hy.mono e4
      refine g_whenD (b := false) (EvB.to (tn (ed_isInt (xv hx) trivial) (ed_isInt (xv hy) trivial)) rfl) (fun q => by cases q) fun _ H5 e5 => ?_
      have hx := hx.mono e5
      have hy := hy.mono e5
      exact rtD (EvD.to (ed_andV (a := true) (b := true) (EvD.to (xq (ed_isStr (xv hx) trivial) (ed_isStr (xv hy) trivial)) rfl) fun _ => EvD.to (xq (xv hx) (xv hy)) (by simp [eqS])) rfl) ((((e1.trans e2).trans e3).trans e4).trans e5) kr
  · have no : noObj d := by rcases hk with rfl | rfl <;> trivial
    have seq : (isLstD d || isTupD d) = true := by rcases hk with rfl | rfl <;> rfl
    have nn : ∀ H v, Dq H v d → decide (v = V.non) = false := fun H v h => by rcases hk with rfl | rfl <;> (cases h; rfl)
    have hlen : lenD d = some xs.length := by rcases hk with rfl | rfl <;> rfl
    have ok : okL d := by rcases hk with rfl | rfl <;> (show xs.length ≤ 100000; omega)
    have hI : ∀ {σ' : St} {H' : Hp}, Dq H' x d → Dq H' y d → σ'[0]? = some (some x) → σ'[1]? = some (some y) → EvI (iZipA K (tCons (tVar 0) (tCons (tVar 1) tNil))) σ' H' (fun zs => zs = zipDD xs xs) := fun hx hy h0 h1 => by
      rcases hk with rfl | rfl
      · exact ei_zipA (.inl ⟨ed_var h0 hx, ed_var h1 hy⟩)
      · exact ei_zipA (.inr ⟨ed_var h0 hx, ed_var h1 hy⟩)
    refine g_whenD (b := false) (EvB.to (et_or (a := false) (b := false) (et_B (ed_isN (xv hy) nn)) fun _ => et_B (ed_isN (xv hx) nn)) rfl) (fun q => by cases q) fun _ H1 e1 => ?_
    have hx := hx.mono e1
    have hy := hy.mono e1
    refine g_whenD (b := true) (EvB.to (et_B (ed_isSeq (xv hy) no)) seq) (fun _ H2 e2 => ?_) fun q => by cases q
    have hx := hx.mono e2
    have hy := hy.mono e2
    refine g_whenD (b := false) (EvB.to (tn (ed_isLst (xv hx) no) (ed_isLst (xv hy) no)) (by simp [eqS])) (fun q => by cases q) fun _ H3 e3 => ?_
    have hx := hx.mono e3
    have hy := hy.mono e3
    refine g_whenD (b := false) (EvB.to (et_or (a := false) (b := false) (EvB.to (tn (ed_isTup (xv hx) no) (ed_isTup (xv hy) no)) (by simp [eqS])) fun _ => EvB.to (tn (xl (xv hx) hlen ok) (xl (xv hy) hlen ok)) (by simp [eqS])) rfl) (fun q => by cases q) fun _ H4 e4 => ?_
    have hx := hx.mono e4
    have hy := hy.mono e4
    refine rtD (EvD.to (ed_all (bs := xs.map fun _ => true) (EvD.to (ed_lcMP (fun _ => Dt.bl true) (hI hx hy rfl rfl) (by rw [zipDD_len]; omega) (fun z hz => by
      rw [zipDD_self] at hz
      obtain ⟨u, _, rfl⟩ := List.mem_map.mp hz
      exact ⟨u, u, rfl⟩) (fun _ _ => rfl) fun i a b v w B ez eB da db => ?_) (by rw [zipDD_self, List.map_map, List.map_map] <;> rfl))) (by rw [all_true])) (((e1.trans e2).trans e3).trans e4) kr
    rw [zipDD_self] at ez
    obtain ⟨u, hu, e⟩ := map_at ez
    cases e
    exact ed_call (a2 (xv da) (xv db)) fun H1 e => ⟨_, rfl, hm _ (List.mem_of_getElem? hu), rfl⟩
end
end FW
set_option maxRecDepth 100000
set_option maxHeartbeats 8000000
/-! # FX1: an own exception's __init__ that says super().__init__(text), then two fields -/
namespace FW
open PySem L2 PySem.Calls PyProof.Rows
open Evl (Ex Ex.refl Ex.trans Ex.new Ex.mut EvT)
open NdefX (NF ncx NScope startF envF CellsAt inv_startN)
/-- the method-wrapper called: nothing of it is told -/
theorem mw_call {X : Cx} {pins : List (Addr × Obj)} {σ : L2.St} {H : Hp} {s : Shared} {a C u : Addr} {us : List Value} {Q : Value → Shared → Prop} {E : Value → Shared → Prop} (T : OexC X.K C) (I : Inv X pins σ H s) (e : H a = some (exo a C none)) (hu : s.heap.get? u = some (PySem.W.kxs_mw "ValueError.__init__" a)) (hl : us.length ≤ sizeLine)
    (h : ∀ s', Inv X pins σ H s' → Q .none s') : wpAny (model X.prog X.w) X.A (call (.ref u) us) Q E s := by
  obtain ⟨nm, q, N, bs, bm, sn, sub, ab, col, dd, k0, k1, k2, k3, k5, hC, hbm⟩ := T.cls
  obtain ⟨t1, ho⟩ := exo_at I.hok e
  obtain ⟨hp, g, d, t, os⟩ := s
  refine wpAny_call (codeAny_of_tree ?_)
  show wpAny _ X.A.in1 (callAny (.ref u) ⟨us, []⟩) _ _ _
  simp only [callAny]
  refine wpAny_bind (wpAny_load hu ?_)
  simp only [PySem.W.kxs_mw, show (Value.type "method-wrapper" == Value.type "method" || Value.type "method-wrapper" == Value.type "builtin_function_or_method" || Value.type "method-wrapper" == Value.type "method-wrapper") = true by decide, if_true]
  refine PySem.W.KFB.if_so (by decide) ?_
  refine wpAny_bind (PySem.W.check_bound_init F.excBase_ValueError.toExcCallFacts (I.kIn _ _ hC) ho rfl ?_)
  refine wpAny_bind (wpAny_pure (wpAny_pure ?_))
  refine ⟨plainId_quiet F.excBase_ValueError.init.plain _, codeAny_builtin F.excBase_ValueError.initEntry ?_⟩
  refine PySem.W.exc_init_tree (cls := .ref C) (t0 := t1) (dv := none) (c2 := .none) (c3 := .none) (b4 := .bool false) ho hl fun h' k hx ht => ?_
  have J := I.write (t' := t) (x := a) (e := a) (o := exo a C none) (by rw [e]; exact True.intro) (.inl rfl) k ⟨_, hx⟩ (exo_ok hx)
  have eu : upd H a (exo a C none) = H := by
    funext b
    by_cases hb : b = a
    · rw [hb, upd_same, e]
    · rw [upd_ne hb]
  rw [eu] at J
  exact h _ J
/-- the class, its __init__, the cell and the code object of it, as the written part tells them -/
structure XCls (P : Program) (K : PySem.W.Frag) (st : Stmt) (q : Str) (C f cc c : Addr) : Prop where
  oex : OexC K C
  ini : PySem.W.findIn K (.ref C) "__init__" = some (some (.ref f))
  tyf : PySem.W.typeIn K (.ref f) = some (.type "function")
  lk : ∃ (oc : Value) (od : Option Addr) (kV doc pm : Value) (an : Option Addr) (ct : Value) (osl : Array (Option Value)), K.lookup f = some ⟨oc, od, .func (PySem.W.fnX "__init__" q (defArgs st) (defBody st) (defScope st) [("__class__", cc)] .none kV doc pm an (.ref c) ct), osl⟩
  code : PySem.W.codeIn K (.ref c) q = true
  file : ∃ (ccl : Value) (cdd : Option Addr) (vs : Array Value) (ccs : Array (Option Value)) (fl : Str) (tf : Tok), K.lookup c = some ⟨ccl, cdd, .fields vs, ccs⟩ ∧ vs[2]? = some (.str fl tf) ∧ ((P.main.file : Str) == fl) = true
  cell : ∃ (cl : Value) (cld : Option Addr) (csl : Array (Option Value)), K.lookup cc = some ⟨cl, cld, .cell (some (.ref C)), csl⟩
  sub : PySem.W.mroIn K C (.ref C) = some true
  sup : PySem.W.ks_superIn K C C "__init__" = some (some (.builtin "ValueError.__init__"))
  isV : PySem.W.subIn K (.ref C) (.type "ValueError") = some true
  nof : PySem.W.findIn K (.ref C) "code" = some none
  nog : PySem.W.findIn K (.ref C) "given" = some none
  opq : PySem.W.nsIn K cStatics "thirdparty.any" = some none
  top : (P.main.scope.names.lookup ("super" : Str)).isSome = false
/-- super().__init__(text) -/
theorem ws_super {X : Cx} {pins : List (Addr × Obj)} {σ : L2.St} {H : Hp} {s : Shared} {st : Stmt} {q : Str} {a C f cc c : Addr} {body : List Stmt} {p0 p1 p2 p3 p4 p5 : Pos} {k : Nat} {txt : Str} {Q : Flow → Shared → Prop} {E : Value → Shared → Prop} (V : XCls X.prog X.K st q C f cc c) (I : Inv X pins σ H s)
    (e : H a = some (exo a C none)) (hs : σ[0]? = some (some (.ref a))) (hN : X.N[0]? = some ("self" : Str)) (hv : X.env.kindOf "self" = some .local) (hks : Gl X "super") (hkc : X.env.kindOf "__class__" = some .free) (hcc : X.env.cells.lookup ("__class__" : Str) = some cc) (hm : X.mg "super" = none)
    (hfu : X.env.func = some f) (hco : X.env.code = .ref c) (ar : Arg) (har : ((defArgs st).posonlyargs ++ (defArgs st).args).head? = some ar) (hself : ar.arg = "self") (hi : interactive X.env = false) {pl : Sem Bool}
    (he : eval (.Call (.Attribute (.Call (.Name "super" p0) [] [] p1) "__init__" p2) [.Constant (.str txt) k p3] [] p4) X.env = (do
      let ov ← attributeBase (.Call (.Name "super" p0) [] [] p1) "__init__" X.env (eval (.Call (.Name "super" p0) [] [] p1) X.env)
      standAt p2.atName
      let (f, first) ← holding [ov] (getMethod ov "__init__" pl)
      callWith p4 f first (backTo p4 (starEach [.Constant (.str txt) k p3] X.env)) []))
    (h : ∀ s', Inv X pins σ H s' → Q .next s') :
    _root_.PySem.wpAt (model X.prog X.w) X.A (.func body X.env) (exec (.Expr (.Call (.Attribute (.Call (.Name "super" p0) [] [] p1) "__init__" p2) [.Constant (.str txt) k p3] [] p4) p5) X.env) Q E s := by
  obtain ⟨oc, od, kV, doc, pm, an, ct, osl, lk⟩ := V.lk
  obtain ⟨ccl, cdd, vs, ccs, fl, tf, lc, hvs, hfl⟩ := V.file
  obtain ⟨cl, cld, csl, lcell⟩ := V.cell
  obtain ⟨nm, qq, N, bs, bm, sn, sub, ab, col, dd, k0, k1, k2, k3, k5, hC, hbm⟩ := V.oex.cls
  have KX := I.kIn
  refine PySem.ks_wpAt_Expr_any (PySem.ks_wpAt_MethodCall ?_ he) hi rfl
  refine PySem.ks_wpAt_super_base hks hkc (by decide) hfu (KX _ _ lk) rfl har hco (KX _ _ lc) rfl hvs hfl V.top ?_
  obtain ⟨mb, h1, h2⟩ := I.mod.blt
  refine PySem.W.ks_loadName_global I.ok.kind hks (Calls.loadGlobal_builtin (by rw [I.ok.glob]; exact I.mod.glob.keeps I.bk) hm (by rw [I.ok.blt]; exact h1.keeps I.bk) ((h2 "super" (by decide)).trans (show bootBuiltins "super" = some (.type "super") from by decide +kernel)) ⟨rfl, ?_⟩)
  refine wpAny_loadName_free I.ok.kind hkc hcc ⟨_, KX _ _ lcell, rfl⟩ ?_
  rw [hself]
  obtain ⟨m, hn, hl⟩ := I.loc
  obtain ⟨u, ru, lo⟩ := hl 0 "self" (.ref a) hN hs (Or.inl hv)
  have ru : u = Value.ref a := ru
  subst ru
  have hma : m "self" = some (.ref a) := by
    rcases lo with ⟨_, z⟩ | ⟨z, _⟩
    · exact z
    · rcases z with z | z <;> (rw [hv] at z; cases z)
  refine wpAny_loadName_local I.ok.kind hv hn hma ?_
  refine PySem.ks_wpAny_isType_cls (KX _ _ hC) rfl ⟨rfl, ?_⟩
  obtain ⟨t1, ho⟩ := exo_at I.hok e
  obtain ⟨hh, g, d, t, os⟩ := s
  refine PySem.ks_wpAny_call_super (KX _ _ hC) rfl ho rfl (fun c z => by cases z) (PySem.W.looks_mroIn KX V.sub) fun h' e' k' => ?_
  have I1 : Inv X pins σ H ⟨h', g, d, t, os⟩ := I.kept (t' := t) k'
  have KX1 := I1.kIn
  have ho1 := k' _ _ ho
  have hcl : PySem.W.clsIn X.K C = some { name := nm, bases := bs, mro := .ref C :: bm, ns := N, qualname := qq, hasDict := true, slotNames := sn, subclasses := sub, abstract := ab, collection := col, hasDel := false } := by unfold PySem.W.clsIn; rw [hC] <;> rfl
  have sup := V.sup
  unfold PySem.W.ks_superIn at sup
  rw [hcl] at sup
  have IA : PySem.W.InstAt h' a { cls := .ref C, dict := none, data := .fields #[.ref t1, .none, .none, .none, .bool false, .none] } C none := ⟨ho1, rfl, rfl, trivial⟩
  refine PySem.W.kxs_getMethod PySem.W.kxs_ValueError e' (PySem.W.looks_opaque KX1 V.opq) (l₀ := .ref C :: bm) ?_ rfl KX1 sup (IA.type.andThen (PySem.W.looks_subIn KX1 V.isV)) (PySem.W.ks_ne KX1 IA hcl) (by decide) ?_
  · exact fun A Q E s k q => wpAny_bind ((PySem.W.looks_clsIn KX1 hcl) A _ E s k (wpAny_pure q))
  · have I2 : Inv X pins σ H ⟨h'.push (PySem.W.kxs_mw "ValueError.__init__" a), g, d, t + 1, os⟩ := I1.kept (t' := t + 1) fun b o z => Heap.get?_push_of_some _ z
    have hmw : (h'.push (PySem.W.kxs_mw "ValueError.__init__" a)).get? h'.objs.size = some (PySem.W.kxs_mw "ValueError.__init__" a) := Heap.get?_push_at rfl rfl
    refine PySem.W.kxs_callWith (i := "ValueError.__init__") (x := a) rfl ?_
    refine evalArgs_plain (spliced_cons ?_)
    refine Calls.Constant_str (k := k) (pos := p3) (spliced_nil ⟨hmw, ?_⟩)
    exact mw_call V.oex (I2.tok _) e hmw (by show 1 ≤ sizeLine; decide) fun s' J => h s' J
end FW
set_option maxRecDepth 100000
set_option maxHeartbeats 8000000
namespace FW
open PySem L2 PySem.Calls PyProof.Rows
open Evl (Ex Ex.refl Ex.trans Ex.new Ex.mut EvT)
open NdefX (NF ncx NScope startF envF CellsAt inv_startN)
def spXI (C : Addr) (txt : Str) : Sp := fun vs H Q _ => ∃ (a : Addr) (y : L2.V), vs = [.ref a, y] ∧ H a = some (exo a C none) ∧ ∀ dx, H dx = none → dx ≠ a → Q .non (upd (upd (upd H dx (exd dx [("code", .str txt)])) a (exo a C (some dx))) dx (exd dx [("given", y), ("code", .str txt)]))
abbrev xiN : List Str := ["self", "given", "__class__"]
abbrev xiP : List Str := ["self", "given"]
def xiF (st : Stmt) (q : Str) (cc c : Addr) : NF := ⟨"__init__", q, defArgs st, defBody st, defScope st, [("__class__", cc)], c⟩
section
variable {P : Program} {w : World} {K : PySem.W.Frag} {mg : Str → Option Value} {base : Heap} {st : Stmt} {q txt : Str} {C f cc c : Addr} {k : Nat}
theorem fn_xini {p0 p1 p2 p3 p4 p5 p6 p7 p8 p9 pa pb pc pd : Pos} {k1 k2 : Nat} (V : XCls P K st q C f cc c) (S : NScope xiN xiP ["__class__"] (defScope st)) (hks : (defScope st).names.lookup ("super" : Str) = some .globalImplicit) (hm : mg "super" = none)
    (hbd : defBody st = [.Expr (.Call (.Attribute (.Call (.Name "super" p0) [] [] p1) "__init__" p2) [.Constant (.str txt) k1 p3] [] p4) p5, .Assign [.Attribute (.Name "self" p6) "code" p7] (.Constant (.str txt) k2 p8) p9, .Assign [.Attribute (.Name "self" pa) "given" pb] (.Name "given" pc) pd])
    (hi : ∀ f L, interactive (envF (xiF st q cc c) f L) = false)
    (he : ∀ f L, ∃ pl : Sem Bool, eval (.Call (.Attribute (.Call (.Name "super" p0) [] [] p1) "__init__" p2) [.Constant (.str txt) k1 p3] [] p4) (envF (xiF st q cc c) f L) = (do
      let ov ← attributeBase (.Call (.Name "super" p0) [] [] p1) "__init__" (envF (xiF st q cc c) f L) (eval (.Call (.Name "super" p0) [] [] p1) (envF (xiF st q cc c) f L))
      standAt p2.atName
      let (f', first) ← holding [ov] (getMethod ov "__init__" pl)
      callWith p4 f' first (backTo p4 (starEach [.Constant (.str txt) k1 p3] (envF (xiF st q cc c) f L))) []))
    (ar : Arg) (har : ((defArgs st).posonlyargs ++ (defArgs st).args).head? = some ar) (hself : ar.arg = "self")
    (hb : ∀ (fd : FuncData), (∃ kV doc pm an ct, fd = PySem.W.fnX "__init__" q (defArgs st) (defBody st) (defScope st) [("__class__", cc)] .none kV doc pm an (.ref c) ct) → ∀ us : List Value, us.length = 2 → bindArgs fd ⟨us, []⟩ = pure (xiP.zip us)) :
    ∃ fd, FnOk P w K mg base CX0 (k + 1) f fd xiP (spXI C txt) ∧ Binds K fd xiP [] := by
  obtain ⟨oc, od, kV, doc, pm, an, ct, osl, lk⟩ := id V.lk
  refine ⟨_, ⟨fun vs H Q E ⟨_, _, e, _⟩ => by rw [e]; rfl, fun A outer s H args us vs Q E hr e0 hbt r hsp => ?_⟩, Binds.all (hb _ ⟨kV, doc, pm, an, ct, rfl⟩)⟩
  obtain ⟨a, y, rfl, ea, hq⟩ := hsp
  have KX : K.In s.heap := e0.mod.kin.keeps fun b o e => (e0.bs b o e).1
  have lim : s.heap.NoLimit := e0.mod.nolimit.keeps fun b o e => (e0.bs b o e).1
  obtain ⟨cl, cld, csl, lcell⟩ := id V.cell
  refine PySem.ks_codeAny_call_defAt hr.depth (KX _ _ lk) rfl lim (PySem.W.codeRec_of KX V.code) rfl hbt S.nocell (fun ⟨n, _⟩ hy => S.par n (List.of_mem_zip hy).1) (fun h₁ hns kp => ?_) S.co S.gen S.kind
  have CA : CellsAt (xiF st q cc c).cl ["__class__"] [some (.ref C)] s.heap H := {
    len := rfl
    all := fun y d e => by
      have e : List.lookup y [(("__class__" : Str), cc)] = some d := e
      rw [List.lookup_cons] at e
      split at e
      · cases e
        exact ⟨(e0.bs cc _ (e0.mod.kin _ _ lcell)).2, _, _, KX _ _ lcell, rfl⟩
      · cases e
    inj := fun x y d e1 e2 => by
      have e1 : List.lookup x [(("__class__" : Str), cc)] = some d := e1
      have e2 : List.lookup y [(("__class__" : Str), cc)] = some d := e2
      rw [List.lookup_cons] at e1 e2
      split at e1
      · rename_i h1
        split at e2
        · rename_i h2
          rw [beq_iff_eq] at h1 h2
          rw [h1, h2]
        · cases e2
      · cases e1
    has := fun i y e => by
      match i, e with
      | 0, e =>
        cases e
        exact ⟨cc, rfl, fun v hv => by
          cases hv
          exact ⟨.ref C, rfl, _, KX _ _ lcell, rfl⟩⟩
      | i + 1, e => cases e }
  have I : L2.Inv (ncx CX0 P w K mg base xiN (xiF st q cc c) f A outer s H E) [] (startF xiN [.ref a, y] [some (.ref C)]) H { s with heap := h₁, toks := s.toks + (xiP.zip us).length } := inv_startN (F := xiF st q cc c) S hr.hd e0 rfl r CA hns kp
  have hkc : (defScope st).names.lookup ("__class__" : Str) = some .free := S.frk _ (by simp)
  have hkv : (defScope st).names.lookup ("self" : Str) = some .local := S.par _ (by simp)
  rw [hbd]
  obtain ⟨pl, he⟩ := he f s.heap.objs.size
  refine PySem.ks_wpAt_execs_cons (ws_super (X := ncx CX0 P w K mg base xiN (xiF st q cc c) f A outer s H E) (body := [.Expr (.Call (.Attribute (.Call (.Name "super" p0) [] [] p1) "__init__" p2) [.Constant (.str txt) k1 p3] [] p4) p5, .Assign [.Attribute (.Name "self" p6) "code" p7] (.Constant (.str txt) k2 p8) p9, .Assign [.Attribute (.Name "self" pa) "given" pb] (.Name "given" pc) pd]) V I ea rfl rfl hkv hks hkc rfl hm rfl rfl ar har hself (hi f s.heap.objs.size) he fun s' J => ?_)
  refine PySem.wpAt_of_wpAny ?_
  have sv : Vis (defScope st) "self" := Or.inl hkv
  have gv : Vis (defScope st) "given" := Or.inl (S.par _ (by simp))
  have ht := pss_cons (ps_ost (X := ncx CX0 P w K mg base xiN (xiF st q cc c) f A outer s H E) (f := "code") (p' := p7) (pos := p9) (pv (pos := p6) 0 rfl sv) (pe_str (x := txt) (j := k2) (pos := p8)) rfl) (pss_one (ps_ost (X := ncx CX0 P w K mg base xiN (xiF st q cc c) f A outer s H E) (f := "given") (p' := pb) (pos := pd) (pv (pos := pa) 0 rfl sv) (pv (pos := pc) 1 rfl gv) rfl))
  have red : ∀ dx, H dx = none → dx ≠ a → upd (upd H dx (exd dx [("code", .str txt)])) a (exo a C (some dx)) dx = some (exd dx [("code", .str txt)]) := fun dx n ne => by
    rw [upd_ne ne, upd_same]
  refine wpAny_mono (ht.run [] s' (startF xiN [.ref a, y] [some (.ref C)]) H { nx := fun _ H' => Q .non H', rt := Q } J ?_) (fun fl s'' hs => ?_) fun e s' hs => hs
  · refine ⟨.ref a, rfl, a, C, rfl, V.oex, V.nof, .inl ⟨ea, fun dx n ne => ?_⟩⟩
    exact ⟨y, rfl, .ref a, rfl, a, C, rfl, V.oex, V.nog, .inr ⟨dx, _, upd_same, red dx n ne, by show 1 ≤ 900; decide, hq dx n ne⟩⟩
  · have fin : ∀ {σ' : L2.St} {H' : Hp} {v : L2.V} {u : Value}, L2.Inv (ncx CX0 P w K mg base xiN (xiF st q cc c) f A outer s H E) [] σ' H' s'' → L2.RelV v u → Q v H' → CE outer P w H s Q u s'' :=
      fun {σ' H' v u} J rv q => ⟨v, H', J.os, J.bare, J.base, J.hok, rv, q⟩
    cases fl with
    | ret u =>
      obtain ⟨v, σ', H', J, rv, q⟩ := hs
      exact fin J rv q
    | next =>
      obtain ⟨σ', H', J, q⟩ := hs
      exact fin (v := L2.V.non) (u := Value.none) J rfl q
    | brk =>
      obtain ⟨_, _, _, q⟩ := hs
      exact False.elim q
    | cont =>
      obtain ⟨_, _, _, q⟩ := hs
      exact False.elim q
abbrev st_InvalidRoom : Stmt := inClass (top 7) 0
theorem ns_InvalidRoom : NScope xiN xiP ["__class__"] (defScope st_InvalidRoom) := NdefX.nscope_by (by decide +kernel)
theorem c_InvalidRoom (V : XCls P K st_InvalidRoom "InvalidRoom.__init__" C f cc c) (hm : mg "super" = none) : ∃ fd, FnOk P w K mg base CX0 (k + 1) f fd xiP (spXI C "InvalidRoom") ∧ Binds K fd xiP [] :=
  fn_xini V ns_InvalidRoom rfl hm rfl (fun _ _ => rfl) (fun _ _ => ⟨_, rfl⟩) _ rfl rfl fun fd ⟨kV, doc, pm, an, ct, e⟩ us hl => by
    subst e
    match us, hl with
    | [_, _], _ => rfl
abbrev st_InvalidNumber : Stmt := inClass (top 9) 0
theorem ns_InvalidNumber : NScope xiN xiP ["__class__"] (defScope st_InvalidNumber) := NdefX.nscope_by (by decide +kernel)
theorem c_InvalidNumber (V : XCls P K st_InvalidNumber "InvalidNumber.__init__" C f cc c) (hm : mg "super" = none) : ∃ fd, FnOk P w K mg base CX0 (k + 1) f fd xiP (spXI C "InvalidNumber") ∧ Binds K fd xiP [] :=
  fn_xini V ns_InvalidNumber rfl hm rfl (fun _ _ => rfl) (fun _ _ => ⟨_, rfl⟩) _ rfl rfl fun fd ⟨kV, doc, pm, an, ct, e⟩ us hl => by
    subst e
    match us, hl with
    | [_, _], _ => rfl
end
end FW
set_option maxRecDepth 100000
set_option maxHeartbeats 8000000
/-! # FX3: try: .. except (A, B, C) as n: .. -/
namespace FW
open PySem PySem.Spec PyProof.Rows L2
theorem flying_push {base : Heap} {l : List Env} {e : Addr} {Z : Obj → Prop} {h h' : Heap} (x : HandSPX.FlyingZ base l e Z h) (k : ∀ b o, h.get? b = some o → h'.get? b = some o) : HandSPX.FlyingZ base l e Z h' := by
  obtain ⟨x1, x2, x3, oe, vs, T, oT, ts, e1, e2, e3, e4, e5, e6, e7, e8, e9⟩ := x
  exact ⟨fun b o z => k b o (x1 b o z), x2, Heap.FunFrames.of_keeps (fun b o z _ => ⟨o, k b o z, rfl⟩) x3, oe, vs, T, oT, ts, k _ _ e1, e2, e3, e4, e5, e6, k _ _ e7, e8, e9⟩
def wAs3 (K : PySem.W.Frag) (cs : List Value) (i : Nat) (ts : Addr → Value → Option Addr → TS) (Wout : WX) (D : Ends) : WX := fun cls d σ H =>
  ∃ b, PySem.W.exmAny K cls cs = some b ∧ (b = true → ∀ a, H a = none → ts a cls d { nx := fun σ' H' => D.nx (σ'.set i none) H', rt := D.rt, bk := fun σ' H' => D.bk (σ'.set i none) H', ct := fun σ' H' => D.ct (σ'.set i none) H' } (σ.set i (some (.ref a))) H) ∧
    (b = false → Wout cls d σ H)
section
variable {X : Cx} {x1 x2 x3 n : Str} {c1 c2 c3 : Value} {i kk : Nat} {body suite : List Stmt} {b₀ : Stmt} {np np1 np2 np3 pos pos' : Pos} {tb : WX → TS} {ts : Addr → Value → Option Addr → TS} {Wout : WX}
theorem ps_try_as3 (hs : X.stack = X.env :: X.outer) (hf : X.env.frame = some X.env.locals) (hN : X.N.Nodup) (hi : X.N[i]? = some n) (hln : X.env.kindOf n = some .local) (hc1 : Names X x1 c1) (hc2 : Names X x2 c2) (hc3 : Names X x3 c3) (tk : L2N.Takes X Wout)
    (hb : ∀ (W : WX) (pn : List (Addr × Obj)) (xe : Value → Shared → Prop), L2N.Takes (X.tr pn xe) W → PassesOwn (model X.prog X.w) X.A X.env xe → PSs (X.tr pn xe) body (tb W))
    (hsu : ∀ (a : Addr) (oe : Obj) (cls : Value) (d : Option Addr) (pn : List (Addr × Obj)), L2N.Zn cls d oe → (∃ vs, oe.data = .fields vs) → PSs (X.suite a ((a, oe) :: pn)) (b₀ :: suite) (ts a cls d)) :
    PS X (.Try body [.ExceptHandler (some (.Tuple [.Name x1 np1, .Name x2 np2, .Name x3 np3] kk np)) (some n) (b₀ :: suite) pos'] [] [] pos) (fun D σ H => tb (wAs3 X.K [c1, c2, c3] i ts Wout D) D σ H) := by
  refine ⟨fun pins s σ H D I h => ?_⟩
  have ok := I.ok
  have hfr : X.A.frames = some (X.env :: X.outer) := by rw [ok.frames, hs]
  have hloc : Loc X.env.scope n := .inl hln
  refine wpAny_Try_except ?_
  refine wpAny_mono ((hb (wAs3 X.K [c1, c2, c3] i ts Wout D) (X.pn ++ pins) (fun e s₁ => wpAny (model X.prog X.w) X.A (noteFrame e X.env) (fun _ s₂ => wpAny (model X.prog X.w) X.A (setFlight e none) (fun _ s₃ =>
    wpAny (model X.prog X.w) X.A (handleBy e X.env [.ExceptHandler (some (.Tuple [.Name x1 np1, .Name x2 np2, .Name x3 np3] kk np)) (some n) (b₀ :: suite) pos']) (SP X pins D) X.xe s₃) X.xe s₂) X.xe s₁) (fun u s' xx => ?_) PassesOwn.looking).run [] s σ H D (I.toTry _) h) (fun f s1 hsp => ?_) (fun e s1 he => he)
  · -- the catch
    obtain ⟨a, B, sI, pins', σ', H', cls, d, rfl, J', nb, up, sky, na, os, ag, b, hb1, hyes, hno⟩ := xx
    have J : Inv X pins σ' H' sI := J'.ofTry ok
    have sky' : Sky B (X.env :: X.outer) a (L2N.Zn cls d) X.env.locals s'.heap := by rw [← hs]; exact sky
    show wpAny (model X.prog X.w) X.A (noteFrame (.ref a) X.env) _ _ _
    refine L2N.Sky.land L2N.Zn.steady hfr hf sky' fun h3 fl3 up3 => ?_
    have J3 : Inv X pins σ' H' { s' with heap := h3 } := J.landed nb fl3.1 (up.trans up3) os ag
    obtain ⟨oe3, vs3, he3, hz3, hd3⟩ := fl3.there
    have notFr : ∀ {h : Heap} {o : Obj} {vs : Array Value}, h.FunFrames B (X.env :: X.outer) → h.get? a = some o → o.data = .fields vs → a ∉ frs (X.env :: X.outer) := fun {h o vs} ff e dd hm => by
      obtain ⟨_, o', e', hnf⟩ := ff.mem hm
      rw [e] at e'; cases e'
      exact hnf _ dd
    have nfr := notFr fl3.2.2.1 he3 hd3
    have nL : a ≠ X.env.locals := fun z => nfr (List.mem_filterMap.mpr ⟨X.env, List.mem_cons_self, by rw [hf, z]⟩)
    have nF : a ∉ X.fs := fun hm => by
      obtain ⟨e, he, q⟩ := List.mem_filterMap.mp hm
      exact nfr (List.mem_filterMap.mpr ⟨e, List.mem_cons_of_mem _ he, q⟩)
    have S3 := J3.suite he3 hd3 na nL nF
    refine wpAny_handleBy_cons (codeAny_handlers_test ?_) (by intro q; cases q)
    have LT : PySem.W.Looks (model X.prog X.w) h3 (typeOf (.ref a)) cls := fun A Q E s k q => wpAny_typeOf_ref (k _ _ he3) (by rw [hz3.1]; exact q)
    have test : ∀ {x : Str} {c : Value} {np : Pos} {Q : Value → Shared → Prop} {E : Value → Shared → Prop}, Names X x c → Q c { s' with heap := h3 } → wpAny (model X.prog X.w) (X.A.mark (some (.ref a))) (eval (.Name x np) X.env) Q E { s' with heap := h3 } := fun {x c np Q E} hc q => by
      obtain ⟨hg, hdbg, hm | ⟨hm, hv, hnn⟩⟩ := hc
      · exact ld_glob (X := X.suite a ((a, oe3) :: (X.pn ++ pins))) S3 hg hm q hdbg
      · exact ld_blt (X := X.suite a ((a, oe3) :: (X.pn ++ pins))) S3 hg hm hv q hnn hdbg
    refine wpAny_Tuple ?_
    refine wpAny_items_cons (test hc1 ?_)
    refine wpAny_items_cons (test hc2 ?_)
    refine wpAny_items_cons (test hc3 ?_)
    refine wpAny_items_nil ⟨by size_fits, ?_⟩
    have kp : ∀ q o, h3.get? q = some o → (h3.push { cls := .type "tuple", data := .seq [c1, c2, c3].toArray }).get? q = some o := fun _ _ z => Heap.get?_push_of_some _ z
    have LM := PySem.W.exm_tup3 (M := model X.prog X.w) (J3.kIn.keeps kp) (LT.keeps kp) (Heap.get?_push_size h3 rfl) hb1
    refine LM.here ?_
    have fl3 := flying_push fl3 kp
    have up3 := up3.trans (Heap.UpToSlots.of_keeps kp)
    cases b with
    | true =>
      refine codeAny_handlers_suite_as ?_
      refine HandSPX.lands_againZ fl3 fun h4 fl4 up4 => ?_
      have J4 : Inv X pins σ' H' { s' with heap := h4 } := J.landed nb fl4.1 ((up.trans up3).trans up4) os ag
      obtain ⟨oe4, vs4, he4, hz4, hd4⟩ := fl4.there
      have S4 := J4.suite he4 hd4 na nL nF
      refine store_ok (X := X.suite a ((a, oe4) :: (X.pn ++ pins))) (v := .ref a) S4 hN hi hloc rfl (fun s5 S5 => ?_) (.inr hln)
      refine wpAny_mono ((hsu a oe4 cls d (X.pn ++ pins) hz4 ⟨_, hd4⟩).run [] s5 _ H' _ S5 (hyes rfl a na)) (fun f s6 hsp => ?_) (fun _ _ z => False.elim z)
      have end_ : ∀ {σ6 : L2.St} {H6 : Hp} {Q : Shared → Prop}, Inv (X.suite a ((a, oe4) :: (X.pn ++ pins))) [] σ6 H6 s6 → (∀ s7, Inv X pins (σ6.set i none) H6 s7 → Q s7) →
          wpAny (model X.prog X.w) X.A (do bindName X.env n .none; unbindBehindTheSuite X.env n pos') (fun _ s7 => Q s7) X.xe s6 := fun {σ6 H6 Q} S6 hq => gone_ok (S6.unsuite ok) hN hi hln hq
      cases f with
      | next =>
        obtain ⟨σ6, H6, S6, q6⟩ := hsp
        exact end_ S6 fun s7 J7 => ⟨_, _, J7, q6⟩
      | brk =>
        obtain ⟨σ6, H6, S6, q6⟩ := hsp
        exact end_ S6 fun s7 J7 => ⟨_, _, J7, q6⟩
      | cont =>
        obtain ⟨σ6, H6, S6, q6⟩ := hsp
        exact end_ S6 fun s7 J7 => ⟨_, _, J7, q6⟩
      | ret u =>
        obtain ⟨v6, σ6, H6, S6, r6, q6⟩ := hsp
        exact end_ S6 fun s7 J7 => ⟨_, _, _, J7, r6, q6⟩
    | false =>
      show wpAny _ X.A (handleBy (.ref a) X.env []) _ _ _
      refine wpAny_handleBy_nil ?_
      obtain ⟨k1, k2, k3, oe, vs, T, oT, ts', he, hz, hd, h1, hr⟩ := id fl3
      unfold PySem.passOn
      refine wpAny_bind (wpAny_field he hd h1 ?_)
      rw [if_neg (show ¬ ((Value.ref T == Value.none) = true) from by simp)]
      have fin : wpAny (model X.prog X.w) X.A (setFlight (.ref a) X.env.frame) (fun _ s4 => wpAny (model X.prog X.w) X.A (throw (.ref a) : Sem Flow) (SP X pins D) X.xe s4) X.xe { s' with heap := h3.push { cls := .type "tuple", data := .seq [c1, c2, c3].toArray } } := by
        rw [hf]
        refine HandSPX.setFlight_upZ fl3 fun h4 hh4 up4 => wpAny_throw (tk _ _ ?_)
        exact ⟨a, B, sI, pins, σ', H', cls, d, rfl, J, nb, (up.trans up3).trans up4, .inr (.inr (by rw [hs]; exact hh4)), na, os, ag, hno rfl⟩
      first
        | exact wpAny_bind (wpAny_pure (wpAny_bind fin))
        | exact wpAny_bind fin
  · cases f with
    | next =>
      obtain ⟨σ', H', J', q⟩ := hsp
      exact wpAny_execs_nil ⟨σ', H', J'.ofTry ok, q⟩
    | brk =>
      obtain ⟨σ', H', J', q⟩ := hsp
      exact ⟨σ', H', J'.ofTry ok, q⟩
    | cont =>
      obtain ⟨σ', H', J', q⟩ := hsp
      exact ⟨σ', H', J'.ofTry ok, q⟩
    | ret u =>
      obtain ⟨v, σ', H', J', r, q⟩ := hsp
      exact ⟨v, σ', H', J'.ofTry ok, r, q⟩
end
end FW
set_option maxRecDepth 100000
set_option maxHeartbeats 8000000
/-! # FX4: an own exception made; a call that may let an exception out -/
namespace FW
open PySem PySem.Spec PyProof.Rows L2
section
variable {X : Cx} {e : Expr} {es : List Expr} {ta : TA} {p pos : Pos}
theorem pmk_oexN {CX : CXT} {x : Str} {C fI : Addr} {k : Nat} {fd : FuncData} {ps : List Str} {sp : Sp} {ds : List Value} {dvs : List V} (T : OexC X.K C) (iC : PySem.W.findIn X.K (.ref C) "__init__" = some (some (.ref fI))) (tI : PySem.W.typeIn X.K (.ref fI) = some (.type "function"))
    (F1 : FnOk X.prog X.w X.K X.mg X.base CX k fI fd ps sp) (hr : Room (k + 1) X.A) (hb : Binds X.K fd ps ds) (hd : Vals dvs ds) (hx : Passes CX X (fun _ _ _ => False)) (hg : Gl X x) (hm : X.mg x = some (.ref C)) (ha : PA X (e :: es) ta)
    (hdb : (x == ("__debug__" : Str)) = false := by decide) (he : starEach (e :: es) X.env = (false, eval e X.env) :: starEach es X.env := by rfl) (hpl : (backTo pos (starEach es X.env)).any (·.1) = false := by rfl) :
    L2N.PMk X (.Call (.Name x p) (e :: es) [] pos) (tMkO C sp dvs ta) := by
  intro pins s σ H Q I h
  obtain ⟨nm, q, N, bs, bm, sn, sub, ab, col, dd, k0, k1, k2, k3, k5, hC, hbm⟩ := T.cls
  refine wpAny_Call_Name_kw (ld_glob I hg hm ?_ hdb)
  refine PySem.W.callWith_K (h₀ := X.base) I.ok.mod.kin T.kC (thn (ha.run pos pins s σ H _ I h) fun us s1 ⟨vs, H1, I1, r1, hz, q1⟩ => ⟨I1.kIn, ?_⟩) he hpl
  show wpAny _ _ (call (.ref C) us) _ _ _
  obtain ⟨hp, g, dr, tk, os⟩ := s1
  have hsz : hp.objs.size ≤ hp.objs.size + 1 := Nat.le_succ _
  have hn : H1 (hp.objs.size + 1) = none := I1.hok.fresh hsz
  have hq := q1 (hp.objs.size + 1) hn
  have kk : ∀ b o, hp.get? b = some o → ((hp.push (PySem.W.kdv_tup us)).push (PySem.HandSPX.excO C hp.objs.size)).get? b = some o := fun b o e => Heap.get?_push_of_some _ (Heap.get?_push_of_some _ e)
  have hget : ((hp.push (PySem.W.kdv_tup us)).push (PySem.HandSPX.excO C hp.objs.size)).get? (hp.objs.size + 1) = some (PySem.HandSPX.excO C hp.objs.size) := by heap_get
  have I2 : Inv X pins σ (upd H1 (hp.objs.size + 1) (exo (hp.objs.size + 1) C none)) ⟨(hp.push (PySem.W.kdv_tup us)).push (PySem.HandSPX.excO C hp.objs.size), g, dr, tk, os⟩ :=
    I1.laid (t' := tk) (a := hp.objs.size + 1) (o := exo (hp.objs.size + 1) C none) (h' := (hp.push (PySem.W.kdv_tup us)).push (PySem.HandSPX.excO C hp.objs.size)) kk hsz (exo_ok hget)
  have r2 : Vals (V.ref (hp.objs.size + 1) :: (vs ++ dvs)) (Value.ref (hp.objs.size + 1) :: (us ++ ds)) := .cons rfl (r1.append hd)
  have hl : (Value.ref (hp.objs.size + 1) :: us ++ ds).length = ps.length := by
    have e := r2.length
    rw [F1.len _ _ _ _ hq] at e
    exact e.symm
  have hus : us.length ≤ sizeLine := by
    rw [← Paired.length r1, sizeLine_eq]
    omega
  refine wpAny_call (PySem.HandSPX.call_own F.excBase_ValueError (fun Y => PySem.HandSPX.refsVE_contains Y bm hbm) (I1.kIn _ _ hC) (PySem.W.looks_findIn I1.kIn iC) (fun self => PySem.W.bind_fn I1.kIn self tI) hus
    (codeAny_mono (F1.run _ X.stack _ _ ⟨Value.ref (hp.objs.size + 1) :: us, []⟩ (Value.ref (hp.objs.size + 1) :: (us ++ ds)) _ _ (fun _ _ _ => False) (hr.make C us []) (I2.env0.make C us []) (hb _ (Value.ref (hp.objs.size + 1) :: us) I2.kIn hl) r2 hq) fun r s' hq' => ?_))
  cases r with
  | error er => exact hx pins σ _ _ er s' I2 hq'
  | ok fl =>
    cases fl with
    | ret u =>
      obtain ⟨v, H2, os2, bare2, un2, hok2, rv, ev, d, fs, ea, ed, hd1, q2⟩ := hq'
      subst ev
      obtain ⟨h2, g2, d2, t2, os'⟩ := s'
      obtain ⟨t0, G, J, kG, ge, hoe, na⟩ := mk_end0 (d2 := d2) (t2 := t2) I1 hsz kk un2 hok2 os2 bare2 ea ed hd1
      refine ⟨rv, hp.objs.size + 1, _, _, ⟨G, g2, d2, t2, os'⟩, _, .ref C, some d, rfl, J, kG, ge, hoe, ⟨rfl, rfl, fun vs hv => ?_⟩, rfl, rfl, na, rfl, bare2, raises_own T.exC T.tyC, q2⟩
      cases hv
      rfl
    | next => exact False.elim hq'
    | brk => exact False.elim hq'
    | cont => exact False.elim hq'
end
end FW
set_option maxRecDepth 100000
set_option maxHeartbeats 8000000
/-! # FX5: the checks that raise -/
namespace FW
open PySem L2
open Evl (Ex Ex.refl Ex.trans Ex.new Ex.mut EvT)
def BadE (C : Addr) (txt : Str) (y : V) (H : Hp) (E : XK) : Prop := ∀ dd H', Ex H H' → H' dd = some (.xd [("given", y), ("code", .str txt)]) → E (.ref C) (some dd) H'
theorem BadE.mono {C : Addr} {txt : Str} {y : V} {H H1 : Hp} {E : XK} (h : BadE C txt y H E) (e : Ex H H1) : BadE C txt y H1 E := fun dd H' e' => h dd H' (e.trans e')
theorem mk_xi {C : Addr} {txt : Str} {i : Nat} {y : V} {σ : L2.St} {H : Hp} {Q : XK} (h : σ[i]? = some (some y)) (k : BadE C txt y H Q) : tMkO C (spXI C txt) [] (tCons (tVar i) tNil) σ H Q := by
  refine ⟨y, h, by show 1 ≤ 1000; decide, fun a ha => ⟨a, y, rfl, upd_same, fun dx hn ne => ⟨rfl, dx, _, ?_, upd_same, ?_, k dx _ (fun b o hb => ?_) upd_same⟩⟩⟩
  · rw [upd_ne (Ne.symm ne), upd_same]
  · rw [upd_ne ne] at hn
    exact hn
  · have h1 : b ≠ a := fun z => by
      rw [z, ha] at hb
      cases hb
    have h2 : b ≠ dx := fun z => by
      rw [upd_ne ne] at hn
      rw [z, hn] at hb
      cases hb
    rw [upd_ne h2, del_ne h1, upd_ne h2, upd_ne h1, upd_ne h2, upd_ne h1]
    exact hb
section
variable {P : Program} {w : World} {K : PySem.W.Frag} {mg : Str → Option Value} {base : Heap} {Cb C1 C2 : Addr}
theorem cal_ofX {k : Nat} {x : Str} {N ps : List Str} {sp : Sp} {st : Stmt} (S : FnScope N ps (defScope st)) (F : DefAt K mg x st) (len : ∀ vs H Q E, sp vs H Q E → vs.length = ps.length)
    (hb : ∀ (kV doc pm : Value) (an : Option Addr) (cdv ct : Value) (us : List Value), us.length = ps.length → bindArgs (PySem.W.fnOf x x (defArgs st) (defBody st) (defScope st) .none kV doc pm an cdv ct) ⟨us, []⟩ = pure (ps.zip us))
    (hbody : ∀ (f cdv : _) (A : Around) (outer : List Env) (s : Shared) (H : Hp), Room k (A.deeper (PyProof.Rows.envOfC x (defScope st) s.heap.objs.size f cdv)) → ∀ (E : XK) (vs : List V) (Q : VK), sp vs H Q E → L2N.Takes (cxOf (L2N.CX P w) P w K mg base N x (defScope st) f cdv A outer s H E) (fun cls d _ H => E cls d H) →
      ∃ t, PSs (cxOf (L2N.CX P w) P w K mg base N x (defScope st) f cdv A outer s H E) (defBody st) t ∧ t { nx := fun _ H' => Q .non H', rt := Q } (start N vs) H) : Cal P w K mg base (L2N.CX P w) (k + 1) x ps sp := cal_mk F (fun f fd F => by
  obtain ⟨oc, od, kV, doc, pm, an, cdv, ct, osl, rfl, lk, hcd⟩ := F.ex
  exact fn_of lk hcd S len fun A outer s H vs Q E hr hsp => hbody f cdv A outer s H hr E vs Q hsp (L2N.takes_of rfl rfl rfl rfl)) hb
theorem passT {X : Cx} {E : XK} (tk : L2N.Takes X (fun cls d _ H => E cls d H)) : Passes (L2N.CX X.prog X.w) X E := L2N.passes_call tk fun _ _ _ _ h => h
theorem passN {X : Cx} : Passes (L2N.CX X.prog X.w) X E0 := fun _ _ _ _ _ _ _ h => by
  obtain ⟨_, _, _, _, _, _, _, _, _, _, _, _, z⟩ := h
  exact z.elim
def spBad1 (Cb C1 : Addr) : Sp := fun vs H _ E => ∃ (p : Addr) (y : V) (d : Dt) (sp : Spec), vs = [.ref p, y] ∧ BkAt Cb p sp H ∧ Dq H y d ∧ noObj d ∧ okL d ∧ isRoomD d sp.fc = false ∧ BadE C1 "InvalidRoom" y H E
/-- what an own exception's class must have, and its __init__'s promise -/
structure XMk (P : Program) (w : World) (K : PySem.W.Frag) (mg : Str → Option Value) (base : Heap) (x : Str) (C : Addr) : Prop where
  oex : OexC K C
  gl : mg x = some (.ref C)
  ini : ∃ f fd, PySem.W.findIn K (.ref C) "__init__" = some (some (.ref f)) ∧ PySem.W.typeIn K (.ref f) = some (.type "function") ∧ FnOk P w K mg base CX0 1 f fd xiP (spXI C x) ∧ Binds K fd xiP []
theorem pmk_x {X : Cx} {x : Str} {C : Addr} {e : Expr} {ta : TA} {p pos : Pos} (M : XMk X.prog X.w X.K X.mg X.base x C) (hr : Room 2 X.A) (ha : PA X [e] ta) (hg : Gl X x := by rfl) (hd : (x == ("__debug__" : Str)) = false := by decide) (he : starEach (e :: []) X.env = (false, eval e X.env) :: starEach [] X.env := by rfl) (hpl : (backTo pos (starEach [] X.env)).any (·.1) = false := by rfl) :
    L2N.PMk X (.Call (.Name x p) [e] [] pos) (tMkO C (spXI C x) [] ta) := by
  obtain ⟨f, fd, h1, h2, F1, hb⟩ := M.ini
  exact pmk_oexN M.oex h1 h2 F1 hr hb .nil pass0 hg M.gl ha hd he hpl
theorem x_check_room (T : Txt mg) (B : BkCls K Cb) (F : DefAt K mg "check_room" st_check_room) (M1 : XMk P w K mg base "InvalidRoom" C1) (C_is_room : Cal P w K mg base CX0 2 "is_room" ["value", "faces"] (spR R_is_room)) : Cal P w K mg base (L2N.CX P w) 3 "check_room" ["book", "room"] (spBad1 Cb C1) := by
  refine cal_ofX sc_check_room F (fun _ _ _ _ ⟨_, _, _, _, e, _⟩ => by rw [e]; rfl) (fun _ _ _ _ _ _ us hl => match us, hl with | [_, _], _ => rfl) fun f cdv A outer s H hr E vs Q hsp tk => ?_
  refine ⟨_, (pss_one (ps_if (pt_not (pt_val (pe_cal C_is_room hr pass0 (pa_cons (pv 1) (pa_cons (pe_fld (pv 0) rfl) pa_nil))))) (pss_one (L2N.ps_raise rfl tk (pmk_x M1 hr (pa_cons (pv 1) pa_nil)))) pss_nil)), ?_⟩
  obtain ⟨p, y, d, sp, rfl, hb, hy, no, ok, bad, k⟩ := hsp
  refine s_ifD (b := true) (EvB.to (et_not (et_T (ed_call (a2 (xv hy) (ed_faces B hb (xv (.obj p)))) fun H1 e => ⟨_, _, rfl, no, ok, rfl⟩))) (by rw [bad] <;> rfl)) (fun _ H1 e1 => ?_) (fun q => by cases q)
  exact mk_xi rfl (k.mono e1)
def spBad3 (Cb C1 C2 : Addr) : Sp := fun vs H _ E => ∃ (p : Addr) (y z : V) (d c : Dt) (sp : Spec), vs = [.ref p, y, z] ∧ BkAt Cb p sp H ∧ Dq H y d ∧ Dq H z c ∧ noObj d ∧ okL d ∧ noObj c ∧
  ((isRoomD d sp.fc = false ∧ BadE C1 "InvalidRoom" y H E) ∨ ((∃ r, d = .str r ∧ rmOf r sp.fc) ∧ isNumD c 0 30 = false ∧ BadE C2 "InvalidNumber" z H E))
theorem x_check_count (T : Txt mg) (B : BkCls K Cb) (F : DefAt K mg "check_count" st_check_count) (M2 : XMk P w K mg base "InvalidNumber" C2) {t : Tok} (h_MOST_CUTS : mg "MOST_CUTS" = some (.int 30 t)) (C_check_room : Cal P w K mg base CX0 3 "check_room" ["book", "room"] (spR (R_ck Cb))) (X_check_room : Cal P w K mg base (L2N.CX P w) 3 "check_room" ["book", "room"] (spBad1 Cb C1))
    (C_is_number : Cal P w K mg base CX0 1 "is_number" ["value", "least", "most"] (spR R_is_number)) : Cal P w K mg base (L2N.CX P w) 4 "check_count" P_cc (spBad3 Cb C1 C2) := by
  refine cal_ofX sc_check_count F (fun _ _ _ _ ⟨_, _, _, _, _, _, e, _⟩ => by rw [e]; rfl) (fun _ _ _ _ _ _ us hl => match us, hl with | [_, _, _], _ => rfl) fun f cdv A outer s H hr E vs Q hsp tk => ?_
  obtain ⟨p, y, z, d, c, sp, rfl, hb, hy, hz, no, ok, no2, q⟩ := hsp
  rcases q with ⟨bad, k⟩ | ⟨⟨r, rfl, hrm⟩, bad, k⟩
  · refine ⟨_, (pss_cons (ps_expr (pe_cal X_check_room hr (passT tk) (pa_cons (pv 0) (pa_cons (pv 1) pa_nil))))
      (pss_one (ps_if (pt_not (pt_val (pe_cal C_is_number hr pass0 (pa_cons (pv 2) (pa_cons pe_int (pa_cons (pe_globI h_MOST_CUTS) pa_nil)))))) (pss_one ps_never) pss_nil))), ?_⟩
    exact ⟨.ref p, rfl, y, rfl, p, y, d, sp, rfl, hb, hy, no, ok, bad, k⟩
  · refine ⟨_, (pss_cons (ps_expr (pe_cal C_check_room hr pass0 (pa_cons (pv 0) (pa_cons (pv 1) pa_nil))))
      (pss_one (ps_if (pt_not (pt_val (pe_cal C_is_number hr pass0 (pa_cons (pv 2) (pa_cons pe_int (pa_cons (pe_globI h_MOST_CUTS) pa_nil)))))) (pss_one (L2N.ps_raise rfl tk (pmk_x M2 (hr.mono (by decide)) (pa_cons (pv 2) pa_nil)))) pss_nil))), ?_⟩
    refine g_drop (C := fun d => d = .non) (ed_call (a2 (xv (.obj p)) (xv hy)) fun H1 e => ⟨p, sp, r, rfl, hb.mono e, hrm, rfl⟩) fun v d H1 e1 _ _ => ?_
    refine s_ifD (b := true) (EvB.to (et_not (et_T (ed_call (a3 (xv (hz.mono e1)) ed_int ed_int) fun H1 e => ⟨c, 0, 30, rfl, no2, rfl⟩))) (by rw [bad] <;> rfl)) (fun _ H2 e2 => ?_) fun q => by cases q
    exact mk_xi rfl (k.mono (e1.trans e2))
theorem x_trees_of (F : DefAt K mg "trees_of" st_trees_of) (X_check_count : Cal P w K mg base (L2N.CX P w) 4 "check_count" P_cc (spBad3 Cb C1 C2)) : Cal P w K mg base (L2N.CX P w) 9 "trees_of" P_cc (spBad3 Cb C1 C2) := by
  refine cal_ofX sc_trees_of F (fun _ _ _ _ ⟨_, _, _, _, _, _, e, _⟩ => by rw [e]; rfl) (fun _ _ _ _ _ _ us hl => match us, hl with | [_, _, _], _ => rfl) fun f cdv A outer s H hr E vs Q hsp tk => ?_
  refine ⟨_, (pss_cons (ps_expr (pe_cal X_check_count hr (passT tk) (pa_cons (pv 0) (pa_cons (pv 1) (pa_cons (pv 2) pa_nil)))))
      (pss_one ps_never)), ?_⟩
  have hs := hsp
  obtain ⟨p, y, z, d, c, sp, rfl, q⟩ := hsp
  exact ⟨.ref p, rfl, y, rfl, z, rfl, hs⟩
theorem x_histories_of (F : DefAt K mg "histories_of" st_histories_of) (X_check_count : Cal P w K mg base (L2N.CX P w) 4 "check_count" P_cc (spBad3 Cb C1 C2)) : Cal P w K mg base (L2N.CX P w) 9 "histories_of" P_cc (spBad3 Cb C1 C2) := by
  refine cal_ofX sc_histories_of F (fun _ _ _ _ ⟨_, _, _, _, _, _, e, _⟩ => by rw [e]; rfl) (fun _ _ _ _ _ _ us hl => match us, hl with | [_, _, _], _ => rfl) fun f cdv A outer s H hr E vs Q hsp tk => ?_
  refine ⟨_, (pss_cons (ps_expr (pe_cal X_check_count hr (passT tk) (pa_cons (pv 0) (pa_cons (pv 1) (pa_cons (pv 2) pa_nil)))))
      (pss_one ps_never)), ?_⟩
  have hs := hsp
  obtain ⟨p, y, z, d, c, sp, rfl, q⟩ := hsp
  exact ⟨.ref p, rfl, y, rfl, z, rfl, hs⟩
end
end FW
set_option maxRecDepth 100000
set_option maxHeartbeats 8000000
/-! # FX6: the field of a caught exception, read by a def that is called in the suite -/
namespace FW
open PySem PySem.Spec PyProof.Rows L2 L2H
open Evl (Ex Ex.refl Ex.trans Ex.new Ex.mut EvT)
abbrev SpP := Addr × Obj → Sp
/-- a def called while p's exception is handled -/
structure FnP (P : Program) (w : World) (K : PySem.W.Frag) (mg : Str → Option Value) (base : Heap) (CX : CXT) (k : Nat) (f : Addr) (fd : FuncData) (ps : List Str) (spp : SpP) : Prop where
  len : ∀ p vs H Q E, spp p vs H Q E → vs.length = ps.length
  run : ∀ (A : Around) (outer : List Env) (s : Shared) (H : Hp) (args : Args) (us : List Value) (vs : List V) (Q : VK) (E : XK) (p : Addr × Obj), RoomH k A → Hot1 A p → PinOk outer H s p → Env0 P w K mg base A outer s H → BindsTo s fd args (ps.zip us) → Vals vs us → spp p vs H Q E →
    codeAny (model P w) A (.call (.ref f) args) (CR CX outer P w H s Q E) s
theorem fn_ofP {CX : CXT} {P : Program} {w : World} {K : PySem.W.Frag} {mg : Str → Option Value} {base : Heap} {k : Nat} {x qual : Str} {st : Stmt} {f : Addr} {fd : FuncData} {N ps : List Str} {spp : SpP} (F : Fun K x qual st f fd) (S : FnScope N ps (defScope st)) (len : ∀ p vs H Q E, spp p vs H Q E → vs.length = ps.length)
    (hbody : ∀ (cdv : Value) (A : Around) (outer : List Env) (s : Shared) (H : Hp) (vs : List V) (Q : VK) (E : XK) (p : Addr × Obj), Hot1 A p → RoomH k (A.deeper (envOfC qual (defScope st) s.heap.objs.size f cdv)) → spp p vs H Q E →
      ∃ t, PSs (cxH CX P w K mg base N qual (defScope st) f cdv A outer s H E p) (defBody st) t ∧ t { nx := fun _ H' => Q .non H', rt := Q } (L2.start N vs) H) : FnP P w K mg base CX (k + 1) f fd ps spp := by
  obtain ⟨oc, od, kV, doc, pm, an, cdv, ct, osl, rfl, lk, hcd⟩ := F.ex
  refine ⟨len, fun A outer s H args us vs Q E p hr hot hpin e0 hb r hsp => ?_⟩
  have hl := len _ _ _ _ _ hsp
  have KX : K.In s.heap := e0.mod.kin.keeps fun b o e => (e0.bs b o e).1
  have lim : s.heap.NoLimit := e0.mod.nolimit.keeps fun b o e => (e0.bs b o e).1
  have hkind : ∀ y ∈ ps.zip us, (defScope st).names.lookup y.1 = some .local ∨ ((defScope st).names.lookup y.1 = some .cell ∧ ((cellsFrom (s.heap.objs.size + 1) (defScope st).names []).lookup y.1).isSome = true) := fun ⟨n, v⟩ hy =>
    (S.par n (List.of_mem_zip hy).1).imp id fun q => ⟨q, PySem.W.cellsFrom_some _ _ _ (.inl q)⟩
  refine codeAny_call_function hr.depth (KX _ _ lk) rfl S.co S.gen rfl (PySem.W.codeRec_of KX hcd) (hb _ _ _ _ ?_)
  refine wpAny_newFunctionEnv_cells S.kind hkind fun env he s1 x => ?_
  subst he
  refine ⟨lim.keeps x.toInCall.keep, codeAny_func ?_⟩
  obtain ⟨t, ht, hq⟩ := hbody cdv A outer s H vs Q E p hot (hr.deeper _) hsp
  refine wpAny_mono (ht.run [] s1 (L2.start N vs) H _ (inv_startH S hpin e0 hl r x) hq) (fun fl s' hs => ?_) fun e s' hs => hs
  match fl, hs with
  | .ret u, ⟨v, σ', H', J, rv, q⟩ => exact ⟨v, H', J.os, J.bare, J.base, J.hok, rv, q⟩
  | .next, ⟨σ', H', J, q⟩ => exact ⟨V.non, H', J.os, J.bare, J.base, J.hok, rfl, q⟩
  | .brk, ⟨_, _, _, q⟩ => exact False.elim q
  | .cont, ⟨_, _, _, q⟩ => exact False.elim q
section
variable {X : Cx} {CX : CXT} {k j : Nat} {f : Addr} {fd : FuncData} {ps : List Str} {spp : SpP} {x : Str} {q pos : Pos} {e o : Expr} {te : TE} {ta : TA} {E : XK} {p : Addr × Obj}
/-- such a call -/
theorem pe_callP (F : FnP X.prog X.w X.K X.mg X.base CX k f fd ps spp) (hr : RoomH j X.A) (hk : k ≤ j) (hot : Hot1 X.A p) (hp : p ∈ X.pn) (hg : Gl X x) (hm : X.mg x = some (.ref f)) (hkp : PySem.W.keepIn X.K (.ref f) = true) (hb : Binds X.K fd ps []) (hx : Passes CX X E)
    (ha : PA X [e] ta) (hdb : (x == ("__debug__" : Str)) = false := by decide) (he : starEach (e :: []) X.env = (false, eval e X.env) :: starEach [] X.env := by rfl) (hpl : (backTo pos (starEach [] X.env)).any (·.1) = false := by rfl) :
    PE X (.Call (.Name x q) [e] [] pos) (tCall (spp p) [] E ta) := by
  refine ⟨fun pins s σ H Q I h => ?_⟩
  refine wpAny_Call_Name_kw (ld_glob I hg hm ?_ hdb)
  refine PySem.W.callWith_K (h₀ := X.base) I.ok.mod.kin hkp (thn (ha.run pos pins s σ H _ I h) fun us s1 ⟨vs, H1, I1, r, q⟩ => ⟨I1.kIn, ?_⟩) he hpl
  have q : spp p (vs ++ []) H1 Q E := q
  rw [List.append_nil] at q
  have hl : us.length = ps.length := by rw [← r.length]; exact F.len _ _ _ _ _ q
  have b := hb s1 us I1.kIn (by rw [List.append_nil]; exact hl)
  rw [List.append_nil] at b
  have P1 := I1.pin p (List.mem_append_left _ hp)
  have hpin : PinOk X.stack H1 s1 p := ⟨P1.1, P1.2.1, fun hm => (List.mem_cons.mp (I1.stkSub p.1 hm)).elim P1.2.2.1 P1.2.2.2.1, P1.2.2.2.2⟩
  refine wpAny_call (codeAny_mono (F.run X.A X.stack s1 H1 ⟨us, []⟩ us vs Q E p (hr.mono hk) hot hpin I1.env0 b r q) fun r s' hq => ?_)
  match r, hq with
  | .error e, hq => exact hx pins σ H1 s1 e s' I1 hq
  | .ok (.ret u), hq => exact I1.after hq
  | .ok .next, hq => exact False.elim hq
  | .ok .brk, hq => exact False.elim hq
  | .ok .cont, hq => exact False.elim hq
/-- a field of the handled exception -/
def tXfP (a dd : Addr) (n : Str) (te : TE) : TE := fun σ H Q => te σ H fun x H1 => x = .ref a ∧ ∃ (fs : List (Str × V)) (v : V), H1 dd = some (.xd fs) ∧ fs.lookup n = some v ∧ Q v H1
theorem pe_xfP {a C dd : Addr} {oe : Obj} {n : Str} (T : XfC X.K C) (hno : PySem.W.findIn X.K (.ref C) n = some none) (hp : (a, oe) ∈ X.pn) (hz : Zc (.ref C) (some dd) oe) (hf : ∃ vs, oe.data = .fields vs) (he : PE X o te) (hb : attributeBase o n X.env (eval o X.env) = eval o X.env := by rfl) :
    PE X (.Attribute o n pos) (tXfP a dd n te) := by
  refine ⟨fun pins s σ H Q I h => ?_⟩
  refine attr_of hb (thn (he.run pins s σ H _ I h) fun u s1 hh => ?_)
  obtain ⟨x, H1, I1, rx, ex, fs, v, ea, l, q⟩ := hh
  subst ex
  obtain rfl : u = Value.ref a := rx
  obtain ⟨ha, _⟩ := I1.pin (a, oe) (List.mem_append_left _ hp)
  obtain ⟨vs, hd⟩ := hf
  have hx : ObjOk X.prog X.w H1 s1.heap dd (.xd fs) := I1.hok dd _ ea
  obtain ⟨mA, hns, hr⟩ := hx
  obtain ⟨od, ho, hl⟩ := lookIn_ns hns
  obtain ⟨u, hu, ru⟩ := RelO.some_of (v := v) (o := mA n) (by rw [← l]; exact hr n)
  have J : PySem.W.InstAt s1.heap a oe C (some od) := ⟨ha, hz.1, by unfold PySem.W.notCls; rw [hd] <;> rfl, by rw [hz.2]; exact ho⟩
  exact HandSPX.exc_get I1.kIn J T.ga T.gg T.exC (PySem.W.findObj_own T.hdC hno rfl (by rw [hl, hu])) (handed_of ru) ⟨v, H1, I1.tok _, ru, q⟩
end
section
variable {σ : L2.St} {H : Hp} {te : TE}
theorem ed_xfP {a dd : Addr} {n : Str} {fs : List (Str × V)} {v : V} {d : Dt} (h : EvD te σ H (.obj a)) (hd : H dd = some (.xd fs)) (hl : fs.lookup n = some v) (dv : Dq H v d) : EvD (tXfP a dd n te) σ H d := fun H1 e Q q => h H1 e _ fun x d' H2 e2 ed k => by
  subst ed
  cases k
  exact ⟨rfl, fs, v, e2 _ _ (e _ _ hd), hl, q _ _ H2 e2 rfl (dv.mono (e.trans e2))⟩
end
theorem op_inK (K : PySem.W.Frag) {X : Cx} (h : X.K = K := by rfl) : OpR X (compareOp .In) (rIn K false) := by
  rw [← h]
  exact op_in_seq
end FW
set_option maxRecDepth 100000
set_option maxHeartbeats 4000000
/-! # PM1: the number of histories, in plain Lean -/
namespace FW
/-- two orders of work shuffled: by the derivative -/
def conv : Nat → (Nat → Nat) → (Nat → Nat) → Nat
  | 0, f, g => f 0 * g 0
  | n + 1, f, g => conv n (fun i => f (i + 1)) g + conv n f (fun i => g (i + 1))
theorem conv_add : ∀ n f g h, conv n (fun i => f i + g i) h = conv n f h + conv n g h
  | 0, f, g, h => Nat.add_mul ..
  | n + 1, f, g, h => by
    show conv n (fun i => f (i + 1) + g (i + 1)) h + conv n (fun i => f i + g i) (fun i => h (i + 1)) = _
    rw [conv_add n (fun i => f (i + 1)) (fun i => g (i + 1)) h, conv_add n f g (fun i => h (i + 1))]
    show _ = (conv n _ _ + conv n _ _) + (conv n _ _ + conv n _ _)
    omega
theorem conv_comm : ∀ n f g, conv n f g = conv n g f
  | 0, f, g => Nat.mul_comm ..
  | n + 1, f, g => by
    show conv n _ _ + conv n _ _ = conv n _ _ + conv n _ _
    rw [conv_comm n (fun i => f (i + 1)) g, conv_comm n f (fun i => g (i + 1))]
    omega
theorem conv_add2 (n : Nat) (f g h : Nat → Nat) : conv n f (fun i => g i + h i) = conv n f g + conv n f h := by
  rw [conv_comm, conv_add, conv_comm n g f, conv_comm n h f]
theorem conv_zero : ∀ n g, conv n (fun _ => 0) g = 0
  | 0, g => Nat.zero_mul _
  | n + 1, g => by
    show conv n _ _ + conv n _ _ = 0
    rw [conv_zero n, conv_zero n]
theorem conv_zero2 (n : Nat) (f : Nat → Nat) : conv n f (fun _ => 0) = 0 := by rw [conv_comm, conv_zero]
theorem conv_left : ∀ n f g h, conv n f (fun i => conv i g h) = conv n g (fun i => conv i f h)
  | 0, f, g, h => Nat.mul_left_comm ..
  | n + 1, f, g, h => by
    show conv n (fun i => f (i + 1)) (fun i => conv i g h) + conv n f (fun i => conv i (fun i => g (i + 1)) h + conv i g (fun i => h (i + 1))) = conv n (fun i => g (i + 1)) (fun i => conv i f h) + conv n g (fun i => conv i (fun i => f (i + 1)) h + conv i f (fun i => h (i + 1)))
    rw [conv_add2, conv_add2, conv_left n (fun i => f (i + 1)) g h, conv_left n f (fun i => g (i + 1)) h, conv_left n f g (fun i => h (i + 1))]
    omega
def one0 (n : Nat) : Nat := if n = 0 then 1 else 0
theorem conv_one : ∀ n f, conv n f one0 = f n
  | 0, f => by show f 0 * 1 = f 0; rw [Nat.mul_one]
  | n + 1, f => by
    show conv n (fun i => f (i + 1)) one0 + conv n f (fun i => one0 (i + 1)) = f (n + 1)
    have e : (fun i => one0 (i + 1)) = fun _ => 0 := by
      funext i
      show (if i + 1 = 0 then 1 else 0) = 0
      rw [if_neg (Nat.succ_ne_zero i)]
    rw [conv_one n, e, conv_zero2]
    rfl
theorem conv_sum {α : Type} (n : Nat) (F : α → Nat → Nat) (g : Nat → Nat) : ∀ l : List α, conv n (fun i => (l.map fun a => F a i).sum) g = (l.map fun a => conv n (F a) g).sum
  | [] => conv_zero n g
  | a :: l => by
    show conv n (fun i => F a i + (l.map fun a => F a i).sum) g = conv n (F a) g + (l.map fun a => conv n (F a) g).sum
    rw [conv_add, conv_sum n F g l]
theorem conv_sum2 {α : Type} (n : Nat) (F : α → Nat → Nat) (f : Nat → Nat) (l : List α) : conv n f (fun i => (l.map fun a => F a i).sum) = (l.map fun a => conv n f (F a)).sum := by
  rw [conv_comm, conv_sum]
  congr 1
  exact List.map_congr_left fun a _ => conv_comm ..
section
variable {R κ : Type} (T : R → List (κ × R × R)) (Hf : Nat → R → Nat)
/-- of one room on: a forest's histories -/
def Gf : List R → Nat → Nat
  | [], n => one0 n
  | r :: S, n => conv n (fun i => Hf i r) (Gf S)
theorem Gf_two (a b : R) : ∀ (S : List R) (n : Nat), Gf Hf (S ++ [a, b]) n = conv n (fun i => conv i (fun i => Hf i a) (fun i => Hf i b)) (Gf Hf S)
  | [], n => by
    show conv n (fun i => Hf i a) (fun i => conv i (fun i => Hf i b) one0) = conv n _ one0
    rw [conv_one]
    congr 1
    funext i
    exact conv_one ..
  | r :: S, n => by
    show conv n (fun i => Hf i r) (Gf Hf (S ++ [a, b])) = conv n _ (fun n => conv n (fun i => Hf i r) (Gf Hf S))
    have e : Gf Hf (S ++ [a, b]) = fun n => conv n (fun i => conv i (fun i => Hf i a) (fun i => Hf i b)) (Gf Hf S) := funext fun n => Gf_two a b S n
    rw [e, conv_left]
/-- the states after one cut -/
def succs : List R → List (List R)
  | [] => []
  | r :: S => (T r).map (fun t => S ++ [t.2.1, t.2.2]) ++ (succs S).map (r :: ·)
def cnt : Nat → List R → Nat
  | 0, _ => 1
  | n + 1, S => ((succs T S).map (cnt n)).sum
theorem Gf_zero (h0 : ∀ r, Hf 0 r = 1) : ∀ S, Gf Hf S 0 = 1
  | [] => rfl
  | r :: S => by
    show Hf 0 r * Gf Hf S 0 = 1
    rw [h0, Gf_zero h0 S]
theorem Gf_succ (hs : ∀ n r, Hf (n + 1) r = ((T r).map fun t => conv n (fun i => Hf i t.2.1) (fun i => Hf i t.2.2)).sum) : ∀ (S : List R) (n : Nat), Gf Hf S (n + 1) = ((succs T S).map fun S' => Gf Hf S' n).sum
  | [], n => by
    show one0 (n + 1) = 0
    exact if_neg (Nat.succ_ne_zero n)
  | r :: S, n => by
    show conv n (fun i => Hf (i + 1) r) (Gf Hf S) + conv n (fun i => Hf i r) (fun i => Gf Hf S (i + 1)) = (((T r).map (fun t => S ++ [t.2.1, t.2.2]) ++ (succs T S).map (r :: ·)).map fun S' => Gf Hf S' n).sum
    have e1 : (fun i => Hf (i + 1) r) = fun i => ((T r).map fun t => conv i (fun i => Hf i t.2.1) (fun i => Hf i t.2.2)).sum := funext fun i => hs i r
    have e2 : (fun i => Gf Hf S (i + 1)) = fun i => ((succs T S).map fun S' => Gf Hf S' i).sum := funext fun i => Gf_succ hs S i
    rw [e1, e2, conv_sum n (fun (t : κ × R × R) i => conv i (fun i => Hf i t.2.1) (fun i => Hf i t.2.2)), conv_sum2 n (fun (S2 : List R) i => Gf Hf S2 i), List.map_append, List.sum_append, List.map_map, List.map_map]
    congr 2
    exact List.map_congr_left fun t _ => (Gf_two Hf t.2.1 t.2.2 S n).symm
theorem cnt_eq (h0 : ∀ r, Hf 0 r = 1) (hs : ∀ n r, Hf (n + 1) r = ((T r).map fun t => conv n (fun i => Hf i t.2.1) (fun i => Hf i t.2.2)).sum) : ∀ (n : Nat) (S : List R), cnt T n S = Gf Hf S n
  | 0, S => (Gf_zero Hf h0 S).symm
  | n + 1, S => by
    rw [Gf_succ T Hf hs S n]
    show ((succs T S).map (cnt T n)).sum = _
    congr 1
    exact List.map_congr_left fun S' _ => cnt_eq h0 hs n S'
end
end FW
set_option maxRecDepth 100000
set_option maxHeartbeats 4000000
/-! # PM2: the trees behind the histories, in plain Lean -/
namespace FW
abbrev Ad := List Nat
section
variable {R κ : Type} (T : R → List (κ × R × R))
/-- the steps of a tree, parents first -/
inductive Tr : Nat → Ad → R → List (Ad × κ) → Prop
  | leaf {a : Ad} {r : R} : Tr 0 a r []
  | node {a : Ad} {r : R} {t : κ × R × R} {i j : Nat} {x y : List (Ad × κ)} : t ∈ T r → Tr i (a ++ [48]) t.2.1 x → Tr j (a ++ [49]) t.2.2 y → Tr (i + j + 1) a r ((a, t.1) :: (x ++ y))
/-- a run from a forest -/
inductive Run : Nat → List (Ad × R) → List (Ad × κ) → Prop
  | nil {S : List (Ad × R)} : Run 0 S []
  | cons {n : Nat} {S S' : List (Ad × R)} {a : Ad} {r : R} {t : κ × R × R} {h : List (Ad × κ)} : S.Perm ((a, r) :: S') → t ∈ T r → Run n ((a ++ [48], t.2.1) :: (a ++ [49], t.2.2) :: S') h → Run (n + 1) S ((a, t.1) :: h)
/-- a tree for each room of a forest -/
inductive FR : List (Ad × R) → Nat → List (Ad × κ) → Prop
  | nil : FR [] 0 []
  | cons {a : Ad} {r : R} {S : List (Ad × R)} {i j : Nat} {x y : List (Ad × κ)} : Tr T i a r x → FR S j y → FR ((a, r) :: S) (i + j) (x ++ y)
variable {T}
theorem Tr.len {n : Nat} {a : Ad} {r : R} {x : List (Ad × κ)} (h : Tr T n a r x) : x.length = n := by
  induction h with
  | leaf => rfl
  | node _ _ _ h1 h2 => rw [List.length_cons, List.length_append, h1, h2]
theorem Tr.pre {n : Nat} {a : Ad} {r : R} {x : List (Ad × κ)} (h : Tr T n a r x) : ∀ s ∈ x, a <+: s.1 := by
  induction h with
  | leaf => intro s hs; cases hs
  | node _ _ _ h1 h2 =>
    intro s hs
    rcases List.mem_cons.mp hs with rfl | hs
    · exact List.prefix_refl _
    · rcases List.mem_append.mp hs with hs | hs
      · exact (List.prefix_append _ _).trans (h1 s hs)
      · exact (List.prefix_append _ _).trans (h2 s hs)
theorem FR.perm {S S' : List (Ad × R)} (p : S.Perm S') : ∀ {n : Nat} {y : List (Ad × κ)}, FR T S n y → ∃ y', FR T S' n y' ∧ y.Perm y' := by
  induction p with
  | nil => intro n y h; exact ⟨y, h, .refl _⟩
  | cons s p ih =>
    intro n y h
    cases h with
    | cons h1 h2 =>
      obtain ⟨y', h3, p'⟩ := ih h2
      exact ⟨_, .cons h1 h3, p'.append_left _⟩
  | swap s t l =>
    intro n y h
    cases h with
    | @cons a r _ i j x y h1 h2 =>
      cases h2 with
      | @cons b q _ i2 j2 x2 y2 h3 h4 =>
        refine ⟨x2 ++ (x ++ y2), ?_, ?_⟩
        · have e : i + (i2 + j2) = i2 + (i + j2) := by omega
          rw [e]
          exact .cons h3 (.cons h1 h4)
        · rw [← List.append_assoc, ← List.append_assoc]
          exact List.perm_append_comm.append_right _
  | trans p q ih1 ih2 =>
    intro n y h
    obtain ⟨y1, h1, p1⟩ := ih1 h
    obtain ⟨y2, h2, p2⟩ := ih2 h1
    exact ⟨y2, h2, p1.trans p2⟩
theorem FR.none : ∀ S : List (Ad × R), FR T S 0 []
  | [] => .nil
  | (a, r) :: S => .cons (i := 0) (j := 0) .leaf (FR.none S)
/-- each run sorts out as a tree for each room -/
theorem Run.forest {n : Nat} {S : List (Ad × R)} {h : List (Ad × κ)} (w : Run T n S h) : ∃ y, FR T S n y ∧ h.Perm y := by
  induction w with
  | nil => exact ⟨[], FR.none _, .refl _⟩
  | @cons n S S' a r t h p ht w ih =>
    obtain ⟨y, hy, py⟩ := ih
    cases hy with
    | @cons _ _ _ i j x0 y h1 h2 =>
      cases h2 with
      | @cons _ _ _ i2 j2 x1 y2 h3 h4 =>
        have g : FR T ((a, r) :: S') (i + i2 + 1 + j2) (((a, t.1) :: (x0 ++ x1)) ++ y2) := .cons (.node ht h1 h3) h4
        obtain ⟨y', h5, p5⟩ := g.perm p.symm
        have e : i + i2 + 1 + j2 = i + (i2 + j2) + 1 := by omega
        rw [e] at h5
        refine ⟨y', h5, .trans ?_ p5⟩
        rw [List.cons_append, List.append_assoc]
        exact py.cons _
theorem Run.one {n : Nat} {a : Ad} {r : R} {h : List (Ad × κ)} (w : Run T n [(a, r)] h) : ∃ y, Tr T n a r y ∧ h.Perm y := by
  obtain ⟨y, hy, p⟩ := w.forest
  cases hy with
  | @cons _ _ _ i j x y h1 h2 =>
    cases h2
    rw [List.append_nil] at p
    exact ⟨x, h1, p⟩
theorem Run.perm {n : Nat} {S S' : List (Ad × R)} {h : List (Ad × κ)} (p : S.Perm S') (w : Run T n S h) : Run T n S' h := by
  cases w with
  | nil => exact .nil
  | cons q ht w => exact .cons (p.symm.trans q) ht w
/-- each tree is a run itself -/
theorem Tr.run {i : Nat} {a : Ad} {r : R} {x : List (Ad × κ)} (h : Tr T i a r x) : ∃ L : List (Ad × R), ∀ (S : List (Ad × R)) (j : Nat) (z : List (Ad × κ)), Run T j (L ++ S) z → Run T (i + j) ((a, r) :: S) (x ++ z) := by
  induction h with
  | @leaf a r => exact ⟨[(a, r)], fun S j z w => by rw [Nat.zero_add]; exact w⟩
  | @node a r t i j x y ht h1 h2 ih1 ih2 =>
    obtain ⟨L1, k1⟩ := ih1
    obtain ⟨L2, k2⟩ := ih2
    refine ⟨L2 ++ L1, fun S m z w => ?_⟩
    have e : i + j + 1 + m = (i + (j + m)) + 1 := by omega
    rw [e, List.cons_append, List.append_assoc]
    refine .cons (.refl _) ht (k1 _ _ _ ?_)
    have w2 := k2 (L1 ++ S) m z (by rw [← List.append_assoc]; exact w)
    refine w2.perm ?_
    exact (List.perm_middle (l₁ := L1)).symm
theorem Tr.run1 {n : Nat} {a : Ad} {r : R} {x : List (Ad × κ)} (h : Tr T n a r x) : Run T n [(a, r)] x := by
  obtain ⟨L, k⟩ := h.run
  have := k [] 0 [] .nil
  rw [List.append_nil] at this
  exact this
/-! ### a tree is told by its steps in any order -/
theorem pre_ne {a w : Ad} {c d : Nat} (h : (a ++ [c]) <+: w) (k : (a ++ [d]) <+: w) : c = d := by
  obtain ⟨u, rfl⟩ := h
  obtain ⟨v, e⟩ := k
  rw [List.append_assoc, List.append_assoc] at e
  have := List.append_cancel_left e
  simp at this
  exact this.1.symm
theorem pre_long {a w : Ad} {c : Nat} (h : (a ++ [c]) <+: w) : w ≠ a := fun e => by
  have := h.length_le
  rw [e, List.length_append] at this
  simp at this
  omega
def pf (a : Ad) (s : Ad × κ) : Bool := a.isPrefixOf s.1
theorem filt_all {a : Ad} {x : List (Ad × κ)} (h : ∀ s ∈ x, a <+: s.1) : x.filter (pf a) = x := List.filter_eq_self.mpr fun s hs => List.isPrefixOf_iff_prefix.mpr (h s hs)
theorem filt_none {a b : Ad} {c d : Nat} (hcd : c ≠ d) (e : b = a ++ [d]) {x : List (Ad × κ)} (h : ∀ s ∈ x, (a ++ [c]) <+: s.1) : x.filter (pf b) = [] := List.filter_eq_nil_iff.mpr fun s hs z => by
  subst e
  exact hcd (pre_ne (h s hs) (List.isPrefixOf_iff_prefix.mp z))
theorem filt_self {a : Ad} {c : Nat} {x : List (Ad × κ)} (h : ∀ s ∈ x, (a ++ [c]) <+: s.1) : x.filter (fun s => decide (s.1 = a)) = [] := List.filter_eq_nil_iff.mpr fun s hs z => pre_long (h s hs) (of_decide_eq_true z)
theorem key_inj {r : R} (hT : ((T r).map (·.1)).Nodup) {t t' : κ × R × R} (h : t ∈ T r) (h' : t' ∈ T r) (e : t.1 = t'.1) : t = t' := by
  generalize T r = l at *
  induction l with
  | nil => cases h
  | cons u l ih =>
    rw [List.map_cons, List.nodup_cons] at hT
    rcases List.mem_cons.mp h with rfl | h1
    · rcases List.mem_cons.mp h' with rfl | h2
      · rfl
      · exact absurd (List.mem_map.mpr ⟨t', h2, e.symm⟩) hT.1
    · rcases List.mem_cons.mp h' with rfl | h2
      · exact absurd (List.mem_map.mpr ⟨t, h1, e⟩) hT.1
      · exact ih hT.2 h1 h2
theorem Tr.inj (hT : ∀ r, ((T r).map (·.1)).Nodup) {n : Nat} {a : Ad} {r : R} {x : List (Ad × κ)} (h : Tr T n a r x) : ∀ {m : Nat} {x' : List (Ad × κ)}, Tr T m a r x' → x.Perm x' → x = x' := by
  induction h with
  | leaf => intro m x' h' p; exact p.nil_eq
  | @node a r t i j x y ht h1 h2 ih1 ih2 =>
    intro m x' h' p
    cases h' with
    | leaf => exact p.eq_nil
    | @node _ _ t' i' j' u v ht' k1 k2 =>
      have q0 := p.filter (fun s => decide (s.1 = a))
      rw [List.filter_cons_of_pos (by simp), List.filter_cons_of_pos (by simp), List.filter_append, List.filter_append, filt_self h1.pre, filt_self h2.pre, filt_self k1.pre, filt_self k2.pre] at q0
      have q1 := List.singleton_perm_singleton.mp q0
      have ek : t.1 = t'.1 := congrArg Prod.snd q1
      have et := key_inj (hT r) ht ht' ek
      subst et
      have na : ∀ {c : Nat}, pf (κ := κ) (a ++ [c]) (a, t.1) = false := fun {c} => by
        cases z : pf (κ := κ) (a ++ [c]) (a, t.1) with
        | false => rfl
        | true => exact absurd rfl (pre_long (List.isPrefixOf_iff_prefix.mp z))
      have p0 := p.filter (pf (a ++ [48]))
      rw [List.filter_cons_of_neg (by rw [na]; simp), List.filter_cons_of_neg (by rw [na]; simp), List.filter_append, List.filter_append, filt_all h1.pre, filt_all k1.pre, filt_none (c := 49) (d := 48) (by decide) rfl h2.pre, filt_none (c := 49) (d := 48) (by decide) rfl k2.pre, List.append_nil, List.append_nil] at p0
      have p1 := p.filter (pf (a ++ [49]))
      rw [List.filter_cons_of_neg (by rw [na]; simp), List.filter_cons_of_neg (by rw [na]; simp), List.filter_append, List.filter_append, filt_all h2.pre, filt_all k2.pre, filt_none (c := 48) (d := 49) (by decide) rfl h1.pre, filt_none (c := 48) (d := 49) (by decide) rfl k1.pre, List.nil_append, List.nil_append] at p1
      rw [ih1 k1 p0, ih2 k2 p1]
end
end FW
set_option maxRecDepth 100000
set_option maxHeartbeats 4000000
/-! # PM3: trees and runs as lists -/
namespace FW
section
variable {R κ : Type} (T : R → List (κ × R × R))
def TRf : Nat → Nat → Ad → R → List (List (Ad × κ))
  | _, 0, _, _ => [[]]
  | 0, _ + 1, _, _ => []
  | m + 1, n + 1, a, r => (T r).flatMap fun t => (List.range (n + 1)).flatMap fun i => (TRf m i (a ++ [48]) t.2.1).flatMap fun x => (TRf m (n - i) (a ++ [49]) t.2.2).map fun y => (a, t.1) :: (x ++ y)
variable {T}
theorem TRf_mem : ∀ {m n : Nat} {a : Ad} {r : R} {x : List (Ad × κ)}, n ≤ m → (x ∈ TRf T m n a r ↔ Tr T n a r x)
  | m, 0, a, r, x, _ => by
    have e : TRf T m 0 a r = [[]] := by cases m <;> rfl
    rw [e, List.mem_singleton]
    constructor
    · rintro rfl
      exact .leaf
    · intro h
      cases h
      rfl
  | 0, n + 1, a, r, x, h => absurd h (by omega)
  | m + 1, n + 1, a, r, x, h => by
    show x ∈ (T r).flatMap _ ↔ _
    constructor
    · intro hx
      obtain ⟨t, ht, hx⟩ := List.mem_flatMap.mp hx
      obtain ⟨i, hi, hx⟩ := List.mem_flatMap.mp hx
      obtain ⟨u, hu, hx⟩ := List.mem_flatMap.mp hx
      obtain ⟨v, hv, rfl⟩ := List.mem_map.mp hx
      rw [List.mem_range] at hi
      have e : n + 1 = i + (n - i) + 1 := by omega
      rw [e]
      exact .node ht ((TRf_mem (by omega)).mp hu) ((TRf_mem (by omega)).mp hv)
    · intro hx
      generalize hN : n + 1 = N at hx
      cases hx with
      | leaf => cases hN
      | @node _ _ t i j u v ht h1 h2 =>
        have e : j = n - i := by omega
        refine List.mem_flatMap.mpr ⟨t, ht, List.mem_flatMap.mpr ⟨i, List.mem_range.mpr (by omega), List.mem_flatMap.mpr ⟨u, (TRf_mem (by omega)).mpr h1, List.mem_map.mpr ⟨v, ?_, rfl⟩⟩⟩⟩
        rw [← e]
        exact (TRf_mem (by omega)).mpr h2
theorem sum_range (f : Nat → Nat) : ∀ n, ((List.range n).map f).sum = sumTo f n
  | 0 => rfl
  | n + 1 => by
    rw [List.range_succ, List.map_append, List.sum_append, sum_range f n]
    simp [sumTo]
theorem sum_const {α : Type} (c : Nat) : ∀ l : List α, (l.map fun _ => c).sum = l.length * c
  | [] => by simp
  | a :: l => by
    rw [List.map_cons, List.sum_cons, sum_const c l, List.length_cons, Nat.succ_mul]
    omega
theorem TRf_len {C : Nat → R → Nat} (c0 : ∀ r, C 0 r = 1) (cs : ∀ n r, C (n + 1) r = ((T r).map fun t => sumTo (fun j => C j t.2.1 * C (n - j) t.2.2) (n + 1)).sum) : ∀ {m n : Nat} {a : Ad} {r : R}, n ≤ m → (TRf T m n a r).length = C n r
  | m, 0, a, r, _ => by
    have e : TRf T m 0 a r = [[]] := by cases m <;> rfl
    rw [e, c0] <;> rfl
  | 0, n + 1, a, r, h => absurd h (by omega)
  | m + 1, n + 1, a, r, h => by
    show ((T r).flatMap _).length = _
    rw [List.length_flatMap, cs]
    congr 1
    refine List.map_congr_left fun t _ => ?_
    rw [List.length_flatMap, ← sum_range]
    congr 1
    refine List.map_congr_left fun i hi => ?_
    rw [List.mem_range] at hi
    rw [List.length_flatMap]
    have e : ((TRf T m i (a ++ [48]) t.2.1).map fun x => ((TRf T m (n - i) (a ++ [49]) t.2.2).map fun y => (a, t.1) :: (x ++ y)).length) = (TRf T m i (a ++ [48]) t.2.1).map fun _ => C (n - i) t.2.2 := List.map_congr_left fun x _ => by
      rw [List.length_map, TRf_len c0 cs (by omega)]
    show ((TRf T m i (a ++ [48]) t.2.1).map fun x => ((TRf T m (n - i) (a ++ [49]) t.2.2).map fun y => (a, t.1) :: (x ++ y)).length).sum = _
    rw [e, sum_const, TRf_len c0 cs (by omega)]
theorem Tr.split {i i' j j' : Nat} {a : Ad} {r0 r1 r0' r1' : R} {u u' v v' : List (Ad × κ)} (h1 : Tr T i (a ++ [48]) r0 u) (h2 : Tr T j (a ++ [49]) r1 v) (k1 : Tr T i' (a ++ [48]) r0' u') (k2 : Tr T j' (a ++ [49]) r1' v') (e : u ++ v = u' ++ v') : u = u' ∧ v = v' := by
  have p0 := congrArg (List.filter (pf (a ++ [48]))) e
  rw [List.filter_append, List.filter_append, filt_all h1.pre, filt_all k1.pre, filt_none (c := 49) (d := 48) (by decide) rfl h2.pre, filt_none (c := 49) (d := 48) (by decide) rfl k2.pre, List.append_nil, List.append_nil] at p0
  subst p0
  exact ⟨rfl, List.append_cancel_left e⟩
theorem nodup_pair {α : Type} {l : List α} : l.Nodup ↔ l.Pairwise (· ≠ ·) := Iff.rfl
theorem TRf_nodup (hT : ∀ r, ((T r).map (·.1)).Nodup) : ∀ {m n : Nat} {a : Ad} {r : R}, n ≤ m → (TRf T m n a r).Nodup
  | m, 0, a, r, _ => by
    have e : TRf T m 0 a r = [[]] := by cases m <;> rfl
    rw [e]
    exact List.pairwise_singleton _ _
  | 0, n + 1, a, r, h => absurd h (by omega)
  | m + 1, n + 1, a, r, h => by
    show ((T r).flatMap _).Nodup
    have hk : (T r).Pairwise (fun t t' => t.1 ≠ t'.1) := by
      have := hT r
      rw [nodup_pair, List.pairwise_map] at this
      exact this
    refine List.pairwise_flatMap.mpr ⟨fun t ht => List.pairwise_flatMap.mpr ⟨fun i hi => List.pairwise_flatMap.mpr ⟨fun u hu => ?_, ?_⟩, ?_⟩, hk.imp fun {t t'} hne x hx y hy e => ?_⟩
    · rw [List.pairwise_map]
      refine (TRf_nodup hT (m := m) (n := n - i) (a := a ++ [49]) (r := t.2.2) (by omega)).imp fun {v v'} hne e => hne ?_
      rw [List.cons.injEq] at e
      exact List.append_cancel_left e.2
    · rw [List.mem_range] at hi
      refine (TRf_nodup hT (m := m) (n := i) (a := a ++ [48]) (r := t.2.1) (by omega)).imp_of_mem fun {u u'} hu hu' hne x hx y hy e => hne ?_
      obtain ⟨v, hv, rfl⟩ := List.mem_map.mp hx
      obtain ⟨v', hv', rfl⟩ := List.mem_map.mp hy
      rw [List.cons.injEq] at e
      exact (((TRf_mem (by omega)).mp hu).split ((TRf_mem (by omega)).mp hv) ((TRf_mem (by omega)).mp hu') ((TRf_mem (by omega)).mp hv') e.2).1
    · refine (show (List.range (n + 1)).Pairwise (· ≠ ·) from List.nodup_range).imp_of_mem fun {i i'} hi hi' hne x hx y hy e => hne ?_
      rw [List.mem_range] at hi hi'
      obtain ⟨u, hu, hx⟩ := List.mem_flatMap.mp hx
      obtain ⟨v, hv, rfl⟩ := List.mem_map.mp hx
      obtain ⟨u', hu', hy⟩ := List.mem_flatMap.mp hy
      obtain ⟨v', hv', rfl⟩ := List.mem_map.mp hy
      rw [List.cons.injEq] at e
      have q1 := (TRf_mem (by omega)).mp hu
      have q2 := (TRf_mem (by omega)).mp hu'
      have := (q1.split ((TRf_mem (by omega)).mp hv) q2 ((TRf_mem (by omega)).mp hv') e.2).1
      rw [← q1.len, ← q2.len, this]
    · obtain ⟨i, hi, hx⟩ := List.mem_flatMap.mp hx
      obtain ⟨u, hu, hx⟩ := List.mem_flatMap.mp hx
      obtain ⟨v, hv, rfl⟩ := List.mem_map.mp hx
      obtain ⟨i', hi', hy⟩ := List.mem_flatMap.mp hy
      obtain ⟨u', hu', hy⟩ := List.mem_flatMap.mp hy
      obtain ⟨v', hv', rfl⟩ := List.mem_map.mp hy
      rw [List.cons.injEq] at e
      exact hne (congrArg Prod.snd e.1)
end
end FW
set_option maxRecDepth 100000
set_option maxHeartbeats 4000000
/-! # PM4: the law's own list of histories; unlike rows -/
namespace FW
section
variable {R κ : Type} (T : R → List (κ × R × R))
def succS : List (Ad × R) → List ((Ad × κ) × List (Ad × R))
  | [] => []
  | (a, r) :: S => (T r).map (fun t => ((a, t.1), S ++ [(a ++ [48], t.2.1), (a ++ [49], t.2.2)])) ++ (succS S).map fun q => (q.1, (a, r) :: q.2)
def stepL (X : List (List (Ad × κ) × List (Ad × R))) : List (List (Ad × κ) × List (Ad × R)) := X.flatMap fun h => (succS T h.2).map fun q => (h.1 ++ [q.1], q.2)
def iterL : Nat → List (List (Ad × κ) × List (Ad × R)) → List (List (Ad × κ) × List (Ad × R))
  | 0, X => X
  | n + 1, X => stepL T (iterL n X)
def runs : Nat → List (Ad × R) → List (List (Ad × κ))
  | 0, _ => [[]]
  | n + 1, S => (succS T S).flatMap fun q => (runs n q.2).map (q.1 :: ·)
theorem iterL_step : ∀ n X, iterL T n (stepL T X) = stepL T (iterL T n X)
  | 0, X => rfl
  | n + 1, X => by
    show stepL T (iterL T n (stepL T X)) = _
    rw [iterL_step n X] <;> rfl
theorem flat_one' {α β : Type} (f : α → β) : ∀ l : List α, l.flatMap (fun a => [f a]) = l.map f
  | [] => rfl
  | a :: l => by rw [List.flatMap_cons, flat_one' f l] <;> rfl
theorem iterL_fst : ∀ n X, (iterL T n X).map (·.1) = X.flatMap fun h => (runs T n h.2).map (h.1 ++ ·)
  | 0, X => by
    show X.map (·.1) = X.flatMap fun h => [h.1 ++ []]
    rw [flat_one']
    exact List.map_congr_left fun h _ => (List.append_nil _).symm
  | n + 1, X => by
    show (stepL T (iterL T n X)).map (·.1) = _
    rw [← iterL_step, iterL_fst n (stepL T X)]
    show ((X.flatMap fun h => (succS T h.2).map fun q => (h.1 ++ [q.1], q.2)).flatMap fun h => (runs T n h.2).map (h.1 ++ ·)) = X.flatMap fun h => ((succS T h.2).flatMap fun q => (runs T n q.2).map (q.1 :: ·)).map (h.1 ++ ·)
    rw [List.flatMap_assoc]
    congr 1
    funext h
    rw [List.flatMap_map, List.map_flatMap]
    congr 1
    funext q
    rw [List.map_map]
    refine List.map_congr_left fun x _ => ?_
    show (h.1 ++ [q.1]) ++ x = h.1 ++ (q.1 :: x)
    rw [List.append_assoc] <;> rfl
theorem succS_rooms : ∀ S : List (Ad × R), (succS T S).map (fun q => q.2.map Prod.snd) = succs T (S.map Prod.snd)
  | [] => rfl
  | (a, r) :: S => by
    show ((T r).map _ ++ (succS T S).map _).map _ = (T r).map _ ++ (succs T (S.map Prod.snd)).map _
    rw [List.map_append, List.map_map, List.map_map, ← succS_rooms S, List.map_map]
    congr 1
    refine List.map_congr_left fun t _ => ?_
    show (S ++ [(a ++ [48], t.2.1), (a ++ [49], t.2.2)]).map Prod.snd = _
    rw [List.map_append] <;> rfl
theorem runs_len : ∀ n S, (runs T n S).length = cnt T n (S.map Prod.snd)
  | 0, _ => rfl
  | n + 1, S => by
    show ((succS T S).flatMap fun q => (runs T n q.2).map (q.1 :: ·)).length = ((succs T (S.map Prod.snd)).map (cnt T n)).sum
    rw [List.length_flatMap, ← succS_rooms, List.map_map]
    congr 1
    refine List.map_congr_left fun q _ => ?_
    rw [List.length_map, runs_len n q.2] <;> rfl
variable {T}
theorem succS_at (a : Ad) (r : R) (S2 : List (Ad × R)) {t : κ × R × R} (ht : t ∈ T r) : ∀ S1 : List (Ad × R), ((a, t.1), (S1 ++ S2) ++ [(a ++ [48], t.2.1), (a ++ [49], t.2.2)]) ∈ succS T (S1 ++ (a, r) :: S2)
  | [] => List.mem_append_left _ (List.mem_map.mpr ⟨t, ht, rfl⟩)
  | (b, q) :: S1 => List.mem_append_right _ (List.mem_map.mpr ⟨_, succS_at a r S2 ht S1, rfl⟩)
theorem succS_of : ∀ {S : List (Ad × R)} {q : (Ad × κ) × List (Ad × R)}, q ∈ succS T S → ∃ a r t S', S.Perm ((a, r) :: S') ∧ t ∈ T r ∧ q.1 = (a, t.1) ∧ q.2.Perm ((a ++ [48], t.2.1) :: (a ++ [49], t.2.2) :: S')
  | (a, r) :: S, q, h => by
    rcases List.mem_append.mp h with h | h
    · obtain ⟨t, ht, rfl⟩ := List.mem_map.mp h
      exact ⟨a, r, t, S, .refl _, ht, rfl, (List.perm_append_comm (l₁ := S) (l₂ := [(a ++ [48], t.2.1), (a ++ [49], t.2.2)]))⟩
    · obtain ⟨p, hp, rfl⟩ := List.mem_map.mp h
      obtain ⟨b, r', t, S', p1, ht, e, p2⟩ := succS_of hp
      exact ⟨b, r', t, (a, r) :: S', (p1.cons _).trans (.swap _ _ _), ht, e, (p2.cons _).trans ((List.Perm.swap _ _ _).trans ((List.Perm.swap _ _ _).cons _))⟩
theorem runs_mem : ∀ {n : Nat} {S : List (Ad × R)} {h : List (Ad × κ)}, h ∈ runs T n S ↔ Run T n S h
  | 0, S, h => by
    constructor
    · intro k
      have e : h = [] := List.mem_singleton.mp k
      rw [e]
      exact .nil
    · intro k
      cases k
      exact List.mem_singleton.mpr rfl
  | n + 1, S, h => by
    constructor
    · intro k
      obtain ⟨q, hq, k⟩ := List.mem_flatMap.mp k
      obtain ⟨x, hx, rfl⟩ := List.mem_map.mp k
      obtain ⟨a, r, t, S', p1, ht, e, p2⟩ := succS_of hq
      have w := (runs_mem.mp hx).perm p2
      show Run T (n + 1) S (q.1 :: x)
      rw [e]
      exact .cons p1 ht w
    · intro k
      cases k with
      | @cons _ _ S' a r t h p ht w =>
        have hm : (a, r) ∈ S := p.symm.subset (List.mem_cons_self ..)
        obtain ⟨S1, S2, rfl⟩ := List.append_of_mem hm
        have p3 : (S1 ++ S2).Perm S' := ((List.perm_middle (l₁ := S1)).symm.trans p).cons_inv
        refine List.mem_flatMap.mpr ⟨_, succS_at a r S2 ht S1, List.mem_map.mpr ⟨h, runs_mem.mpr (w.perm ?_), rfl⟩⟩
        exact ((p3.symm.cons _).cons _).trans (List.perm_append_comm (l₁ := [(a ++ [48], t.2.1), (a ++ [49], t.2.2)]) (l₂ := S1 ++ S2))
/-- the rows, each sorted: as many unlike ones as trees -/
theorem rows_of (hT : ∀ r, ((T r).map (·.1)).Nodup) {srt : List (Ad × κ) → List (Ad × κ)} (s1 : ∀ h, (srt h).Perm h) (s2 : ∀ h h', h.Perm h' → srt h = srt h') (n : Nat) (a : Ad) (r : R) :
    ∃ D : List (List (Ad × κ)), D.Nodup ∧ D.length = (TRf T n n a r).length ∧ ∀ x, x ∈ (runs T n [(a, r)]).map srt ↔ x ∈ D := by
  refine ⟨(TRf T n n a r).map srt, ?_, List.length_map .., fun x => ?_⟩
  · rw [nodup_pair, List.pairwise_map]
    refine (TRf_nodup hT (Nat.le_refl n)).imp_of_mem fun {u v} hu hv hne e => hne ?_
    refine ((TRf_mem (Nat.le_refl n)).mp hu).inj hT ((TRf_mem (Nat.le_refl n)).mp hv) ?_
    exact (s1 u).symm.trans (e ▸ s1 v)
  · constructor
    · intro h
      obtain ⟨u, hu, rfl⟩ := List.mem_map.mp h
      obtain ⟨y, hy, p⟩ := (runs_mem.mp hu).one
      exact List.mem_map.mpr ⟨y, (TRf_mem (Nat.le_refl n)).mpr hy, s2 _ _ p.symm⟩
    · intro h
      obtain ⟨u, hu, rfl⟩ := List.mem_map.mp h
      exact List.mem_map.mpr ⟨u, runs_mem.mpr ((TRf_mem (Nat.le_refl n)).mp hu).run1, rfl⟩
end
section
variable {α : Type} [DecidableEq α]
theorem sub_lenG : ∀ {L F : List α}, L.Nodup → (∀ c ∈ L, c ∈ F) → L.length ≤ F.length
  | [], _, _, _ => Nat.zero_le _
  | c :: L, F, h, k => by
    have hc := k c (List.mem_cons_self ..)
    rw [List.nodup_cons] at h
    have := sub_lenG (L := L) (F := F.erase c) h.2 fun d hd => by
      have hne : d ≠ c := fun z => h.1 (z ▸ hd)
      exact (List.mem_erase_of_ne hne).mpr (k d (List.mem_cons_of_mem _ hd))
    rw [List.length_erase_of_mem hc] at this
    have := List.length_pos_of_mem hc
    rw [List.length_cons]
    omega
theorem same_len {L F : List α} (h : L.Nodup) (k : F.Nodup) (e : ∀ c, c ∈ L ↔ c ∈ F) : L.length = F.length := Nat.le_antisymm (sub_lenG h fun c hc => (e c).mp hc) (sub_lenG k fun c hc => (e c).mpr hc)
/-- the items unlike the one before -/
def unl : α → List α → List α
  | _, [] => []
  | p, y :: l => if y = p then unl y l else y :: unl y l
theorem unl_sub : ∀ {p : α} {l : List α} {x : α}, x ∈ unl p l → x ∈ l
  | p, y :: l, x, h => by
    unfold unl at h
    split at h
    · exact List.mem_cons_of_mem _ (unl_sub h)
    · rcases List.mem_cons.mp h with rfl | h
      · exact List.mem_cons_self ..
      · exact List.mem_cons_of_mem _ (unl_sub h)
theorem unl_all : ∀ {p : α} {l : List α} {x : α}, x ∈ l → x = p ∨ x ∈ unl p l
  | p, y :: l, x, h => by
    unfold unl
    rcases List.mem_cons.mp h with rfl | h
    · by_cases e : x = p
      · exact .inl e
      · rw [if_neg e]
        exact .inr (List.mem_cons_self ..)
    · rcases unl_all (p := y) h with rfl | z
      · by_cases e : x = p
        · exact .inl e
        · rw [if_neg e]
          exact .inr (List.mem_cons_self ..)
      · split
        · exact .inr z
        · exact .inr (List.mem_cons_of_mem _ z)
theorem unl_nodup {le : α → α → Prop} (anti : ∀ a b, le a b → le b a → a = b) : ∀ {p : α} {l : List α}, (p :: l).Pairwise le → (p :: unl p l).Nodup
  | p, [], _ => List.pairwise_singleton _ _
  | p, y :: l, h => by
    have h2 := (List.pairwise_cons.mp h).2
    have ih := unl_nodup anti h2
    unfold unl
    by_cases e : y = p
    · rw [if_pos e]
      rw [e] at ih ⊢
      exact ih
    · rw [if_neg e]
      refine List.nodup_cons.mpr ⟨fun z => ?_, ih⟩
      rcases List.mem_cons.mp z with rfl | z
      · exact e rfl
      · have z2 := unl_sub z
        have l1 := (List.pairwise_cons.mp h).1 y (List.mem_cons_self ..)
        have l2 := (List.pairwise_cons.mp h2).1 p z2
        exact e (anti _ _ l2 l1)
def unlike : List α → List α
  | [] => []
  | p :: l => p :: unl p l
theorem unlike_len {le : α → α → Prop} (anti : ∀ a b, le a b → le b a → a = b) {l D : List α} (hl : l.Pairwise le) (hD : D.Nodup) (e : ∀ c, c ∈ l ↔ c ∈ D) : (unlike l).length = D.length := by
  cases l with
  | nil => exact same_len List.nodup_nil hD e
  | cons p l =>
    refine same_len (unl_nodup anti hl) hD fun c => Iff.trans ⟨fun h => ?_, fun h => ?_⟩ (e c)
    · rcases List.mem_cons.mp h with rfl | h
      · exact List.mem_cons_self ..
      · exact List.mem_cons_of_mem _ (unl_sub h)
    · rcases List.mem_cons.mp h with rfl | h
      · exact List.mem_cons_self ..
      · rcases unl_all (p := p) h with rfl | z
        · exact List.mem_cons_self ..
        · exact List.mem_cons_of_mem _ z
end
end FW
set_option maxRecDepth 100000
set_option maxHeartbeats 4000000
/-! # PM5: the spec's counts -/
namespace FW
section
variable {g : Nat → Nat → Nat} {sp : Spec}
theorem Ft_get : ∀ {m j : Nat} (r : List Nat), j ≤ m → (Ft g sp m r).getD j 0 = Fv g sp j r
  | 0, j, r, h => by
    have e : j = 0 := by omega
    subst e
    rfl
  | m + 1, j, r, h => by
    by_cases e : j = m + 1
    · rw [e] <;> rfl
    · rw [← Ft_get (m := m) r (by omega)]
      show (Ft g sp m r ++ [_]).getD j 0 = _
      rw [List.getD_eq_getElem?_getD, List.getD_eq_getElem?_getD, List.getElem?_append_left (by rw [Ft_len]; omega)]
theorem Fv_zero (r : List Nat) : Fv g sp 0 r = 1 := rfl
theorem Fv_succ (n : Nat) (r : List Nat) : Fv g sp (n + 1) r = ((turnsK sp r).map fun k => sumTo (fun j => Fv g sp j (part0 sp r k) * Fv g sp (n - j) (part1 sp r k) * g n j) (n + 1)).sum := by
  have e : Fv g sp (n + 1) r = stepF g sp (Ft g sp n) n r := by
    show (Ft g sp n r ++ [stepF g sp (Ft g sp n) n r]).getD (n + 1) 0 = _
    rw [List.getD_eq_getElem?_getD, List.getElem?_append_right (by rw [Ft_len]; omega), Ft_len]
    simp
  rw [e]
  unfold stepF
  congr 1
  refine List.map_congr_left fun k _ => ?_
  unfold inner
  have : ∀ N, N ≤ n + 1 → sumTo (term g (Ft g sp n) (part0 sp r k) (part1 sp r k) n) N = sumTo (fun j => Fv g sp j (part0 sp r k) * Fv g sp (n - j) (part1 sp r k) * g n j) N := by
    intro N
    induction N with
    | zero => intro _; rfl
    | succ N ih =>
      intro h
      show sumTo _ N + term g (Ft g sp n) _ _ n N = sumTo _ N + _
      rw [ih (by omega)]
      unfold term
      rw [Ft_get _ (by omega), Ft_get _ (by omega)]
  exact this _ (Nat.le_refl _)
end
/-- the cuts that a room takes, and the two rooms each makes -/
def Ts (sp : Spec) (r : List Nat) : List (Nat × List Nat × List Nat) := (turnsK sp r).map fun k => (k, part0 sp r k, part1 sp r k)
theorem Ts_key (sp : Spec) (h : sp.ct.Pairwise (· < ·)) (r : List Nat) : ((Ts sp r).map (·.1)).Nodup := by
  unfold Ts
  rw [List.map_map]
  have e : (turnsK sp r).map ((fun t : Nat × List Nat × List Nat => t.1) ∘ fun k => (k, part0 sp r k, part1 sp r k)) = turnsK sp r := by
    show (turnsK sp r).map (fun k => k) = _
    exact List.map_id' _
  rw [e]
  unfold turnsK
  exact ((h.imp fun {a b} z => Nat.ne_of_lt z).filter _)
theorem sumTo_congr {f f' : Nat → Nat} : ∀ n, (∀ j < n, f j = f' j) → sumTo f n = sumTo f' n
  | 0, _ => rfl
  | n + 1, h => by
    show sumTo f n + f n = sumTo f' n + f' n
    rw [sumTo_congr n fun j hj => h j (by omega), h n (by omega)]
theorem trees_len (sp : Spec) (n : Nat) (a : Ad) (r : List Nat) : (TRf (Ts sp) n n a r).length = Fv g1 sp n r := by
  refine TRf_len (C := Fv g1 sp) Fv_zero (fun n r => ?_) (Nat.le_refl n)
  rw [Fv_succ]
  unfold Ts
  rw [List.map_map]
  congr 1
  refine List.map_congr_left fun k _ => ?_
  exact sumTo_congr _ fun j _ => Nat.mul_one _
theorem conv_congr : ∀ {n : Nat} {f f' g g' : Nat → Nat}, (∀ i ≤ n, f i = f' i) → (∀ i ≤ n, g i = g' i) → conv n f g = conv n f' g'
  | 0, f, f', g, g', h, k => by
    show f 0 * g 0 = f' 0 * g' 0
    rw [h 0 (Nat.le_refl 0), k 0 (Nat.le_refl 0)]
  | n + 1, f, f', g, g', h, k => by
    show conv n _ _ + conv n _ _ = conv n _ _ + conv n _ _
    rw [conv_congr (n := n) (f := fun i => f (i + 1)) (f' := fun i => f' (i + 1)) (g := g) (g' := g') (fun i hi => h (i + 1) (by omega)) fun i hi => k i (by omega),
      conv_congr (n := n) (f := f) (f' := f') (g := fun i => g (i + 1)) (g' := fun i => g' (i + 1)) (fun i hi => h i (by omega)) fun i hi => k (i + 1) (by omega)]
section
variable {R κ : Type} (T : R → List (κ × R × R)) (Hf : Nat → R → Nat)
theorem Gf_succN {N : Nat} (hs : ∀ n < N, ∀ r, Hf (n + 1) r = ((T r).map fun t => conv n (fun i => Hf i t.2.1) (fun i => Hf i t.2.2)).sum) : ∀ (S : List R) (n : Nat), n < N → Gf Hf S (n + 1) = ((succs T S).map fun S' => Gf Hf S' n).sum
  | [], n, _ => by
    show one0 (n + 1) = 0
    exact if_neg (Nat.succ_ne_zero n)
  | r :: S, n, hn => by
    show conv n (fun i => Hf (i + 1) r) (Gf Hf S) + conv n (fun i => Hf i r) (fun i => Gf Hf S (i + 1)) = (((T r).map (fun t => S ++ [t.2.1, t.2.2]) ++ (succs T S).map (r :: ·)).map fun S' => Gf Hf S' n).sum
    have e1 : conv n (fun i => Hf (i + 1) r) (Gf Hf S) = conv n (fun i => ((T r).map fun t => conv i (fun i => Hf i t.2.1) (fun i => Hf i t.2.2)).sum) (Gf Hf S) := conv_congr (fun i hi => hs i (by omega) r) fun _ _ => rfl
    have e2 : conv n (fun i => Hf i r) (fun i => Gf Hf S (i + 1)) = conv n (fun i => Hf i r) (fun i => ((succs T S).map fun S' => Gf Hf S' i).sum) := conv_congr (fun _ _ => rfl) fun i hi => Gf_succN hs S i (by omega)
    rw [e1, e2, conv_sum n (fun (t : κ × R × R) i => conv i (fun i => Hf i t.2.1) (fun i => Hf i t.2.2)), conv_sum2 n (fun (S2 : List R) i => Gf Hf S2 i), List.map_append, List.sum_append, List.map_map, List.map_map]
    congr 2
    exact List.map_congr_left fun t _ => (Gf_two Hf t.2.1 t.2.2 S n).symm
theorem cnt_eqN {N : Nat} (h0 : ∀ r, Hf 0 r = 1) (hs : ∀ n < N, ∀ r, Hf (n + 1) r = ((T r).map fun t => conv n (fun i => Hf i t.2.1) (fun i => Hf i t.2.2)).sum) : ∀ (n : Nat) (S : List R), n ≤ N → cnt T n S = Gf Hf S n
  | 0, S, _ => (Gf_zero Hf h0 S).symm
  | n + 1, S, h => by
    rw [Gf_succN T Hf hs S n (by omega)]
    show ((succs T S).map (cnt T n)).sum = _
    congr 1
    exact List.map_congr_left fun S' _ => cnt_eqN h0 hs n S' (by omega)
end
theorem conv_g2 : ∀ n, n < 3 → ∀ f g : Nat → Nat, sumTo (fun j => f j * g (n - j) * g2 n j) (n + 1) = conv n f g
  | 0, _, f, g => by
    show 0 + f 0 * g 0 * g2 0 0 = f 0 * g 0
    have : g2 0 0 = 1 := by decide +kernel
    rw [this]
    omega
  | 1, _, f, g => by
    show 0 + f 0 * g 1 * g2 1 0 + f 1 * g 0 * g2 1 1 = f 1 * g 0 + f 0 * g 1
    have h1 : g2 1 0 = 1 := by decide +kernel
    have h2 : g2 1 1 = 1 := by decide +kernel
    rw [h1, h2]
    omega
  | 2, _, f, g => by
    show 0 + f 0 * g 2 * g2 2 0 + f 1 * g 1 * g2 2 1 + f 2 * g 0 * g2 2 2 = (f 2 * g 0 + f 1 * g 1) + (f 1 * g 1 + f 0 * g 2)
    have h1 : g2 2 0 = 1 := by decide +kernel
    have h2 : g2 2 1 = 2 := by decide +kernel
    have h3 : g2 2 2 = 1 := by decide +kernel
    rw [h1, h2, h3]
    omega
  | n + 3, h, _, _ => absurd h (by omega)
theorem hist_len (sp : Spec) (n : Nat) (hn : n ≤ 3) (a : Ad) (r : List Nat) : (runs (Ts sp) n [(a, r)]).length = Fv g2 sp n r := by
  rw [runs_len, cnt_eqN (Ts sp) (Fv g2 sp) (N := 3) Fv_zero (fun n hn r => ?_) n _ hn]
  · show conv n (fun i => Fv g2 sp i r) one0 = _
    rw [conv_one]
  · rw [Fv_succ]
    unfold Ts
    rw [List.map_map]
    congr 1
    refine List.map_congr_left fun k _ => ?_
    exact conv_g2 n hn (fun j => Fv g2 sp j (part0 sp r k)) fun j => Fv g2 sp j (part1 sp r k)
end FW
set_option maxRecDepth 100000
set_option maxHeartbeats 8000000
/-! # PM6: the book with one room -/
namespace FW
def nxT (g : Nat → Nat → Nat) (m : Nat) (L : List Nat) : List Nat := L ++ [2 * sumTo (fun j => L.getD j 0 * L.getD (m - j) 0 * g m j) (m + 1)]
def fT (g : Nat → Nat → Nat) : Nat → List Nat
  | 0 => [1]
  | m + 1 => nxT g m (fT g m)
theorem fT_len (g : Nat → Nat → Nat) : ∀ m, (fT g m).length = m + 1
  | 0 => rfl
  | m + 1 => by
    show (fT g m ++ [_]).length = _
    rw [List.length_append, fT_len g m] <;> rfl
theorem fT_get {g : Nat → Nat → Nat} {f : Nat → Nat} (f0 : f 0 = 1) (fs : ∀ n, f (n + 1) = 2 * sumTo (fun j => f j * f (n - j) * g n j) (n + 1)) : ∀ {m j : Nat}, j ≤ m → (fT g m).getD j 0 = f j
  | 0, j, h => by
    have e : j = 0 := by omega
    subst e
    exact f0.symm
  | m + 1, j, h => by
    show (fT g m ++ [_]).getD j 0 = _
    by_cases e : j = m + 1
    · subst e
      have e1 : (fT g m ++ [2 * sumTo (fun j => (fT g m).getD j 0 * (fT g m).getD (m - j) 0 * g m j) (m + 1)]).getD (m + 1) 0 = 2 * sumTo (fun j => (fT g m).getD j 0 * (fT g m).getD (m - j) 0 * g m j) (m + 1) := by
        rw [List.getD_eq_getElem?_getD, List.getElem?_append_right (by rw [fT_len]; omega), fT_len, Nat.sub_self] <;> rfl
      refine e1.trans ?_
      rw [fs]
      congr 1
      exact sumTo_congr _ fun i hi => by rw [fT_get f0 fs (m := m) (j := i) (by omega), fT_get f0 fs (m := m) (j := m - i) (by omega)]
    · rw [List.getD_eq_getElem?_getD, List.getElem?_append_left (l₁ := fT g m) (by rw [fT_len]; omega), ← List.getD_eq_getElem?_getD]
      exact fT_get f0 fs (by omega)
def fac : Nat → Nat
  | 0 => 1
  | n + 1 => fac n * (n + 1)
/-- the tables, written out by the kernel -/
theorem tab1 : fT g1 30 = (List.range 31).map fun n => 2 ^ n * (cn (2 * n) n / (n + 1)) := by decide +kernel
theorem tab2 : fT cn 30 = (List.range 31).map fun n => 2 ^ n * fac n := by decide +kernel
theorem tab_get {g : Nat → Nat → Nat} {F f : Nat → Nat} (ht : fT g 30 = (List.range 31).map F) (f0 : f 0 = 1) (fs : ∀ n, f (n + 1) = 2 * sumTo (fun j => f j * f (n - j) * g n j) (n + 1)) {n : Nat} (hn : n ≤ 30) : f n = F n := by
  rw [← fT_get f0 fs hn, ht, List.getD_eq_getElem?_getD, List.getElem?_map, List.getElem?_range (by omega)] <;> rfl
/-- the book with one room that both cutters cut -/
def sp2 : Spec := ⟨[97], [65, 66], [⟨[46], [46], [46], [46], [65], [124, 97, 97]⟩, ⟨[46], [46], [46], [46], [66], [45, 97, 97]⟩]⟩
abbrev rm2 : List Nat := [97, 97, 97, 97]
theorem sp2_turns : turnsK sp2 rm2 = [65, 66] := by decide +kernel
theorem sp2_p (k : Nat) (h : k ∈ [65, 66]) : part0 sp2 rm2 k = rm2 ∧ part1 sp2 rm2 k = rm2 := by
  simp at h
  rcases h with rfl | rfl <;> exact ⟨by decide +kernel, by decide +kernel⟩
theorem Fv_sp2 (g : Nat → Nat → Nat) (n : Nat) : Fv g sp2 (n + 1) rm2 = 2 * sumTo (fun j => Fv g sp2 j rm2 * Fv g sp2 (n - j) rm2 * g n j) (n + 1) := by
  rw [Fv_succ, sp2_turns]
  have a := sp2_p 65 (by simp)
  have b := sp2_p 66 (by simp)
  rw [List.map_cons, List.map_cons, List.map_nil, a.1, a.2, b.1, b.2]
  simp
  omega
theorem trees2 {n : Nat} (hn : n ≤ 30) : Fv g1 sp2 n rm2 = 2 ^ n * (cn (2 * n) n / (n + 1)) := tab_get (f := fun n => Fv g1 sp2 n rm2) (F := fun n => 2 ^ n * (cn (2 * n) n / (n + 1))) tab1 rfl (Fv_sp2 g1) hn
theorem fT_congr {g g' : Nat → Nat → Nat} (h : ∀ m j, m < 30 → j ≤ m → g m j = g' m j) : ∀ m, m ≤ 30 → fT g m = fT g' m
  | 0, _ => rfl
  | m + 1, hm => by
    show nxT g m (fT g m) = nxT g' m (fT g' m)
    rw [fT_congr h m (by omega)]
    unfold nxT
    congr 3
    exact sumTo_congr _ fun j hj => by rw [h m j (by omega) (by omega)]
theorem hist2 {n : Nat} (hn : n ≤ 30) : Fv g2 sp2 n rm2 = 2 ^ n * fac n :=
  tab_get (f := fun n => Fv g2 sp2 n rm2) (F := fun n => 2 ^ n * fac n) ((fT_congr (fun m j hm hj => (cn_g2 (by omega) hj).symm) 30 (Nat.le_refl 30)).trans tab2) rfl (Fv_sp2 g2) hn
theorem sp2_ok : SpecOk sp2 := by
  refine ⟨?_, ?_, by decide, by decide, by decide, ?_⟩
  · exact ⟨by decide, by decide, by decide, by decide, by decide⟩
  · exact ⟨by decide, by decide, by decide, by decide, by decide⟩
  · intro l hl
    have hA : Rising [65] [65, 66] := ⟨by decide, by decide, by decide, by decide, by decide⟩
    have hB : Rising [66] [65, 66] := ⟨by decide, by decide, by decide, by decide, by decide⟩
    simp [sp2] at hl
    rcases hl with rfl | rfl
    · exact ⟨.inl rfl, .inl rfl, .inl rfl, .inl rfl, .inr ⟨hA, by decide⟩, .inr ⟨124, 97, 97, rfl, .inl rfl, by decide, by decide⟩⟩
    · exact ⟨.inl rfl, .inl rfl, .inl rfl, .inl rfl, .inr ⟨hB, by decide⟩, .inr ⟨45, 97, 97, rfl, .inr rfl, by decide, by decide⟩⟩
theorem rm2_ok : rmOf rm2 sp2.fc := ⟨⟨97, 97, 97, 97, rfl⟩, by decide⟩
/-- without lines nothing can be cut -/
theorem Fv_none {g : Nat → Nat → Nat} {sp : Spec} (h : sp.ls = []) (n : Nat) (r : List Nat) : Fv g sp (n + 1) r = 0 := by
  have e : turnsK sp r = [] := by
    unfold turnsK
    rw [h]
    exact List.filter_eq_nil_iff.mpr fun k _ => by simp [cutAt]
  rw [Fv_succ, e] <;> rfl
end FW
set_option maxRecDepth 100000
set_option maxHeartbeats 8000000
/-! # FX7: _law_field -/
namespace FW
open PySem PySem.Spec PyProof.Rows L2 L2H
open Evl (Ex Ex.refl Ex.trans Ex.new Ex.mut EvT)
/-- what the class of a caught exception must have to be read -/
structure XRd (K : PySem.W.Frag) (C : Addr) : Prop where
  xf : XfC K C
  code : PySem.W.findIn K (.ref C) "code" = some none
  given : PySem.W.findIn K (.ref C) "given" = some none
section
variable {P : Program} {w : World} {K : PySem.W.Frag} {mg : Str → Option Value} {base : Heap} {C1 C2 : Addr}
abbrev st_law_field : Stmt := top 53
theorem sc_law_field : FnScope ["_law_e"] ["_law_e"] (defScope st_law_field) := ⟨rfl, rfl, rfl, by decide +kernel, rfl, by decide +kernel, by decide +kernel⟩
/-- p's exception, of the class at C, with its two fields; the field given is told -/
def spField (K : PySem.W.Frag) (txt : List Nat) : SpP := fun p vs H Q _ => ∃ (C dd : Addr) (y : V) (d : Dt), vs = [.ref p.1] ∧ XRd K C ∧ L2N.Zn (.ref C) (some dd) p.2 ∧ (∃ vs, p.2.data = .fields vs) ∧ H dd = some (.xd [("given", y), ("code", .str (S txt))]) ∧ Dq H y d ∧ ∀ v H2, Ex H H2 → Dq H2 v d → Q v H2
abbrev badL : List (List Nat) := [("InvalidRoom" : Str).cps.toList, ("InvalidNumber" : Str).cps.toList]
theorem no0 : ∀ txt ∈ badL, (if false = true then !decide (txt ∈ [("InvalidLine" : Str).cps.toList, ("InvalidStep" : Str).cps.toList, ("InvalidTable" : Str).cps.toList, ("InvalidBad" : Str).cps.toList, ("InvalidPlan" : Str).cps.toList, ("UnknownRoom" : Str).cps.toList]) else decide (txt ∈ [("InvalidLine" : Str).cps.toList, ("InvalidStep" : Str).cps.toList, ("InvalidTable" : Str).cps.toList, ("InvalidBad" : Str).cps.toList, ("InvalidPlan" : Str).cps.toList, ("UnknownRoom" : Str).cps.toList])) = false := by decide
theorem no1 : ∀ txt ∈ badL, (if false = true then !decide (txt ∈ [("TooMany" : Str).cps.toList, ("Full" : Str).cps.toList]) else decide (txt ∈ [("TooMany" : Str).cps.toList, ("Full" : Str).cps.toList])) = false := by decide
theorem no2 : ∀ txt ∈ badL, (if false = true then !decide (txt ∈ [("InvalidText" : Str).cps.toList, ("InvalidPage" : Str).cps.toList]) else decide (txt ∈ [("InvalidText" : Str).cps.toList, ("InvalidPage" : Str).cps.toList])) = false := by decide
theorem no3 : ∀ txt ∈ badL, (if false = true then !decide (txt ∈ [("InvalidPaper" : Str).cps.toList, ("OtherFaces" : Str).cps.toList, ("OtherCutters" : Str).cps.toList, ("NothingLeft" : Str).cps.toList]) else decide (txt ∈ [("InvalidPaper" : Str).cps.toList, ("OtherFaces" : Str).cps.toList, ("OtherCutters" : Str).cps.toList, ("NothingLeft" : Str).cps.toList])) = false := by decide
theorem no4 : ∀ txt ∈ badL, eqS (.str txt) (.str ("UnknownState" : Str).cps.toList) = false := by decide
theorem p_law_field {f : Addr} {fd : FuncData} {txt : List Nat} (ht : txt ∈ badL) (F : Fun K "_law_field" "_law_field" st_law_field f fd) : FnP P w K mg base CX0 1 f fd ["_law_e"] (spField K txt) := by
  refine fn_ofP F sc_law_field (fun p vs H Q E ⟨_, _, _, _, e, _⟩ => by rw [e]; rfl) fun cdv A outer s H vs Q E p hot hr hsp => ?_
  obtain ⟨C, dd, y, d, rfl, X, hz, hf, hd, hy, q⟩ := hsp
  have hp : p ∈ (cxH CX0 P w K mg base ["_law_e"] "_law_field" (defScope st_law_field) f cdv A outer s H E p).pn := List.mem_cons_self ..
  refine ⟨_, (pss_cons (ps_if (pt_cmpR (op_inK K) (pe_xfP X.xf X.code hp hz.zc hf (pv 0)) (pe_lst (pa_cons pe_str (pa_cons pe_str (pa_cons pe_str (pa_cons pe_str (pa_cons pe_str (pa_cons pe_str pa_nil))))))) rfl) (pss_one ps_never) pss_nil)
      (pss_cons (ps_if (pt_cmpR (op_inK K) (pe_xfP X.xf X.code hp hz.zc hf (pv 0)) (pe_lst (pa_cons pe_str (pa_cons pe_str pa_nil))) rfl) (pss_one ps_never) pss_nil)
      (pss_cons (ps_if (pt_cmpR (op_inK K) (pe_xfP X.xf X.code hp hz.zc hf (pv 0)) (pe_lst (pa_cons pe_str (pa_cons pe_str pa_nil))) rfl) (pss_one ps_never) pss_nil)
      (pss_cons (ps_if (pt_cmpR op_eq (pe_xfP X.xf X.code hp hz.zc hf (pv 0)) pe_str (nomark _)) (pss_one ps_never) pss_nil)
      (pss_one (ps_ret (pe_ifExp (pt_cmpR (op_inK K) (pe_xfP X.xf X.code hp hz.zc hf (pv 0)) (pe_lst (pa_cons pe_str (pa_cons pe_str (pa_cons pe_str (pa_cons pe_str pa_nil))))) rfl) pe_non (pe_xfP X.xf X.given hp hz.zc hf (pv 0))))))))), ?_⟩
  have rc : ∀ {H1 : Hp}, Ex H H1 → EvD (tXfP p.1 dd "code" (tVar 0)) (L2.start ["_law_e"] [.ref p.1]) H1 (.str txt) := fun {H1} e => ed_xfP (xv (.obj p.1)) (e _ _ hd) rfl (.str txt)
  refine g_whenD (EvB.to (et_B (ed_inL (neg := false) (ls := [("InvalidLine" : Str).cps.toList, ("InvalidStep" : Str).cps.toList, ("InvalidTable" : Str).cps.toList, ("InvalidBad" : Str).cps.toList, ("InvalidPlan" : Str).cps.toList, ("UnknownRoom" : Str).cps.toList]) (rc (Ex.refl H)) (.inl (xL (ds := List.map Dt.str [("InvalidLine" : Str).cps.toList, ("InvalidStep" : Str).cps.toList, ("InvalidTable" : Str).cps.toList, ("InvalidBad" : Str).cps.toList, ("InvalidPlan" : Str).cps.toList, ("UnknownRoom" : Str).cps.toList]) (ad_cons ed_str (ad_cons ed_str (ad_cons ed_str (ad_cons ed_str (ad_cons ed_str (ad_cons ed_str ad_nil)))))))))) (no0 txt ht)) (fun z => by cases z) fun _ H1 e1 => ?_
  refine g_whenD (EvB.to (et_B (ed_inL (neg := false) (ls := [("TooMany" : Str).cps.toList, ("Full" : Str).cps.toList]) (rc e1) (.inl (xL (ds := List.map Dt.str [("TooMany" : Str).cps.toList, ("Full" : Str).cps.toList]) (ad_cons ed_str (ad_cons ed_str ad_nil)))))) (no1 txt ht)) (fun z => by cases z) fun _ H2 e2 => ?_
  refine g_whenD (EvB.to (et_B (ed_inL (neg := false) (ls := [("InvalidText" : Str).cps.toList, ("InvalidPage" : Str).cps.toList]) (rc (e1.trans e2)) (.inl (xL (ds := List.map Dt.str [("InvalidText" : Str).cps.toList, ("InvalidPage" : Str).cps.toList]) (ad_cons ed_str (ad_cons ed_str ad_nil)))))) (no2 txt ht)) (fun z => by cases z) fun _ H3 e3 => ?_
  have e13 := (e1.trans e2).trans e3
  refine g_whenD (EvB.to (tq (rc e13) ed_str) (no4 txt ht)) (fun z => by cases z) fun _ H4 e4 => ?_
  have e14 := e13.trans e4
  exact rtD (ed_if (EvB.to (et_B (ed_inL (neg := false) (ls := [("InvalidPaper" : Str).cps.toList, ("OtherFaces" : Str).cps.toList, ("OtherCutters" : Str).cps.toList, ("NothingLeft" : Str).cps.toList]) (rc e14) (.inl (xL (ds := List.map Dt.str [("InvalidPaper" : Str).cps.toList, ("OtherFaces" : Str).cps.toList, ("OtherCutters" : Str).cps.toList, ("NothingLeft" : Str).cps.toList]) (ad_cons ed_str (ad_cons ed_str (ad_cons ed_str (ad_cons ed_str ad_nil)))))))) (no3 txt ht)) (fun z => by cases z) fun _ => ed_xfP (v := y) (xv (.obj p.1)) (e14 _ _ hd) rfl (hy.mono e14)) e14 fun v d' H5 e5 ed dv => by
    subst ed
    exact q v H5 e5 dv
end
end FW
set_option maxRecDepth 100000
set_option maxHeartbeats 8000000
/-! # FX8: promises told of the very state; a callable without arguments -/
namespace FW
open PySem PySem.Spec PyProof.Rows L2
open Evl (Ex Ex.refl Ex.trans Ex.new Ex.mut EvT)
theorem un_in {fs fs' : List Addr} {H H1 H2 : Hp} {h h1 h2 : Heap} (a : Un fs [] H H1 h h1) (b : Un fs' [] H1 H2 h1 h2) (sub : ∀ x ∈ fs, x ∈ fs') (new : ∀ x ∈ fs', x ∈ fs ∨ h.get? x = none) : Un fs [] H H2 h h2 where
  keep := fun x o e n hx _ => by
    refine b.keep x o (a.keep x o e n hx (by simp)) (a.free x o e n (by simp)) (fun z => ?_) (by simp)
    rcases new x z with q | q
    · exact hx q
    · rw [e] at q
      cases q
  slot := fun x o e n hx _ => by
    obtain ⟨sl, e1⟩ := a.slot x o e n hx (by simp)
    obtain ⟨sl2, e2⟩ := b.slot x _ e1 (a.free x o e n (by simp)) (sub x hx) (by simp)
    exact ⟨sl2, e2⟩
  free := fun x o e n _ => by
    obtain ⟨sl, e1⟩ := a.any e n (by simp)
    exact b.free x _ e1 (a.free x o e n (by simp)) (by simp)
  there := fun x o e _ => by
    obtain ⟨o1, e1⟩ := a.there x o e (by simp)
    exact b.there x o1 e1 (by simp)
  tups := fun x xs e => b.tups x xs (a.tups x xs e)
  frzs := fun x o u e => b.frzs x o u (a.frzs x o u e)
  tbls := fun x ps e => by
    obtain ⟨m1, e1⟩ := a.tbls x ps e
    obtain ⟨m2, e2⟩ := b.tbls x _ e1
    exact ⟨m1 ++ m2, by rw [e2, Array.append_assoc]⟩
/-- a promise that may speak of the state and of the frames -/
abbrev SpG := List Env → Shared → Sp
structure FnG (P : Program) (w : World) (K : PySem.W.Frag) (mg : Str → Option Value) (base : Heap) (CX : CXT) (k : Nat) (f : Addr) (fd : FuncData) (ps : List Str) (G : SpG) : Prop where
  len : ∀ outer s vs H Q E, G outer s vs H Q E → vs.length = ps.length
  run : ∀ (A : Around) (outer : List Env) (s : Shared) (H : Hp) (args : Args) (us : List Value) (vs : List V) (Q : VK) (E : XK), Room k A → Env0 P w K mg base A outer s H → BindsTo s fd args (ps.zip us) → Vals vs us → G outer s vs H Q E →
    codeAny (model P w) A (.call (.ref f) args) (CR CX outer P w H s Q E) s
theorem fn_ofG {CX : CXT} {P : Program} {w : World} {K : PySem.W.Frag} {mg : Str → Option Value} {base : Heap} {k : Nat} {x qual : Str} {st : Stmt} {f : Addr} {fd : FuncData} {N ps : List Str} {G : SpG} (F : Fun K x qual st f fd) (S : FnScope N ps (defScope st)) (len : ∀ outer s vs H Q E, G outer s vs H Q E → vs.length = ps.length)
    (hbody : ∀ (cdv : Value) (A : Around) (outer : List Env) (s : Shared) (H : Hp) (vs : List V) (Q : VK) (E : XK), Room k (A.deeper (envOfC qual (defScope st) s.heap.objs.size f cdv)) → Env0 P w K mg base A outer s H → G outer s vs H Q E →
      ∃ t, PSs (cxOf CX P w K mg base N qual (defScope st) f cdv A outer s H E) (defBody st) t ∧ t { nx := fun _ H' => Q .non H', rt := Q } (start N vs) H) : FnG P w K mg base CX (k + 1) f fd ps G := by
  refine ⟨len, fun A outer s H args us vs Q E hr e0 hb r hsp => ?_⟩
  obtain ⟨oc, od, kV, doc, pm, an, cdv, ct, osl, rfl, lk, hcd⟩ := F.ex
  have hl := len _ _ _ _ _ _ hsp
  have KX : K.In s.heap := e0.mod.kin.keeps fun b o e => (e0.bs b o e).1
  have lim : s.heap.NoLimit := e0.mod.nolimit.keeps fun b o e => (e0.bs b o e).1
  have hkind : ∀ y ∈ ps.zip us, (defScope st).names.lookup y.1 = some .local ∨ ((defScope st).names.lookup y.1 = some .cell ∧ ((cellsFrom (s.heap.objs.size + 1) (defScope st).names []).lookup y.1).isSome = true) := fun ⟨n, v⟩ hy =>
    (S.par n (List.of_mem_zip hy).1).imp id fun q => ⟨q, PySem.W.cellsFrom_some _ _ _ (.inl q)⟩
  refine codeAny_call_function hr.depth (KX _ _ lk) rfl S.co S.gen rfl (PySem.W.codeRec_of KX hcd) (hb _ _ _ _ ?_)
  refine wpAny_newFunctionEnv_cells S.kind hkind fun env he s1 x => ?_
  subst he
  refine ⟨lim.keeps x.toInCall.keep, codeAny_func ?_⟩
  obtain ⟨t, ht, hq⟩ := hbody cdv A outer s H vs Q E (hr.deeper _) e0 hsp
  refine wpAny_mono (ht.run [] s1 (start N vs) H _ (inv_start S hr.hd e0 hl r x) hq) (fun fl s' hs => ?_) fun e s' hs => hs
  match fl, hs with
  | .ret u, ⟨v, σ', H', J, rv, q⟩ => exact ⟨v, H', J.os, J.bare, J.base, J.hok, rv, q⟩
  | .next, ⟨σ', H', J, q⟩ => exact ⟨V.non, H', J.os, J.bare, J.base, J.hok, rfl, q⟩
  | .brk, ⟨_, _, _, q⟩ => exact False.elim q
  | .cont, ⟨_, _, _, q⟩ => exact False.elim q
end FW
set_option maxRecDepth 100000
set_option maxHeartbeats 8000000
/-! # FX9: a callable without arguments, told by the tracked heap alone -/
namespace FW
open PySem PySem.Spec PyProof.Rows L2
open Evl (Ex Ex.refl Ex.trans Ex.new Ex.mut EvT)
/-- the function at f can be asked wherever what H tracks stands -/
def Ask (P : Program) (w : World) (K : PySem.W.Frag) (mg : Str → Option Value) (base : Heap) (k : Nat) (H : Hp) (f : Addr) (sp0 : Hp → VK → XK → Prop) : Prop :=
  ∀ (A : Around) (outer2 : List Env) (s2 : Shared) (H2 : Hp) (Q : VK) (E : XK), Room k A → Env0 P w K mg base A outer2 s2 H2 → Ex H H2 → sp0 H2 Q E → PySem.W.FnAt f s2.heap ∧ codeAny (model P w) A (.call (.ref f) ⟨[], []⟩) (CR (L2N.CX P w) outer2 P w H2 s2 Q E) s2
theorem Ask.mono {P : Program} {w : World} {K : PySem.W.Frag} {mg : Str → Option Value} {base : Heap} {k : Nat} {H H' : Hp} {f : Addr} {sp0 : Hp → VK → XK → Prop} (a : Ask P w K mg base k H f sp0) (e : Ex H H') : Ask P w K mg base k H' f sp0 := fun A outer2 s2 H2 Q E hr e0 x h => a A outer2 s2 H2 Q E hr e0 (e.trans x) h
theorem Ask.weak {P : Program} {w : World} {K : PySem.W.Frag} {mg : Str → Option Value} {base : Heap} {k j : Nat} {H : Hp} {f : Addr} {sp0 : Hp → VK → XK → Prop} (a : Ask P w K mg base k H f sp0) (h : k ≤ j) : Ask P w K mg base j H f sp0 := fun A outer2 s2 H2 Q E hr => a A outer2 s2 H2 Q E (hr.mono h)
theorem pe_ask {X : Cx} {k i : Nat} {f : Addr} {a : Str} {H0 : Hp} {sp0 : Hp → VK → XK → Prop} {E : L2.St → XK} {p1 p2 : Pos} (A : Ask X.prog X.w X.K X.mg X.base k H0 f sp0) (hr : Room k X.A) (hx : ∀ σ, PassesAt (L2N.CX X.prog X.w) X σ (E σ))
    (hN : X.N[i]? = some a) (hv : Vis X.env.scope a) (hd : (a == ("__debug__" : Str)) = false := by decide) (hcd : (a == ("__classdict__" : Str)) = false := by decide) :
    PE X (.Call (.Name a p1) [] [] p2) (fun σ H Q => σ[i]? = some (some (.ref f)) ∧ Ex H0 H ∧ sp0 H Q (E σ)) := by
  refine ⟨fun pins s σ H Q I h => ?_⟩
  obtain ⟨hs, he, hq⟩ := h
  refine wpAny_Call_Name_kw (thn ((pe_var (pos := p1) (i := i) hN hv hd hcd).run pins s σ H (fun v H1 => v = .ref f ∧ H1 = H) I ⟨.ref f, hs, rfl, rfl⟩) fun u s1 ⟨v, H1, I1, r1, q1⟩ => ?_)
  obtain ⟨ev, eH⟩ := q1
  subst ev
  rw [eH] at I1
  obtain rfl : u = Value.ref f := r1
  obtain ⟨h1, h2⟩ := A X.A X.stack s1 H Q (E σ) hr I1.env0 he hq
  refine PySem.W.callWith_F0 h1 ?_
  show wpAny _ _ (call (.ref f) []) _ _ _
  refine wpAny_call (codeAny_mono h2 fun r s' hq => ?_)
  match r, hq with
  | .error e, hq => exact hx σ pins H s1 e s' I1 hq
  | .ok (.ret u), hq => exact I1.after hq
  | .ok .next, hq => exact False.elim hq
  | .ok .brk, hq => exact False.elim hq
  | .ok .cont, hq => exact False.elim hq
end FW
set_option maxRecDepth 100000
set_option maxHeartbeats 8000000
/-! # FX10: _law_try -/
namespace FW
open PySem PySem.Spec PyProof.Rows L2 L2H
open Evl (Ex Ex.refl Ex.trans Ex.new Ex.mut EvT)
theorem takes0N {X : Cx} : L2N.Takes X (fun _ _ _ _ => False) := fun _ _ ⟨_, _, _, _, _, _, _, _, _, _, _, _, _, _, _, _, z⟩ => z.elim
/-- asked, it lets out an exception of the class at C, text txt, given y -/
def spAsk (C : Addr) (txt : List Nat) (y : V) : Hp → VK → XK → Prop := fun H2 _ E => BadE C (S txt) y H2 E
theorem pss_by {X : Cx} {b : List Stmt} {t' : TS} (h : ∀ D σ H, t' D σ H → ∃ t, PSs X b t ∧ t D σ H) : PSs X b t' := ⟨fun pins s σ H D I k => by
  obtain ⟨t, ht, q⟩ := h D σ H k
  exact ht.run pins s σ H D I q⟩
section
variable {P : Program} {w : World} {K : PySem.W.Frag} {mg : Str → Option Value} {base : Heap} {C1 C2 : Addr}
abbrev st_law_try : Stmt := top 54
theorem sc_law_try : FnScope ["_law_ask", "_law_e"] ["_law_ask"] (defScope st_law_try) := ⟨rfl, rfl, rfl, by decide +kernel, rfl, by decide +kernel, by decide +kernel⟩
def gTry (P : Program) (w : World) (K : PySem.W.Frag) (mg : Str → Option Value) (base : Heap) (k : Nat) (cs : List Value) : Sp := fun vs H Q _ => ∃ (f C : Addr) (txt : List Nat) (y : V) (d : Dt), vs = [.ref f] ∧ txt ∈ badL ∧ XRd K C ∧ PySem.W.exmAny K (.ref C) cs = some true ∧ Ask P w K mg base k H f (spAsk C txt y) ∧ Dq H y d ∧
  ∀ v H2, Ex H H2 → Dq H2 v (.tup [.str txt, d]) → Q v H2
theorem c_law_try {ff : Addr} {fdf : FuncData} {k : Nat} {c1 c2 c3 : Value} (F : DefAt K mg "_law_try" st_law_try) (n1 : mg "HouseError" = some c1) (n2 : mg "Missing" = some c2) (n3 : mg "NothingLeft" = some c3)
    (mf : mg "_law_field" = some (.ref ff)) (kf : PySem.W.keepIn K (.ref ff) = true) (bf : Binds K fdf ["_law_e"] []) (Ff : ∀ txt ∈ badL, FnP P w K mg base CX0 1 ff fdf ["_law_e"] (spField K txt)) : Cal P w K mg base CX0 (k + 2) "_law_try" ["_law_ask"] (gTry P w K mg base k [c1, c2, c3]) := by
  refine cal_mk F (fun f0 fd F => ?_) (fun _ _ _ _ _ _ us hl => match us, hl with | [_], _ => rfl)
  obtain ⟨oc, od, kV, doc, pm, an, cdv, ct, osl, rfl, lk, hcd⟩ := F.ex
  refine fn_of lk hcd sc_law_try (fun _ _ _ _ ⟨_, _, _, _, _, e, _⟩ => by rw [e]; rfl) fun A outer s H vs Q E hr hsp => ?_
  obtain ⟨f, C, txt, y, d, rfl, ht, X, hex, ask, hy, q⟩ := hsp
  refine ⟨_, pss_one (ps_try_as3 (x1 := "HouseError") (x2 := "Missing") (x3 := "NothingLeft") (n := "_law_e") (i := 1) (c1 := c1) (c2 := c2) (c3 := c3) (Wout := fun _ _ _ _ => False) rfl rfl sc_law_try.nd rfl rfl ⟨rfl, by decide, .inl n1⟩ ⟨rfl, by decide, .inl n2⟩ ⟨rfl, by decide, .inl n3⟩ takes0N
    (tb := fun W D σ H' => σ[0]? = some (some (.ref f)) ∧ Ex H H' ∧ BadE C (S txt) y H' (WE W σ))
    (ts := fun a cls dx D σ H' => ∃ dd, cls = .ref C ∧ dx = some dd ∧ σ[1]? = some (some (.ref a)) ∧ Ex H H' ∧ H' dd = some (.xd [("given", y), ("code", .str (S txt))]) ∧ ∀ v H2, Ex H H2 → Dq H2 v (.tup [.str txt, d]) → D.rt v H2)
    (fun W pn xe tk _ => ?_) (fun a oe cls dx pn hz hf => ?_)), ?_⟩
  · exact pss_by fun D σ H1 h => ⟨_, pss_one (ps_ret (pe_tup (pa_cons pe_str (pa_cons (pe_ask (i := 0) (E := WE W) ask (hr.mono (Nat.le_succ k)) (fun σ => L2N.passAt tk σ) rfl (Or.inl rfl)) pa_nil)))), h⟩
  · refine pss_by fun D σ H1 h => ?_
    obtain ⟨dd, rfl, rfl, h1, e1, hd, q2⟩ := h
    have hot : Hot1 (Cx.suite (cxOf CX0 P w K mg base ["_law_ask", "_law_e"] "_law_try" (defScope st_law_try) f0 cdv A outer s H E) a ((a, oe) :: pn)).A (a, oe) := ⟨rfl, hf.elim fun vs hv => ⟨vs, hv, hz.2.2 vs hv⟩⟩
    refine ⟨_, pss_one (ps_ret (pe_tup (pa_cons (pe_xfP X.xf X.code (List.mem_cons_self ..) hz.zc hf (pv 1)) (pa_cons (pe_callP (p := (a, oe)) (E := E0) (Ff txt ht) (roomH_mark hr _) (by omega) hot (List.mem_cons_self ..) rfl mf kf bf pass0 (pa_cons (pv 1) pa_nil)) pa_nil)))), ?_⟩
    have hyy := hy.mono e1
    have ec : EvD (tCall (spField K txt (a, oe)) [] E0 (tCons (tVar 1) tNil)) σ H1 d := fun H2 e Q q => ⟨.ref a, h1, C, dd, y, d, rfl, X, hz, hf, e _ _ hd, hyy.mono e, fun v H3 e3 dv => q v d H3 e3 rfl dv⟩
    exact rtD (xT (a2 (ed_xfP (xv (.obj a) h1) hd rfl (.str txt)) ec) (by simp)) (Ex.refl H1) fun v d' H2 e2 ed dv => by
      subst ed
      exact q2 v H2 (e1.trans e2) dv
  · exact ⟨rfl, Ex.refl H, fun dd H' e hd => ⟨true, hex, fun _ a ha => ⟨dd, rfl, rfl, rfl, e, hd, fun v H2 e2 dv => q v H2 e2 dv⟩, fun z => by cases z⟩⟩
end
end FW
set_option maxRecDepth 100000
set_option maxHeartbeats 8000000
/-! # FX11: _law_tries -/
namespace FW
open PySem PySem.Spec PyProof.Rows L2 L2H
open Evl (Ex Ex.refl Ex.trans Ex.new Ex.mut EvT)
/-- one ask: the function, the class, its text, the value given -/
structure Rq where
  f : Addr
  C : Addr
  txt : List Nat
  y : V
  d : Dt
def Rq.out (r : Rq) : Dt := .tup [.str r.txt, r.d]
def Rq.Ok (P : Program) (w : World) (K : PySem.W.Frag) (mg : Str → Option Value) (base : Heap) (k : Nat) (cs : List Value) (H : Hp) (r : Rq) : Prop := r.txt ∈ badL ∧ XRd K r.C ∧ PySem.W.exmAny K (.ref r.C) cs = some true ∧ Ask P w K mg base k H r.f (spAsk r.C r.txt r.y) ∧ Dq H r.y r.d
def outOf (rs : List Rq) : Dt → Dt
  | .obj f => (rs.find? fun r => decide (r.f = f)).elim .non Rq.out
  | _ => .non
theorem outOf_at : ∀ {rs : List Rq} {r : Rq}, (rs.map Rq.f).Nodup → r ∈ rs → outOf rs (.obj r.f) = r.out
  | q :: rs, r, h, hm => by
    rw [List.map_cons, List.nodup_cons] at h
    show ((q :: rs).find? fun q => decide (q.f = r.f)).elim Dt.non Rq.out = r.out
    rcases List.mem_cons.mp hm with rfl | hm
    · have e : (r :: rs).find? (fun q => decide (q.f = r.f)) = some r := List.find?_cons_of_pos (p := fun q : Rq => decide (q.f = r.f)) (decide_eq_true rfl)
      rw [e] <;> rfl
    · have hne : q.f ≠ r.f := fun e => h.1 (List.mem_map.mpr ⟨r, hm, e.symm⟩)
      rw [List.find?_cons_of_neg (by rw [decide_eq_false hne]; exact Bool.false_ne_true)]
      exact outOf_at h.2 hm
theorem dqa_obj {H : Hp} : ∀ rs : List Rq, DqA H (rs.map fun r => V.ref r.f) (rs.map fun r => Dt.obj r.f)
  | [] => .nil
  | r :: rs => .cons (.obj r.f) (dqa_obj rs)
section
variable {P : Program} {w : World} {K : PySem.W.Frag} {mg : Str → Option Value} {base : Heap}
abbrev st_law_tries : Stmt := top 55
theorem sc_law_tries : FnScope ["_law_asks", "_law_ask"] ["_law_asks"] (defScope st_law_tries) := ⟨rfl, rfl, rfl, by decide +kernel, rfl, by decide +kernel, by decide +kernel⟩
def spTries (P : Program) (w : World) (K : PySem.W.Frag) (mg : Str → Option Value) (base : Heap) (k : Nat) (cs : List Value) : Sp := fun vs H Q _ => ∃ (p : Addr) (rs : List Rq), vs = [.ref p] ∧ H p = some (.lst (rs.map fun r => V.ref r.f)) ∧ rs.length ≤ 10 ∧ (rs.map Rq.f).Nodup ∧ (∀ r ∈ rs, r.Ok P w K mg base k cs H) ∧
  ∀ v H2, Ex H H2 → Dq H2 v (.lst (rs.map Rq.out)) → Q v H2
theorem c_law_tries {k : Nat} {cs : List Value} (T : Txt mg) (F : DefAt K mg "_law_tries" st_law_tries) (C__law_try : Cal P w K mg base CX0 (k + 2) "_law_try" ["_law_ask"] (gTry P w K mg base k cs)) : Cal P w K mg base CX0 (k + 3) "_law_tries" ["_law_asks"] (spTries P w K mg base k cs) := by
  refine cal_ofS sc_law_tries F (fun vs H Q E ⟨_, _, e, _⟩ => by rw [e]; rfl) (fun _ _ _ _ _ _ us hl => match us, hl with | [_], _ => rfl) fun f cdv A outer s H hr E => ?_
  refine ⟨_, (pss_one (ps_ret (pe_lc (own := [("_law_ask", 1)]) (g := gName 1) rfl sc_law_tries.nd (pi_list (pv 0)) (blkOk_by (own := [("_law_ask", 1)]) (N := ["_law_asks", "_law_ask"]) (sc := defScope st_law_tries) (by decide +kernel)) (fun _ _ _ _ _ => (pg_name (i := 1) sc_law_tries.nd rfl (Or.inl rfl))) (fun _ _ _ _ _ => pts_nilH) (fun _ _ _ _ _ => pe_hide (pe_cal C__law_try hr pass0 (pa_cons (pv 1) pa_nil) (Nat.le_refl _)))))), ?_⟩
  rintro vs Q ⟨p, rs, rfl, hp, hl, nd, ok, q⟩
  refine rtD (EvD.to (ed_lcM (outOf rs) (ei_listD (xs := rs.map fun r => Dt.obj r.f) (xv (.lst hp (dqa_obj rs)))) (by rw [List.length_map]; omega) (fun _ => rfl) fun i x v B ez eB dz => ?_) (congrArg Dt.lst ?_)) (Ex.refl H) fun v d' H2 e2 ed dv => by
    subst ed
    exact q v H2 e2 dv
  · obtain ⟨r, hr2, rfl⟩ := map_at ez
    cases dz
    have hm := List.mem_of_getElem? hr2
    rw [outOf_at nd hm]
    obtain ⟨o1, o2, o3, o4, o5⟩ := ok r hm
    exact fun H1 e Q q => ⟨.ref r.f, rfl, r.f, r.C, r.txt, r.y, r.d, rfl, o1, o2, o3, o4.mono (eB.trans e), o5.mono (eB.trans e), fun v H2 e2 dv => q v r.out H2 e2 rfl dv⟩
  · rw [List.map_map]
    exact List.map_congr_left fun r hr => outOf_at nd hr
end
end FW
set_option maxRecDepth 100000
set_option maxHeartbeats 4000000
/-! # FX12: dicts of addresses: locked walks, dict of pairs, loops beside a growing list -/
namespace FW
open PySem L2
open Evl (Ex Ex.refl Ex.trans Ex.new Ex.mut EvT)
section
variable {X : Cx} {e a : Expr} {te ta : TE} {tg : Expr} {p pos : Pos}
theorem pi_listH (h : PE X e te) : PI X tg e (iList X.K (tHide te)) := pi_list (pe_hide h)
def rDictP (K : PySem.W.Frag) : List V → Hp → VK → Prop := fun xs H Q => ∃ (a : Addr) (ps : List Addr) (kvs : List (L2.Key × V)), xs = [.ref a] ∧ SqL K H a (ps.map V.ref) ∧ Paired (fun p kv => SqT K H p [kV kv.1, kv.2]) ps kvs ∧
    ∀ p, H p = none → Q (.ref p) (upd H p (.dK (mergeK [] kvs)))
theorem pe_dictC (T : Txt X.mg) (ha : PE X a ta) (hc : X.calm = true := by rfl) (hg : Gl X "dict" := by rfl) (hs : starEach (a :: []) X.env = (false, eval a X.env) :: starEach [] X.env := by rfl) (hpl : (backTo pos (starEach [] X.env)).any (·.1) = false := by rfl) : PE X (.Call (.Name "dict" p) [a] [] pos) (tCB (rDictP X.K) (tCons ta tNil)) :=
  pe_callTy (r := rDictP X.K) (call_dictP hc) hg T.dict PyProof.Rows.boot_dict (pa_cons ha pa_nil hs) (by decide) (by decide) hs hpl
end
mutual
theorem Dq.seq {H H' : Hp} (e1 : ∀ a xs, H a = some (.lst xs) → H' a = some (.lst xs)) (e2 : ∀ a xs, H a = some (.tup xs) → H' a = some (.tup xs)) : ∀ {v : V} {d : Dt}, Dq H v d → Dq H' v d
  | _, _, .non => .non
  | _, _, .bl b => .bl b
  | _, _, .int i => .int i
  | _, _, .str l => .str l
  | _, _, .lst h k => .lst (e1 _ _ h) (DqA.seq e1 e2 k)
  | _, _, .tup h k => .tup (e2 _ _ h) (DqA.seq e1 e2 k)
  | _, _, .obj a => .obj a
theorem DqA.seq {H H' : Hp} (e1 : ∀ a xs, H a = some (.lst xs) → H' a = some (.lst xs)) (e2 : ∀ a xs, H a = some (.tup xs) → H' a = some (.tup xs)) : ∀ {vs : List V} {ds : List Dt}, DqA H vs ds → DqA H' vs ds
  | _, _, .nil => .nil
  | _, _, .cons h k => .cons (Dq.seq e1 e2 h) (DqA.seq e1 e2 k)
end
/-! ### the dict of a state -/
abbrev AR := List (List Nat × List Nat)
def pairD (q : List Nat × List Nat) : Dt := .tup [.str q.1, .str q.2]
def kvR (S : AR) : List (L2.Key × V) := S.map fun q => (kS q.1, V.str (FW.S q.2))
theorem kvR_keys (S : AR) : keysL (kvR S) (S.map (·.1)) := by
  unfold keysL kvR
  rw [List.map_map, List.map_map]
  rfl
theorem kvR_val : ∀ {S : AR} {q : List Nat × List Nat}, (S.map (·.1)).Nodup → q ∈ S → valV (kvR S) (kS q.1) = some (.str (FW.S q.2))
  | s :: S, q, nd, h => by
    rw [List.map_cons, List.nodup_cons] at nd
    show valV ((kS s.1, V.str (FW.S s.2)) :: kvR S) (kS q.1) = _
    rcases List.mem_cons.mp h with rfl | h
    · exact valV_pos rfl
    · rw [valV_neg (fun e => nd.1 ?_)]
      · exact kvR_val nd.2 h
      · have e : kS s.1 = kS q.1 := e
        rw [kS_inj e]
        exact List.mem_map.mpr ⟨q, h, rfl⟩
theorem kvR_put {S : AR} {a r : List Nat} (h : a ∉ S.map (·.1)) : putK (kvR S) (kS a) (.str (FW.S r)) = kvR (S ++ [(a, r)]) := by
  have kn : valV (kvR S) (kS a) = none := by
    have y := keys_none (l := a) (kvR_keys S)
    rw [decide_eq_false h] at y
    simpa using y
  rw [putK_new _ kn]
  unfold kvR
  rw [List.map_append]
  rfl
theorem kvR_merge : ∀ (S T : AR), ((T ++ S).map (·.1)).Nodup → mergeK (kvR T) (kvR S) = kvR (T ++ S)
  | [], T, _ => by rw [List.append_nil] <;> rfl
  | s :: S, T, h => by
    have hn : s.1 ∉ T.map (·.1) := fun hm => by
      rw [List.map_append, List.map_cons, List.nodup_append] at h
      exact h.2.2 _ hm _ (List.mem_cons_self ..) rfl
    show mergeK (putK (kvR T) (kS s.1) (.str (FW.S s.2))) (kvR S) = _
    rw [kvR_put hn, kvR_merge S (T ++ [(s.1, s.2)]) (by rw [List.append_assoc]; exact h), List.append_assoc]
    rfl
theorem pairs_at {K : PySem.W.Frag} {H : Hp} : ∀ {S : AR} {vs : List V}, DqA H vs (S.map pairD) → ∃ ps : List Addr, vs = ps.map V.ref ∧ Paired (fun p (kv : L2.Key × V) => SqT K H p [kV kv.1, kv.2]) ps (kvR S)
  | [], vs, h => by
    cases h
    exact ⟨[], rfl, .nil⟩
  | q :: S, vs, h => by
    cases h with
    | cons h k =>
      obtain ⟨ps, rfl, hp⟩ := pairs_at (K := K) k
      obtain ⟨t, xs, rfl, ht, hk⟩ := dq_tup h
      obtain ⟨x, y, rfl, hx, hy⟩ := dqa2 hk
      cases hx
      cases hy
      exact ⟨t :: ps, rfl, .cons (sqT_of ht) hp⟩
section
variable {K : PySem.W.Frag} {σ : St} {H : Hp} {ta tb td te ty tv to : TE} {D : Ends} {tu tz : TS} {C : Dt → Prop}
/-- x = dict(pairs) -/
theorem g_newD {i : Nat} {S : AR} (h : EvD ta σ H (.lst (S.map pairD))) (nd : (S.map (·.1)).Nodup) (k : ∀ p H1, Ex H H1 → H1 p = none → tz D (σ.set i (some (.ref p))) (upd H1 p (.dK (kvR S)))) : tSeq (tAsg (tCB (rDictP K) (tCons ta tNil)) (gName i)) tz D σ H :=
  h H (Ex.refl H) _ fun v d H1 e1 c dv => by
    subst c
    obtain ⟨a, vs, rfl, h1, k1⟩ := dq_lst dv
    obtain ⟨ps, rfl, hp⟩ := pairs_at (K := K) k1
    refine ⟨a, ps, kvR S, rfl, sqL_of h1, hp, fun p np => ?_⟩
    have e := kvR_merge S [] nd
    have e : mergeK [] (kvR S) = kvR S := e
    rw [e]
    exact k p H1 e1 np
/-! ### a locked dict -/
theorem dw_keys {a : Addr} {od : Obj} {kvs : List (L2.Key × V)} {L : List (List Nat)} {B : Hp} (hk : B a = some (.frz od (.dK kvs))) (ks : keysL kvs L) : DWalk (Itk a od kvs) B (L.map Dt.str) := by
  have hl : kvs.length = L.length := keys_len ks
  refine ⟨fun i H3 hi e => ?_, fun H3 e => ?_, fun i H3 v H4 hi e y => ?_⟩
  · rw [List.length_map] at hi
    exact ⟨e _ _ hk, by omega⟩
  · exact ⟨e _ _ hk, by rw [List.length_map]; omega⟩
  · obtain ⟨rfl, k, v', ek, rfl⟩ := y
    have e1 : (kvs.map (·.1))[i]? = some k := by
      rw [List.getElem?_map, ek] <;> rfl
    rw [ks, List.getElem?_map] at e1
    cases el : L[i]? with
    | none =>
      rw [el] at e1
      cases e1
    | some l =>
      rw [el] at e1
      have e2 : kS l = k := Option.some.inj e1
      subst e2
      exact ⟨.str l, B, by rw [List.getElem?_map, el] <;> rfl, Ex.refl _, Ex.refl _, e, .str l, fun _ z _ => z⟩
theorem ei_keys {a : Addr} {od : Obj} {kvs : List (L2.Key × V)} {L : List (List Nat)} (h : EvW td σ H (.ref a)) (hk : H a = some (.frz od (.dK kvs))) (ks : keysL kvs L) : EvI (iKeys td) σ H (fun xs => xs = L.map Dt.str) := fun H1 e R q => h H1 e _ fun H2 e2 =>
  ⟨a, od, rfl, .inl ⟨kvs, (e.trans e2) _ _ hk, q _ _ H2 e2 rfl (dw_keys ((e.trans e2) _ _ hk) ks)⟩⟩
theorem ed_dgetF {a : Addr} {od : Obj} {kvs : List (L2.Key × V)} {l : List Nat} {v : V} {d : Dt} (hd : EvW td σ H (.ref a)) (hy : EvD ty σ H (.str l)) (hk : H a = some (.frz od (.dK kvs))) (hv : valV kvs (kS l) = some v) (dv : Dq H v d) : EvD (tDGet td ty) σ H d := fun H1 e Q q =>
  hd H1 e _ fun H2 e2 => hy H2 (e.trans e2) _ fun y d' H3 e3 c k => by
    subst c
    cases k
    have g : DGet H3 a (kV (kS l)) (valV kvs (kS l)) := .inl ⟨kvs, kS l, .inr ⟨od, ((e.trans e2).trans e3) _ _ hk⟩, rfl, rfl⟩
    rw [hv] at g
    exact ⟨a, v, rfl, g, q v d H3 (e2.trans e3) rfl (dv.mono ((e.trans e2).trans e3))⟩
theorem ec_lock {a : Addr} {kvs : List (L2.Key × V)} (hk : H a = some (.dK kvs)) (h : ∀ od H1, Ex H H1 → EvC te σ (upd H1 a (.frz od (.dK kvs))) C) : EvC (tLockE te) σ H C := fun H1 e Q q =>
  ⟨a, .dK kvs, e _ _ hk, trivial, fun od => h od H1 e _ (Ex.refl _) _ fun v d H2 e2 c dv => ⟨e2 _ _ upd_same, by
    have ha : H2 a = some (.frz od (.dK kvs)) := e2 _ _ upd_same
    refine q v d _ (fun b o hb => ?_) c (dv.seq (fun b xs hb => ?_) fun b xs hb => ?_)
    · by_cases z : b = a
      · rw [z, upd_same, ← e _ _ hk, ← z, hb]
      · rw [upd_ne z]
        refine e2 b o ?_
        rw [upd_ne z]
        exact hb
    · rw [upd_ne (fun z => by rw [z, ha] at hb; cases hb)]
      exact hb
    · rw [upd_ne (fun z => by rw [z, ha] at hb; cases hb)]
      exact hb⟩⟩
/-! ### beside a growing list -/
theorem s_appendH {a : Addr} {vs : List V} (ho : EvV to σ H (.ref a)) (hl : H a = some (.lst vs)) (hz : vs.length < 100000) (he : EvC te σ (hid H a) C)
    (k : ∀ v d H1, Ex (hid H a) H1 → H1 a = none → C d → Dq H1 v d → D.nx σ (upd H1 a (.lst (vs ++ [v])))) : tDrop (tBM K "list" rAppend to (tCons (tHide te) tNil)) D σ H := ho _ fun H1 e1 =>
  ⟨.inl ⟨rfl, _, SqL.of (e1 _ _ hl)⟩, a, vs, e1 _ _ hl, he (hid H1 a) (hid_mono e1) _ fun v d H2 e2 c dv hn => ⟨a, vs, v, rfl, rfl, upd_same, szlt hz, by
    rw [upd_upd]
    exact k v d H2 ((hid_mono e1).trans e2) hn c dv⟩⟩
theorem hid_upd_none {H : Hp} {a : Addr} {o : HO} (h : H a = none) : hid (upd H a o) a = H := by
  rw [hid_upd]
  funext b
  by_cases z : b = a
  · rw [z, hid_same, h]
  · rw [hid_ne z]
/-- for .. in e: .., e reckoned while the list at L is put aside; the walk leans on B, which does not know L -/
theorem g_forH {g : TG} {L : Addr} {acc : List V} {xs : List Dt} (hL : H L = some (.lst acc)) (he : EvD te σ (hid H L) (.lst xs))
    (hp : ∀ B, Ex (hid H L) B → B L = none → ∃ Pv : Nat → St → Hp → Prop, Pv 0 σ (upd B L (.lst acc)) ∧ (∀ i σ' H', Pv i σ' H' → Ex B (hid H' L) ∧ H' L ≠ none) ∧
      (∀ (i : Nat) x v σ' H' H'', xs[i]? = some x → Pv i σ' H' → Ex H' H'' → Dq (hid H'' L) v x → g v σ' H'' fun σ2 H2 => tu { D with nx := Pv (i + 1), ct := Pv (i + 1), bk := tz D } σ2 H2) ∧ ∀ σ' H', Pv xs.length σ' H' → tz D σ' H') :
    tSeq (tFor (iList K (tHide te)) g tu) tz D σ H := ⟨L, acc, hL, he _ (Ex.refl _) _ fun v d B e1 c dv hn => by
  subst c
  obtain ⟨a, vs, rfl, ha, ka⟩ := dq_lst dv
  obtain ⟨Pv, p0, pE, ps, pd⟩ := hp B e1 hn
  have haL : a ≠ L := fun z => by
    rw [z, hn] at ha
    cases ha
  have W := dw_list (K := K) ha ka
  refine ⟨a, rfl, ⟨vs, sqL_of (by rw [upd_ne haL]; exact ha)⟩, fun i m σ' H' => m = xs.length - i ∧ i ≤ xs.length ∧ Pv i σ' H', ⟨xs.length, by simp, Nat.zero_le _, p0⟩, ?_⟩
  rintro i m σ' H' ⟨rfl, hi', p⟩
  have pB : Ex B H' := (pE _ _ _ p).1.trans hid_sub
  by_cases hlt : i < xs.length
  · refine .inr ⟨W.goes i H' hlt pB, Pv (i + 1), fun σ'' H'' p' => ⟨xs.length - (i + 1), by omega, rfl, hlt, p'⟩, fun v H'' y => ?_⟩
    obtain ⟨x, B', ex, e2, eB1, eB2, dx, hB⟩ := W.yields i H' v H'' hlt pB y
    have hn' : B' L = none := hB L hn (pE _ _ _ p).2
    exact ps i x v σ' H' H'' ex p e2 (dx.mono (hid_ex hn' eB2))
  · have ei : i = xs.length := by omega
    subst ei
    exact .inl ⟨W.stops H' pB, pd σ' H' p⟩⟩
theorem s_forH {g : TG} {L : Addr} {acc : List V} {xs : List Dt} (hL : H L = some (.lst acc)) (he : EvD te σ (hid H L) (.lst xs))
    (hp : ∀ B, Ex (hid H L) B → B L = none → ∃ Pv : Nat → St → Hp → Prop, Pv 0 σ (upd B L (.lst acc)) ∧ (∀ i σ' H', Pv i σ' H' → Ex B (hid H' L) ∧ H' L ≠ none) ∧
      (∀ (i : Nat) x v σ' H' H'', xs[i]? = some x → Pv i σ' H' → Ex H' H'' → Dq (hid H'' L) v x → g v σ' H'' fun σ2 H2 => tu { D with nx := Pv (i + 1), ct := Pv (i + 1), bk := D.nx } σ2 H2) ∧ ∀ σ' H', Pv xs.length σ' H' → D.nx σ' H') :
    tFor (iList K (tHide te)) g tu D σ H := g_forH (tz := fun D => D.nx) hL he hp
/-- a pair's names -/
theorem gt_pair {i j : Nat} {v : V} {a b : Dt} {L : Addr} {Nx : St → Hp → Prop} (h : Dq (hid H L) v (.tup [a, b])) (k : ∀ y z, Dq (hid H L) y a → Dq (hid H L) z b → Nx ((σ.set i (some y)).set j (some z)) H) : gTup K 2 (gCons (gName i) (gCons (gName j) gNil)) v σ H Nx := by
  obtain ⟨t, vs', rfl, h1, k1⟩ := dq_tup h
  obtain ⟨y, z, rfl, hy, hz⟩ := dqa2 k1
  exact ⟨t, [y, z], rfl, sqT_of (hid_sub _ _ h1), rfl, y, [z], rfl, z, [], rfl, rfl, k y z hy hz⟩
/-- list(d) -/
theorem ed_listK {a : Addr} {kvs : List (L2.Key × V)} {L : List (List Nat)} (hd : EvW td σ H (.ref a)) (hk : H a = some (.dK kvs)) (ks : keysL kvs L) : EvD (tCB rListD (tCons td tNil)) σ H (.lst (L.map Dt.str)) := fun H1 e Q q => hd H1 e _ fun H2 e2 =>
  ⟨a, kvs, rfl, (e.trans e2) _ _ hk, fun p np => q _ _ _ (e2.trans (Ex.new np)) rfl (.lst upd_same (by
    have e : (kvs.map fun kv => kV kv.1) = L.map fun l => V.str (FW.S l) := by
      have z := congrArg (List.map kV) ks
      rw [List.map_map, List.map_map] at z
      exact z
    rw [e]
    have z := dqa_strs (H := upd H2 p (.lst (L.map fun l => V.str (FW.S l)))) L
    rw [List.map_map] at z
    exact z))⟩
/-- {k: v}, one pair -/
theorem ew_disp1 {l r : List Nat} {Q : VK} (hk : EvD ty σ H (.str l)) (hv : EvD tv σ H (.str r)) (q : ∀ p H1, Ex H H1 → H1 p = none → Q (.ref p) (upd H1 p (.dK (kvR [(l, r)])))) : tDisp [(ty, tv)] σ H Q := fun p hp => by
  refine hk _ (Ex.new hp) _ fun u d H1 e1 c du => ?_
  subst c
  cases du
  refine hv _ ((Ex.new hp).trans e1) _ fun w d H2 e2 c dw => ?_
  subst c
  cases dw
  have h2 : H2 p = some (.dK []) := (e1.trans e2) _ _ upd_same
  refine ⟨h2, kvR [(l, r)], rfl, by show 1 ≤ 15; decide, ?_⟩
  have z := q p (hid H2 p) (hid_ex hp ((Ex.new hp).trans (e1.trans e2))) hid_same
  have e : upd (hid H2 p) p (.dK (kvR [(l, r)])) = upd H2 p (.dK (mergeK [] (kvR [(l, r)]))) := by
    rw [show mergeK [] (kvR [(l, r)]) = kvR [(l, r)] from kvR_merge [(l, r)] [] (by simp)]
    funext b
    by_cases z : b = p
    · rw [z, upd_same, upd_same]
    · rw [upd_ne z, upd_ne z, hid_ne z]
  rw [← e]
  exact z
end
end FW
set_option maxRecDepth 100000
set_option maxHeartbeats 4000000
/-! # PM7: the states of the law's own list, in plain Lean -/
namespace FW
section
variable {R κ : Type} (T : R → List (κ × R × R))
/-- the steps from the places of S on, pre ahead of them -/
def succG : List (Ad × R) → List (Ad × R) → List ((Ad × κ) × List (Ad × R))
  | _, [] => []
  | pre, (a, r) :: S => (T r).map (fun t => ((a, t.1), (pre ++ S) ++ [(a ++ [48], t.2.1), (a ++ [49], t.2.2)])) ++ succG (pre ++ [(a, r)]) S
theorem succG_eq : ∀ (pre S : List (Ad × R)), succG T pre S = (succS T S).map fun q => (q.1, pre ++ q.2)
  | pre, [] => rfl
  | pre, (a, r) :: S => by
    show (T r).map _ ++ succG T (pre ++ [(a, r)]) S = ((T r).map _ ++ (succS T S).map _).map _
    rw [List.map_append, List.map_map, List.map_map, succG_eq (pre ++ [(a, r)]) S]
    congr 1
    · refine List.map_congr_left fun t _ => ?_
      show ((a, t.1), (pre ++ S) ++ [(a ++ [48], t.2.1), (a ++ [49], t.2.2)]) = ((a, t.1), pre ++ (S ++ [(a ++ [48], t.2.1), (a ++ [49], t.2.2)]))
      rw [List.append_assoc]
    · refine List.map_congr_left fun q _ => ?_
      show (q.1, (pre ++ [(a, r)]) ++ q.2) = (q.1, pre ++ ((a, r) :: q.2))
      rw [List.append_assoc] <;> rfl
theorem succG_nil (S : List (Ad × R)) : succG T [] S = succS T S := by
  rw [succG_eq]
  exact List.map_id' _
theorem succS_len {b : Nat} (h : ∀ r, (T r).length ≤ b) : ∀ S : List (Ad × R), (succS T S).length ≤ S.length * b
  | [] => Nat.zero_le _
  | (a, r) :: S => by
    have h1 := h r
    have h2 := succS_len h S
    show ((T r).map _ ++ (succS T S).map _).length ≤ (S.length + 1) * b
    rw [List.length_append, List.length_map, List.length_map, Nat.succ_mul]
    omega
/-- no address within another -/
def PF (S : List (Ad × R)) : Prop := (S.map (·.1)).Pairwise fun a b => ¬ a <+: b ∧ ¬ b <+: a
variable {T}
theorem PF.nodup {S : List (Ad × R)} (h : PF S) : (S.map (·.1)).Nodup := List.Pairwise.imp (fun {a b} z e => z.1 (by rw [e]; exact List.prefix_refl _)) h
theorem PF.perm {S S' : List (Ad × R)} (p : S.Perm S') (h : PF S) : PF S' :=
  (List.Perm.pairwise_iff (R := fun a b : Ad => ¬ a <+: b ∧ ¬ b <+: a) (fun {x y} z => ⟨z.2, z.1⟩) (p.map fun q : Ad × R => q.1)).mp h
theorem PF.two {a : Ad} {r x y : R} {S : List (Ad × R)} (h : PF ((a, r) :: S)) : PF ((a ++ [48], x) :: (a ++ [49], y) :: S) := by
  unfold PF at h ⊢
  simp only [List.map_cons, List.pairwise_cons] at h ⊢
  obtain ⟨h1, h2⟩ := h
  have one : ∀ c : Nat, ∀ b ∈ S.map (·.1), ¬ (a ++ [c]) <+: b ∧ ¬ b <+: (a ++ [c]) := fun c b hb => by
    obtain ⟨k1, k2⟩ := h1 b hb
    refine ⟨fun z => k1 ((List.prefix_append a [c]).trans z), fun z => ?_⟩
    rcases List.prefix_concat_iff.mp z with e | e
    · exact k1 (by rw [e]; exact List.prefix_append a [c])
    · exact k2 e
  refine ⟨fun b hb => ?_, fun b hb => one 49 b hb, h2⟩
  rcases List.mem_cons.mp hb with rfl | hb
  · constructor
    · intro z
      have := List.IsPrefix.eq_of_length z (by simp)
      simp at this
    · intro z
      have := List.IsPrefix.eq_of_length z (by simp)
      simp at this
  · exact one 48 b hb
/-- the two new addresses are new -/
theorem PF.fresh {a : Ad} {r : R} {S1 S2 : List (Ad × R)} (h : PF (S1 ++ (a, r) :: S2)) : a ++ [48] ∉ (S1 ++ S2).map (·.1) ∧ a ++ [49] ∉ (S1 ++ S2).map (·.1) ∧ a ∉ (S1 ++ S2).map (·.1) ∧ ((S1 ++ S2).map (·.1)).Nodup := by
  have h' : PF ((a, r) :: (S1 ++ S2)) := h.perm List.perm_middle
  have hn := (h'.two (x := r) (y := r)).nodup
  have ha := h'.nodup
  simp only [List.map_cons, List.nodup_cons, List.mem_cons, not_or] at hn ha
  exact ⟨hn.1.2, hn.2.1, ha.1, ha.2⟩
end
/-! ### the spec's part that the list leans on -/
structure SpecL (sp : Spec) : Prop where
  c2 : sp.ct.length ≤ 2
  l8 : sp.ls.length ≤ 8
  cuts : ∀ l ∈ sp.ls, l.cut = [] ∨ CutOk l.cut sp.fc
theorem SpecL.okc {sp : Spec} (h : SpecL sp) : ∀ l ∈ sp.ls, okCut l.cut := fun l hl => by
  rcases h.cuts l hl with e | ⟨o, a, b, e, _⟩
  · exact .inl e
  · exact .inr ⟨o, a, b, e⟩
theorem SpecL.of {sp : Spec} (h : SpecOk sp) : SpecL ⟨sp.fc, sp.ct.take 2, sp.ls⟩ := ⟨List.length_take_le 2 _, h.l8, fun l hl => (h.ls l hl).cut⟩
theorem turnsL_two {sp : Spec} (ok : SpecL sp) {r : List Nat} (hr : rmOf r sp.fc) {k : Nat} (hk : k ∈ turnsK sp r) : rp sp r k = [part0 sp r k, part1 sp r k] ∧ rmOf (part0 sp r k) sp.fc ∧ rmOf (part1 sp r k) sp.fc := by
  unfold turnsK at hk
  rw [List.mem_filter] at hk
  have h2 : cutAt sp.ls r k ≠ [] := by simpa using hk.2
  obtain ⟨⟨n, e, s, w, rfl⟩, hx⟩ := hr
  have hc : CutOk (cutAt sp.ls [n, e, s, w] k) sp.fc := by
    revert h2
    unfold cutAt
    cases q : (lineAt sp.ls [n, e, s, w] k).bind fun i => sp.ls[i]? with
    | none => exact fun h2 => absurd rfl h2
    | some l =>
      intro h2
      obtain ⟨i, _, e2⟩ := Option.bind_eq_some_iff.mp q
      exact (ok.cuts l (List.mem_of_getElem? e2)).resolve_left h2
  obtain ⟨o, a, b, hc, _, ha, hb⟩ := hc
  have h0 := hx n (by simp)
  have h1 := hx e (by simp)
  have h2 := hx s (by simp)
  have h3 := hx w (by simp)
  have mk : ∀ {a b c d : Nat}, a ∈ sp.fc → b ∈ sp.fc → c ∈ sp.fc → d ∈ sp.fc → rmOf [a, b, c, d] sp.fc := fun ha hb hc hd => ⟨⟨_, _, _, _, rfl⟩, fun z hz => by
    simp at hz
    rcases hz with rfl | rfl | rfl | rfl <;> assumption⟩
  unfold part0 part1 rp
  rw [hc]
  by_cases ho : o = 124
  · simp only [partsL, ho, if_true]
    exact ⟨rfl, mk h0 ha h2 h3, mk h0 h1 h2 hb⟩
  · simp only [partsL, ho, if_false]
    exact ⟨rfl, mk h0 h1 ha h3, mk hb h1 h2 h3⟩
/-- a state after n cuts -/
structure GoodS (fc : List Nat) (n : Nat) (S : List (Ad × List Nat)) : Prop where
  len : S.length = n + 1
  pf : PF S
  rm : ∀ q ∈ S, rmOf q.2 fc ∧ q.1.length ≤ n
theorem Ts_mem {sp : Spec} {r : List Nat} {t : Nat × List Nat × List Nat} (h : t ∈ Ts sp r) : ∃ k ∈ turnsK sp r, t = (k, part0 sp r k, part1 sp r k) := by
  obtain ⟨k, hk, rfl⟩ := List.mem_map.mp h
  exact ⟨k, hk, rfl⟩
theorem Ts_len {sp : Spec} (ok : SpecL sp) (r : List Nat) : (Ts sp r).length ≤ 2 := by
  unfold Ts turnsK
  rw [List.length_map]
  exact Nat.le_trans (List.length_filter_le _ _) ok.c2
theorem GoodS.succ {sp : Spec} (ok : SpecL sp) {n : Nat} {S : List (Ad × List Nat)} (h : GoodS sp.fc n S) {q : (Ad × Nat) × List (Ad × List Nat)} (hq : q ∈ succS (Ts sp) S) : GoodS sp.fc (n + 1) q.2 := by
  obtain ⟨a, r, t, S', p1, ht, _, p2⟩ := succS_of hq
  obtain ⟨k, hk, rfl⟩ := Ts_mem ht
  have hr := h.rm _ (p1.mem_iff.mpr (List.mem_cons_self ..))
  obtain ⟨_, r0, r1⟩ := turnsL_two ok hr.1 hk
  refine ⟨?_, ((h.pf.perm p1).two).perm p2.symm, fun z hz => ?_⟩
  · have l1 := p1.length_eq
    have l2 := p2.length_eq
    have l3 := h.len
    simp only [List.length_cons] at l1 l2
    omega
  · have la : a.length ≤ n := hr.2
    rcases List.mem_cons.mp (p2.mem_iff.mp hz) with rfl | hz
    · exact ⟨r0, by rw [List.length_append]; show a.length + 1 ≤ n + 1; omega⟩
    · rcases List.mem_cons.mp hz with rfl | hz
      · exact ⟨r1, by rw [List.length_append]; show a.length + 1 ≤ n + 1; omega⟩
      · have := h.rm z (p1.mem_iff.mpr (List.mem_cons_of_mem _ hz))
        exact ⟨this.1, by omega⟩
def bnd : Nat → Nat
  | 0 => 1
  | n + 1 => bnd n * ((n + 1) * 2)
/-- the law's own list after n cuts -/
abbrev itL (sp : Spec) (r : List Nat) (n : Nat) : List (List (Ad × Nat) × List (Ad × List Nat)) := iterL (Ts sp) n [([], [([], r)])]
theorem itL_good {sp : Spec} (ok : SpecL sp) {r : List Nat} (hr : rmOf r sp.fc) : ∀ n, (∀ h ∈ itL sp r n, GoodS sp.fc n h.2 ∧ h.1.length = n) ∧ (itL sp r n).length ≤ bnd n
  | 0 => ⟨fun h hm => by
      have e : h = ([], [([], r)]) := List.mem_singleton.mp hm
      subst e
      exact ⟨⟨rfl, by simp [PF], fun q hq => by
        have e : q = ([], r) := List.mem_singleton.mp hq
        subst e
        exact ⟨hr, Nat.le_refl 0⟩⟩, rfl⟩, Nat.le_refl 1⟩
  | n + 1 => by
    obtain ⟨h1, h2⟩ := itL_good ok hr n
    refine ⟨fun h hm => ?_, ?_⟩
    · obtain ⟨x, hx, hm⟩ := List.mem_flatMap.mp hm
      obtain ⟨q, hq, rfl⟩ := List.mem_map.mp hm
      obtain ⟨g1, g2⟩ := h1 x hx
      refine ⟨g1.succ ok hq, ?_⟩
      show (x.1 ++ [q.1]).length = n + 1
      rw [List.length_append, g2] <;> rfl
    · have : (itL sp r (n + 1)).length ≤ (itL sp r n).length * ((n + 1) * 2) := len_flat fun x hx => by
        rw [List.length_map]
        have z := succS_len (T := Ts sp) (Ts_len ok) x.2
        rw [(h1 x hx).1.len] at z
        exact z
      exact Nat.le_trans this (Nat.mul_le_mul_right _ h2)
theorem itL_len {sp : Spec} (ok : SpecL sp) {r : List Nat} (hr : rmOf r sp.fc) {n : Nat} (hn : n ≤ 3) : (itL sp r n).length ≤ 48 := by
  refine Nat.le_trans (itL_good ok hr n).2 ?_
  match n, hn with
  | 0, _ => decide
  | 1, _ => decide
  | 2, _ => decide
  | 3, _ => decide
theorem itL_runs (sp : Spec) (r : List Nat) (n : Nat) : (itL sp r n).map (·.1) = runs (Ts sp) n [([], r)] := by
  rw [iterL_fst]
  show (runs (Ts sp) n [([], r)]).map _ ++ [] = _
  rw [List.append_nil]
  exact List.map_id' _
end FW
set_option maxRecDepth 100000
set_option maxHeartbeats 8000000
/-! # FX13: the law's own list of histories -/
namespace FW
open PySem L2
open Evl (Ex Ex.refl Ex.trans Ex.new Ex.mut EvT)
structure Itm where
  st : List (Ad × Nat)
  S : AR
  a : Addr
def stpD (s : Ad × Nat) : Dt := .tup [.str s.1, .str [s.2]]
def Itm.d (x : Itm) : Dt := .tup [.lst (x.st.map stpD), .obj x.a]
def Itm.p (x : Itm) : List (Ad × Nat) × List (Ad × List Nat) := (x.st, x.S)
/-- the growing list at L, over B -/
structure LateI (B : Hp) (L : Addr) (Y : List Itm) (vs : List V) (H : Hp) : Prop where
  ex : Ex B (hid H L)
  ls : H L = some (.lst vs)
  dq : DqA (hid H L) vs (Y.map Itm.d)
  ok : ∀ x ∈ Y, hid H L x.a = some (.dK (kvR x.S))
theorem LateI.mono {B : Hp} {L : Addr} {Y : List Itm} {vs : List V} {H H' : Hp} (h : LateI B L Y vs H) (e : Ex H H') : LateI B L Y vs H' := ⟨h.ex.trans (hid_mono e), e _ _ h.ls, h.dq.mono (hid_mono e), fun x hx => hid_mono e _ _ (h.ok x hx)⟩
theorem LateI.re {B B2 : Hp} {L : Addr} {Y : List Itm} {vs : List V} {H : Hp} (h : LateI B L Y vs H) (e : Ex (hid H L) B2) (hn : B2 L = none) : LateI B2 L Y vs (upd B2 L (.lst vs)) := by
  have eq := hid_upd_none (o := .lst vs) hn
  refine ⟨by rw [eq]; exact Ex.refl _, upd_same, ?_, fun x hx => ?_⟩
  · rw [eq]
    exact h.dq.mono e
  · rw [eq]
    exact e _ _ (h.ok x hx)
theorem LateI.back {B B2 : Hp} {L : Addr} {Y : List Itm} {vs : List V} {H : Hp} (h : LateI B2 L Y vs H) (e : Ex B B2) : LateI B L Y vs H := ⟨e.trans h.ex, h.ls, h.dq, h.ok⟩
theorem LateI.app {B : Hp} {L : Addr} {Y : List Itm} {vs : List V} {H H' : Hp} (h : LateI B L Y vs H) (e : Ex (hid H L) H') (hn : H' L = none) {v : V} {x : Itm} (dv : Dq H' v x.d) (hx : H' x.a = some (.dK (kvR x.S))) : LateI B L (Y ++ [x]) (vs ++ [v]) (upd H' L (.lst (vs ++ [v]))) := by
  have eq := hid_upd_none (o := .lst (vs ++ [v])) hn
  refine ⟨by rw [eq]; exact h.ex.trans e, upd_same, ?_, fun y hy => ?_⟩
  · rw [eq, List.map_append]
    exact (h.dq.mono e).app (.one dv)
  · rw [eq]
    rcases List.mem_append.mp hy with hy | hy
    · exact e _ _ (h.ok y hy)
    · rw [List.mem_singleton.mp hy]
      exact hx
theorem LateI.len {B : Hp} {L : Addr} {Y : List Itm} {vs : List V} {H : Hp} (h : LateI B L Y vs H) : vs.length = Y.length := by
  have z := h.dq.len
  rwa [List.length_map] at z
/-- the list at F -/
structure FoundI (F : Addr) (X : List Itm) (H : Hp) : Prop where
  ls : ∃ vs, H F = some (.lst vs) ∧ DqA H vs (X.map Itm.d)
  ok : ∀ x ∈ X, H x.a = some (.dK (kvR x.S))
theorem FoundI.mono {F : Addr} {X : List Itm} {H H' : Hp} (h : FoundI F X H) (e : Ex H H') : FoundI F X H' := ⟨by
  obtain ⟨vs, h1, h2⟩ := h.ls
  exact ⟨vs, e _ _ h1, h2.mono e⟩, fun x hx => e _ _ (h.ok x hx)⟩
theorem LateI.found {B : Hp} {L : Addr} {Y : List Itm} {vs : List V} {H : Hp} (h : LateI B L Y vs H) : FoundI L Y H := ⟨⟨vs, h.ls, h.dq.mono hid_sub⟩, fun x hx => hid_sub _ _ (h.ok x hx)⟩
/-- the values of the other addresses -/
def gOth (S : AR) : Dt → Dt
  | .str l => match valV (kvR S) (kS l) with
    | some (.str z) => .tup [.str l, .str z.cps.toList]
    | _ => .non
  | _ => .non
def pOth (a : List Nat) : Dt → Bool
  | .str l => !decide (l = a)
  | _ => true
theorem gOth_at {S : AR} {q : List Nat × List Nat} (nd : (S.map (·.1)).Nodup) (h : q ∈ S) : gOth S (.str q.1) = pairD q := by
  show (match valV (kvR S) (kS q.1) with | some (.str z) => Dt.tup [.str q.1, .str z.cps.toList] | _ => .non) = _
  rw [kvR_val nd h] <;> rfl
theorem others {S1 S2 : AR} {a r : List Nat} (nd : ((S1 ++ (a, r) :: S2).map (·.1)).Nodup) (ha : a ∉ (S1 ++ S2).map (·.1)) : ((((S1 ++ (a, r) :: S2).map (·.1)).map Dt.str).filter (pOth a)).map (gOth (S1 ++ (a, r) :: S2)) = (S1 ++ S2).map pairD := by
  have hne : ∀ q ∈ S1 ++ S2, pOth a (.str q.1) = true := fun q hq => by
    show (!decide (q.1 = a)) = true
    rw [decide_eq_false (fun e => ha (by rw [← e]; exact List.mem_map.mpr ⟨q, hq, rfl⟩))] <;> rfl
  have hf : (S1 ++ (a, r) :: S2).filter (fun q => pOth a (.str q.1)) = S1 ++ S2 := by
    rw [List.filter_append, List.filter_cons_of_neg (by show ¬ (!decide (a = a)) = true; simp), ← List.filter_append]
    exact List.filter_eq_self.mpr hne
  rw [List.map_map, List.filter_map, List.map_map]
  show ((S1 ++ (a, r) :: S2).filter (fun q => pOth a (.str q.1))).map _ = _
  rw [hf]
  refine List.map_congr_left fun q hq => ?_
  show gOth _ (.str q.1) = pairD q
  refine gOth_at nd ?_
  rcases List.mem_append.mp hq with z | z
  · exact List.mem_append_left _ z
  · exact List.mem_append_right _ (List.mem_cons_of_mem _ z)
abbrev LS (x y : V) (n : Nat) (F : Addr) (p4 p5 p6 p7 p8 p9 p10 p11 p12 p13 : Option V) : St := [some x, some y, some (.int (n : Int)), some (.ref F), p4, p5, p6, p7, p8, p9, p10, p11, p12, p13]
abbrev stepP (sp : Spec) (st : List (Ad × Nat)) (q : (Ad × Nat) × List (Ad × List Nat)) : List (Ad × Nat) × List (Ad × List Nat) := (st ++ [q.1], q.2)
section
variable {P : Program} {w : World} {K : PySem.W.Frag} {mg : Str → Option Value} {base : Heap} {Cb : Addr}
abbrev st_law_listed : Stmt := top 77
theorem sc_law_listed : FnScope ["_law_spec", "_law_start_z", "_law_cuts_z", "_law_found", "_law_many", "_law_late", "_law_steps", "_law_rooms", "_law_address", "_law_name", "_law_cutter", "_law_parts_here", "_law_more", "_law_one"] ["_law_spec", "_law_start_z", "_law_cuts_z"] (defScope st_law_listed) := ⟨rfl, rfl, rfl, by decide +kernel, rfl, by decide +kernel, by decide +kernel⟩
def R_law_listed (_ : Hp) (ds : List Dt) (C : Dt → Prop) : Prop := ∃ sp r n, ds = [Spec.d sp, .str r, .int ((n : Nat) : Int)] ∧ SpecL sp ∧ rmOf r sp.fc ∧ n ≤ 3 ∧ C = fun e => e = .lst ((runs (Ts sp) n [([], r)]).map fun h => .lst (h.map stpD))
theorem c_law_listed (T : Txt mg) (F : DefAt K mg "_law_listed" st_law_listed) (C__law_turns : Cal P w K mg base CX0 5 "_law_turns" ["_law_spec", "_law_rooms"] (spR R_law_turns)) (C__law_parts : Cal P w K mg base CX0 5 "_law_parts" P_lp (spR R_law_parts)) : Cal P w K mg base CX0 6 "_law_listed" ["_law_spec", "_law_start_z", "_law_cuts_z"] (spR R_law_listed) := by
  refine cal_of sc_law_listed F (fun _ _ _ ⟨_, _, _, e, _⟩ => by rw [e]; rfl) (fun _ _ _ _ _ _ us hl => match us, hl with | [_, _, _], _ => rfl) fun f cdv A outer s H hr E => ?_
  refine ⟨_, (pss_cons (ps_set (i := 3) sc_law_listed.nd rfl (Or.inl rfl) (pe_lst (pa_cons (pe_tup (pa_cons (pe_lst pa_nil) (pa_cons (pe_disp (pps_cons pe_str (pv 1) pps_nil) rfl rfl (fun z => by cases z) (by decide)) pa_nil))) pa_nil)))
      (pss_cons (ps_for PassesOwn.never rfl (pi_range1 rfl T.range (pa_cons (pv 2) pa_nil)) (pg_name (i := 4) sc_law_listed.nd rfl (Or.inl rfl)) (pss_cons (ps_set (i := 5) sc_law_listed.nd rfl (Or.inl rfl) (pe_lst pa_nil))
        (pss_cons (ps_for PassesOwn.never rfl (pi_listH (pv 3)) (pg_tup rfl (pgs_cons (pg_name (i := 6) sc_law_listed.nd rfl (Or.inl rfl)) (pgs_cons (pg_name (i := 7) sc_law_listed.nd rfl (Or.inr rfl)) pgs_nil))) (pss_one (ps_for PassesOwn.never rfl (pi_listH (pe_listDk T rfl (pv 7))) (pg_name (i := 8) sc_law_listed.nd rfl (Or.inr rfl)) (pss_one (ps_for PassesOwn.never rfl (pi_listH (pe_cal C__law_turns hr pass0 (pa_cons (pv 0) (pa_cons (pe_lst (pa_cons (pe_dget (FW.Room.hu1 hr) (pv 7) (pv 8) (fun _ _ => rfl)) pa_nil)) pa_nil)))) (pg_tup rfl (pgs_cons (pg_name (i := 9) sc_law_listed.nd rfl (Or.inl rfl)) (pgs_cons (pg_name (i := 10) sc_law_listed.nd rfl (Or.inl rfl)) pgs_nil))) (pss_cons (ps_set (i := 11) sc_law_listed.nd rfl (Or.inl rfl) (pe_cal C__law_parts hr pass0 (pa_cons (pv 0) (pa_cons (pe_dget (FW.Room.hu1 hr) (pv 7) (pv 8) (fun _ _ => rfl)) (pa_cons (pv 10) pa_nil)))))
              (pss_cons (ps_set (i := 12) sc_law_listed.nd rfl (Or.inl rfl) (pe_dictC T (pe_lock (pe_lc (own := [("_law_one", 13)]) (g := gName 13) rfl sc_law_listed.nd (pi_keys (pv 7)) (blkOk_by (own := [("_law_one", 13)]) (N := ["_law_spec", "_law_start_z", "_law_cuts_z", "_law_found", "_law_many", "_law_late", "_law_steps", "_law_rooms", "_law_address", "_law_name", "_law_cutter", "_law_parts_here", "_law_more", "_law_one"]) (sc := defScope st_law_listed) (by decide +kernel)) (fun _ _ _ _ _ => (pg_name (i := 13) sc_law_listed.nd rfl (Or.inl rfl))) (fun _ _ _ _ _ => pts_one (pt_hide (pt_cmpR op_ne (pv 13) (pv 8) (nomark _)))) (fun _ _ _ _ _ => pe_hide (pe_tup (pa_cons (pv 13) (pa_cons (pe_dget (FW.Room.hu1 hr) (pv 7) (pv 13) (fun _ _ => rfl)) pa_nil))))))))
              (pss_cons (ps_dput (FW.Room.hu1 hr) (pv 12) (pe_op op_addU (pv 8) pe_str) (pe_ix ix_U (pv 11) pe_int (fun _ _ => rfl)) rfl)
              (pss_cons (ps_dput (FW.Room.hu1 hr) (pv 12) (pe_op op_addU (pv 8) pe_str) (pe_ix ix_U (pv 11) pe_int (fun _ _ => rfl)) rfl)
              (pss_one (ps_expr (pe_bm PySem.F.plainAttrs_list PySem.F.slot_list_append PySem.F.type_list_append mt_append (pv 5) (pa_cons (pe_hide (pe_tup (pa_cons (pe_op op_addU (pv 6) (pe_lst (pa_cons (pe_tup (pa_cons (pv 8) (pa_cons (pv 10) pa_nil))) pa_nil))) (pa_cons (pv 12) pa_nil)))) pa_nil)))))))))))))
        (pss_one (ps_set (i := 3) sc_law_listed.nd rfl (Or.inl rfl) (pv 5))))))
      (pss_one (ps_ret (pe_lc (own := [("_law_steps", 6), ("_law_rooms", 7)]) (g := gTup K 2 (gCons (gName 6) (gCons (gName 7) gNil))) rfl sc_law_listed.nd (pi_list (pv 3)) (blkOk_by (own := [("_law_steps", 6), ("_law_rooms", 7)]) (N := ["_law_spec", "_law_start_z", "_law_cuts_z", "_law_found", "_law_many", "_law_late", "_law_steps", "_law_rooms", "_law_address", "_law_name", "_law_cutter", "_law_parts_here", "_law_more", "_law_one"]) (sc := defScope st_law_listed) (by decide +kernel)) (fun _ _ _ _ _ => (pg_tup rfl (pgs_cons (pg_name (i := 6) sc_law_listed.nd rfl (Or.inl rfl)) (pgs_cons (pg_name (i := 7) sc_law_listed.nd rfl (Or.inl rfl)) pgs_nil)))) (fun _ _ _ _ _ => pts_nilH) (fun _ _ _ _ _ => pe_hide (pv 6))))))), ?_⟩
  rintro ds C vs hd ⟨sp, r, n, rfl, ok, hrm, hn, rfl⟩ D kr kn
  obtain ⟨x, y, z, rfl, hx, hy, hz⟩ := dqa3 hd
  cases hz
  cases hy
  have l8 := ok.l8
  have c2 := ok.c2
  -- [([], {"": start})]
  refine ⟨by show 0 ≤ sizeLine; exact Nat.zero_le _, fun p1 h1 => ?_⟩
  refine ew_disp1 (l := []) (r := r) (EvD.to ed_str rfl) (xv (.str r)) fun p2 H2 e2 h2 => ?_
  refine ⟨by show 2 ≤ sizeLine; decide, fun p3 h3 => ?_⟩
  refine ⟨by show 1 ≤ sizeLine; decide, fun F0 h4 => ?_⟩
  have e02 : Ex H H2 := (Ex.new h1).trans e2
  have e0 : Ex H (upd (upd (upd H2 p2 (.dK (kvR [([], r)]))) p3 (.tup [.ref p1, .ref p2])) F0 (.lst [.ref p3])) := ((e02.trans (Ex.new h2)).trans (Ex.new h3)).trans (Ex.new h4)
  have f0 : FoundI F0 [⟨[], [([], r)], p2⟩] (upd (upd (upd H2 p2 (.dK (kvR [([], r)]))) p3 (.tup [.ref p1, .ref p2])) F0 (.lst [.ref p3])) := by
    have hp1 : (upd (upd (upd H2 p2 (.dK (kvR [([], r)]))) p3 (.tup [.ref p1, .ref p2])) F0 (.lst [.ref p3])) p1 = some (.lst []) := (e2.trans (((Ex.new h2).trans (Ex.new h3)).trans (Ex.new h4))) _ _ upd_same
    have hp3 : (upd (upd (upd H2 p2 (.dK (kvR [([], r)]))) p3 (.tup [.ref p1, .ref p2])) F0 (.lst [.ref p3])) p3 = some (.tup [.ref p1, .ref p2]) := (Ex.new h4) _ _ upd_same
    refine ⟨⟨_, upd_same, .cons (.tup hp3 (.cons (.lst hp1 .nil) (.cons (.obj _) .nil))) .nil⟩, fun x hx => ?_⟩
    rw [List.mem_singleton.mp hx]
    exact ((Ex.new h3).trans (Ex.new h4)) _ _ upd_same
  refine g_forB1 (B := H) (wb_range (xv (.int (n : Int))) ⟨by omega, by omega⟩) (fun m σ' H' => Ex H H' ∧ ∃ F0 X p4 p5 p6 p7 p8 p9 p10 p11 p12 p13, σ' = LS x (.str (FW.S r)) n F0 p4 p5 p6 p7 p8 p9 p10 p11 p12 p13 ∧ FoundI F0 X H' ∧ X.map Itm.p = itL sp r m) (fun H3 e3 => ⟨e0.trans e3, F0, _, none, none, none, none, none, none, none, none, none, none, rfl, f0.mono e3, rfl⟩) (fun i σ' H' h => h.1) ?_ ?_
  · rintro m z v σ' H3 H4 ez ⟨e3, F1, X, p4, p5, p6, p7, p8, p9, p10, p11, p12, p13, rfl, hF, hX⟩ e4 dv
    obtain ⟨hm, rfl⟩ := rngD_get ez
    cases dv
    have hm2 : m ≤ 2 := by omega
    have e4' := e3.trans e4
    have hF := hF.mono e4
    have good := (itL_good ok hrm m).1
    have xl : X.length ≤ 48 := by
      have z := itL_len ok hrm (n := m) (by omega)
      rw [← hX, List.length_map] at z
      exact z
    have gX : ∀ u0 ∈ X, GoodS sp.fc m u0.S ∧ u0.st.length = m := fun u0 hxi => good u0.p (by rw [← hX]; exact List.mem_map.mpr ⟨u0, hxi, rfl⟩)
    refine g_new fun L hL => ?_
    obtain ⟨fs, hfs, kfs⟩ := hF.ls
    have hidL : hid (upd H4 L (.lst [])) L = H4 := hid_upd_none hL
    refine g_forH (acc := []) (xs := X.map Itm.d) upd_same (by rw [hidL]; exact xv (.lst hfs kfs)) fun B eB hBL => ?_
    rw [hidL] at eB
    refine ⟨fun i σ' H' => ∃ Y vs p6 p7 p8 p9 p10 p11 p12 p13, σ' = LS x (.str (FW.S r)) n F1 (some (.int (m : Int))) (some (.ref L)) p6 p7 p8 p9 p10 p11 p12 p13 ∧ LateI B L Y vs H' ∧ Y.map Itm.p = stepL (Ts sp) ((X.take i).map Itm.p), ?_, ?_, ?_, ?_⟩
    · refine ⟨[], [], p6, p7, p8, p9, p10, p11, p12, p13, rfl, ⟨?_, upd_same, .nil, fun _ h => by cases h⟩, rfl⟩
      rw [hid_upd_none hBL]
      exact Ex.refl _
    · rintro i σ' H' ⟨Y, vs, _, _, _, _, _, _, _, _, _, hY, _⟩
      exact ⟨hY.ex, by rw [hY.ls]; simp⟩
    · rintro i zz v σ' H5 H6 ez ⟨Y, vs, p6, p7, p8, p9, p10, p11, p12, p13, rfl, hY, eY⟩ e6 dx
      obtain ⟨u0, hxi, rfl⟩ := map_at ez
      have hxm := List.mem_of_getElem? hxi
      obtain ⟨gS, gst⟩ := gX u0 hxm
      have hY := hY.mono e6
      refine gt_pair dx fun yv zv dy dz => ?_
      cases dz
      have tkX : stepL (Ts sp) ((X.take (i + 1)).map Itm.p) = stepL (Ts sp) ((X.take i).map Itm.p) ++ (succS (Ts sp) u0.S).map (stepP sp u0.st) := by
        rw [List.take_succ, hxi, List.map_append]
        show ((_ ++ _ : List _).flatMap _) = _
        rw [List.flatMap_append]
        show _ ++ (_ ++ []) = _
        rw [List.append_nil]
        rfl
      have totl : (stepL (Ts sp) ((X.take (i + 1)).map Itm.p)).length ≤ 288 := by
        have z : (stepL (Ts sp) ((X.take (i + 1)).map Itm.p)).length ≤ ((X.take (i + 1)).map Itm.p).length * 6 := len_flat fun h hh => by
          obtain ⟨xj, hxj, rfl⟩ := List.mem_map.mp hh
          have g := (gX xj (List.mem_of_mem_take hxj)).1
          rw [List.length_map]
          have z := succS_len (T := Ts sp) (Ts_len ok) xj.S
          rw [g.len] at z
          show (succS (Ts sp) xj.S).length ≤ 6
          omega
        rw [List.length_map, List.length_take] at z
        omega
      have nd := gS.pf.nodup
      have hdi : hid H6 L u0.a = some (.dK (kvR u0.S)) := hY.ex _ _ (eB _ _ (hF.ok u0 hxm))
      refine s_forH hY.ls (xs := (u0.S.map (·.1)).map Dt.str) (ed_listK (vw_var rfl) hdi (kvR_keys _)) fun B2 eB2 hB2 => ?_
      refine ⟨fun j σ' H' => ∃ Y vs p8 p9 p10 p11 p12 p13, σ' = LS x (.str (FW.S r)) n F1 (some (.int (m : Int))) (some (.ref L)) (some yv) (some (.ref u0.a)) p8 p9 p10 p11 p12 p13 ∧ LateI B2 L Y vs H' ∧ Y.map Itm.p ++ (succG (Ts sp) (u0.S.take j) (u0.S.drop j)).map (stepP sp u0.st) = stepL (Ts sp) ((X.take (i + 1)).map Itm.p), ?_, ?_, ?_, ?_⟩
      · refine ⟨Y, vs, p8, p9, p10, p11, p12, p13, rfl, hY.re eB2 hB2, ?_⟩
        rw [List.take_zero, List.drop_zero, succG_nil, eY, tkX]
      · rintro j σ' H' ⟨Y, vs, _, _, _, _, _, _, _, hY, _⟩
        exact ⟨hY.ex, by rw [hY.ls]; simp⟩
      · rintro j zz va σ' H7 H8 ez ⟨Y, vs, p8, p9, p10, p11, p12, p13, rfl, hY2, eY2⟩ e8 dva
        obtain ⟨a0, ha0, rfl⟩ := map_at ez
        obtain ⟨q, hq, rfl⟩ := map_at ha0
        obtain ⟨a, rr⟩ := q
        cases dva
        have hqm := List.mem_of_getElem? hq
        obtain ⟨rro, al⟩ := gS.rm _ hqm
        have al : a.length ≤ m := al
        have hY2 := hY2.mono e8
        have hS : u0.S = u0.S.take j ++ (a, rr) :: u0.S.drop (j + 1) := by
          have z := List.getElem?_eq_some_iff.mp hq
          obtain ⟨hj, e⟩ := z
          rw [← e, List.getElem_cons_drop, List.take_append_drop]
        have dj : u0.S.drop j = (a, rr) :: u0.S.drop (j + 1) := by
          obtain ⟨hj, e⟩ := List.getElem?_eq_some_iff.mp hq
          rw [← e, List.getElem_cons_drop]
        have tj : u0.S.take (j + 1) = u0.S.take j ++ [(a, rr)] := by
          rw [List.take_succ, hq] <;> rfl
        have hdi2 : hid H8 L u0.a = some (.dK (kvR u0.S)) := hY2.ex _ _ (eB2 _ _ hdi)
        have pf' : PF (u0.S.take j ++ (a, rr) :: u0.S.drop (j + 1)) := by
          rw [← hS]
          exact gS.pf
        obtain ⟨fr0, fr1, fra, frn⟩ := pf'.fresh
        have tOne : turnsL sp [rr] = (turnsK sp rr).map (turnD rr) := by
          unfold turnsL
          simp
        have hvr : valV (kvR u0.S) (kS a) = some (.str (FW.S rr)) := kvR_val nd hqm
        have eH8 : Ex H (hid H8 L) := ((e4'.trans eB).trans hY.ex).trans (eB2.trans hY2.ex)
        have restj : (succG (Ts sp) (u0.S.take j) (u0.S.drop j)).map (stepP sp u0.st) = ((Ts sp rr).map fun t => (u0.st ++ [(a, t.1)], (u0.S.take j ++ u0.S.drop (j + 1)) ++ [(a ++ [48], t.2.1), (a ++ [49], t.2.2)])) ++ (succG (Ts sp) (u0.S.take (j + 1)) (u0.S.drop (j + 1))).map (stepP sp u0.st) := by
          rw [dj, tj]
          show ((Ts sp rr).map _ ++ _).map _ = _
          rw [List.map_append, List.map_map]
          rfl
        refine s_forH hY2.ls (xs := (turnsK sp rr).map (turnD rr)) ?_ fun B3 eB3 hB3 => ?_
        · rw [← tOne]
          exact ed_call (C := fun e => e = .lst (turnsL sp [rr])) (a2 (xv (hx.mono eH8)) (xL (a1 (ed_dget (vw_var rfl) (xv (.str a)) hdi2 hvr (.str rr))))) fun H1 e => ⟨sp, [rr], rfl, ⟨ok.l8, by omega⟩, by simp, rfl⟩
        refine ⟨fun l σ' H' => ∃ Y vs p9 p10 p11 p12 p13, σ' = LS x (.str (FW.S r)) n F1 (some (.int (m : Int))) (some (.ref L)) (some yv) (some (.ref u0.a)) (some (.str (FW.S a))) p9 p10 p11 p12 p13 ∧ LateI B3 L Y vs H' ∧ Y.map Itm.p ++ ((((Ts sp rr).drop l).map fun t => (u0.st ++ [(a, t.1)], (u0.S.take j ++ u0.S.drop (j + 1)) ++ [(a ++ [48], t.2.1), (a ++ [49], t.2.2)])) ++ (succG (Ts sp) (u0.S.take (j + 1)) (u0.S.drop (j + 1))).map (stepP sp u0.st)) = stepL (Ts sp) ((X.take (i + 1)).map Itm.p), ?_, ?_, ?_, ?_⟩
        · refine ⟨Y, vs, p9, p10, p11, p12, p13, rfl, hY2.re eB3 hB3, ?_⟩
          rw [List.drop_zero, ← restj, eY2]
        · rintro l σ' H' ⟨Y, vs, _, _, _, _, _, _, hY, _⟩
          exact ⟨hY.ex, by rw [hY.ls]; simp⟩
        · rintro l zz vt σ' H9 H10 ez ⟨Y, vs, p9, p10, p11, p12, p13, rfl, hY3, eY3⟩ e10 dvt
          obtain ⟨k, hk, rfl⟩ := map_at ez
          have hkm := List.mem_of_getElem? hk
          obtain ⟨two, r0, r1⟩ := turnsL_two ok rro hkm
          have hY3 := hY3.mono e10
          refine gt_pair (a := .str rr) (b := .str [k]) dvt fun y9 z9 d9 d10 => ?_
          cases d9
          cases d10
          have eH10 : Ex (hid H8 L) (hid H10 L) := eB3.trans hY3.ex
          have hdi3 : hid H10 L u0.a = some (.dK (kvR u0.S)) := eH10 _ _ hdi2
          have hx10 := hx.mono (eH8.trans eH10)
          have yl : Y.length ≤ 288 := by
            have z := congrArg List.length eY3
            rw [List.length_append, List.length_map] at z
            omega
          have vl := hY3.len
          have sl : u0.S.length ≤ 3 := by
            rw [gS.len]
            omega
          -- parts
          refine g_asgD (d := .lst [.str (part0 sp rr k), .str (part1 sp rr k)]) (EvD.to (ed_call (C := fun d => d = .lst ((rp sp rr k).map Dt.str)) (a3 (xv (hx10.mono hid_sub)) (ed_dget (vw_var rfl) (xv (.str a)) (hid_sub _ _ hdi3) hvr (.str rr)) (xv (.str [k]))) fun H1 e => ⟨sp, rr, k, rfl, by omega, rro.1, ok.okc, rfl⟩) (by rw [two] <;> rfl)) fun vp H11 e11 dvp => ?_
          -- the others
          refine g_newD (S := u0.S.take j ++ u0.S.drop (j + 1)) (ec_lock (e11 _ _ (hid_sub _ _ hdi3)) fun od H12 e12 => EvD.to (ed_lcF (pOth a) (gOth u0.S) (ei_keys (vw_var rfl) upd_same (kvR_keys u0.S)) (by rw [List.length_map, List.length_map]; omega) (fun _ => rfl) fun i2 z2 v2 B2' ez2 eB2' dz2 => ?_) ?_) frn fun pm H13 e13 hpm => ?_
          · obtain ⟨l2, hl2, rfl⟩ := map_at ez2
            obtain ⟨q2, hq2, rfl⟩ := map_at hl2
            cases dz2
            have hq2m := List.mem_of_getElem? hq2
            refine ⟨EvB.to (tn (xv (.str q2.1)) (xv (.str a))) rfl, fun _ => ?_⟩
            rw [gOth_at nd hq2m]
            exact xT (a2 (xv (.str q2.1)) (ed_dgetF (vw_var rfl) (xv (.str q2.1)) (eB2' _ _ upd_same) (kvR_val nd hq2m) (.str q2.2)))
          · have z := others (S1 := u0.S.take j) (S2 := u0.S.drop (j + 1)) (a := a) (r := rr) (by rw [← hS]; exact nd) fra
            rw [← hS] at z
            rw [z]
          have olen : (kvR (u0.S.take j ++ u0.S.drop (j + 1))).length ≤ 10 := by
            unfold kvR
            rw [List.length_map, List.length_append, List.length_take, List.length_drop]
            omega
          -- the two parts
          refine g_dput (C := fun d => d = .str (part0 sp rr k)) (xi (xv (dvp.mono (e13.trans (Ex.new hpm))))) (vw_var rfl) (l := a ++ [48]) (xa (xv (.str a)) (EvD.to ed_str rfl) rfl (by show List.length _ ≤ _; rw [List.length_append]; show a.length + 1 ≤ _; omega)) upd_same (by omega) fun v14 d14 H14 e14 ed dv14 => ?_
          subst ed
          cases dv14
          rw [kvR_put fr0]
          have x14 : Ex H13 H14 := (Ex.new hpm).trans e14
          have x14' : Ex H13 (upd H14 pm (.dK (kvR (u0.S.take j ++ u0.S.drop (j + 1) ++ [(a ++ [48], part0 sp rr k)])))) := ex_put hpm x14
          have fr1' : a ++ [49] ∉ List.map (fun q : List Nat × List Nat => q.1) (u0.S.take j ++ u0.S.drop (j + 1) ++ [(a ++ [48], part0 sp rr k)]) := by
            rw [List.map_append, List.mem_append, not_or]
            refine ⟨fr1, fun z => ?_⟩
            have z : a ++ [49] = a ++ [48] := List.mem_singleton.mp z
            simp at z
          have olen2 : (kvR (u0.S.take j ++ u0.S.drop (j + 1) ++ [(a ++ [48], part0 sp rr k)])).length ≤ 20 := by
            unfold kvR at olen ⊢
            rw [List.length_map] at olen ⊢
            rw [List.length_append]
            show _ + 1 ≤ 20
            omega
          refine g_dput (C := fun d => d = .str (part1 sp rr k)) (xi (xv (dvp.mono (e13.trans x14')))) (vw_var rfl) (l := a ++ [49]) (xa (xv (.str a)) (EvD.to ed_str rfl) rfl (by show List.length _ ≤ _; rw [List.length_append]; show a.length + 1 ≤ _; omega)) upd_same (by omega) fun v15 d15 H15 e15 ed dv15 => ?_
          subst ed
          cases dv15
          rw [kvR_put fr1']
          have x15 : Ex H13 (upd H15 pm (.dK (kvR (u0.S.take j ++ u0.S.drop (j + 1) ++ [(a ++ [48], part0 sp rr k)] ++ [(a ++ [49], part1 sp rr k)])))) := ex_put hpm (x14'.trans e15)
          have x10 : Ex H10 (upd H15 pm (.dK (kvR (u0.S.take j ++ u0.S.drop (j + 1) ++ [(a ++ [48], part0 sp rr k)] ++ [(a ++ [49], part1 sp rr k)])))) := (e11.trans e13).trans x15
          have hY4 := hY3.mono x10
          have hpL : pm ≠ L := fun z => by
            have w := (e11.trans e13) _ _ hY3.ls
            rw [← z, hpm] at w
            cases w
          have dyy := (dy.mono (((eB2.trans hY2.ex).trans eH10))).mono (hid_mono x10)
          refine s_appendH (C := fun d => d = Itm.d ⟨u0.st ++ [(a, k)], u0.S.take j ++ u0.S.drop (j + 1) ++ [(a ++ [48], part0 sp rr k)] ++ [(a ++ [49], part1 sp rr k)], pm⟩) (vv_var rfl) hY4.ls (by omega) (xT (a2 (xa (a := .lst (u0.st.map stpD)) (b := .lst [stpD (a, k)]) (c := .lst ((u0.st ++ [(a, k)]).map stpD)) (xv dyy) (xL (a1 (xT (a2 (xv (.str a)) (xv (.str [k])))))) (by rw [List.map_append] <;> rfl) (by show List.length _ ≤ _; rw [List.length_map, List.length_append, gst]; show m + 1 ≤ _; omega)) (xv (.obj pm)))) fun v16 d16 H16 e16 hn16 ed dv16 => ?_
          subst ed
          refine ⟨Y ++ [⟨u0.st ++ [(a, k)], u0.S.take j ++ u0.S.drop (j + 1) ++ [(a ++ [48], part0 sp rr k)] ++ [(a ++ [49], part1 sp rr k)], pm⟩], _, _, _, _, _, _, rfl, hY4.app e16 hn16 dv16 (e16 _ _ (by rw [hid_ne hpL]; exact upd_same)), ?_⟩
          rw [← eY3, List.map_append, List.append_assoc]
          congr 1
          have hT : (Ts sp rr)[l]? = some (k, part0 sp rr k, part1 sp rr k) := by
            unfold Ts
            rw [List.getElem?_map, hk] <;> rfl
          obtain ⟨hl, eT⟩ := List.getElem?_eq_some_iff.mp hT
          rw [← List.getElem_cons_drop (h := hl), eT]
          show [_] ++ _ = (_ :: _) ++ _
          show (_ :: _) = (_ :: _)
          congr 1
          show (_, _) = (_, _)
          rw [List.append_assoc] <;> rfl
        · rintro σ' H9 ⟨Y, vs, p9, p10, p11, p12, p13, rfl, hY3, eY3⟩
          refine ⟨Y, vs, _, _, _, _, _, _, rfl, hY3.back (hY2.ex.trans eB3), ?_⟩
          rw [← eY3]
          have e : (Ts sp rr).drop ((turnsK sp rr).map (turnD rr)).length = [] := by
            rw [List.length_map]
            exact List.drop_of_length_le (by unfold Ts; rw [List.length_map]; exact Nat.le_refl _)
          rw [e]
          rfl
      · rintro σ' H7 ⟨Y, vs, p8, p9, p10, p11, p12, p13, rfl, hY2, eY2⟩
        refine ⟨Y, vs, _, _, _, _, _, _, _, _, rfl, hY2.back (hY.ex.trans eB2), ?_⟩
        rw [← eY2]
        have e : u0.S.drop ((u0.S.map (·.1)).map Dt.str).length = [] := by
          rw [List.length_map, List.length_map]
          exact List.drop_of_length_le (Nat.le_refl _)
        rw [e]
        show _ = _ ++ []
        rw [List.append_nil]
    · rintro σ' H5 ⟨Y, vs, p6, p7, p8, p9, p10, p11, p12, p13, rfl, hY, eY⟩
      rw [List.length_map, List.take_length, hX] at eY
      refine ⟨.ref L, rfl, ((e4'.trans eB).trans hY.ex).trans hid_sub, L, Y, _, _, _, _, _, _, _, _, _, _, rfl, hY.found, eY⟩
  · rintro σ' H3 ⟨e3, F1, X, p4, p5, p6, p7, p8, p9, p10, p11, p12, p13, rfl, hF, hX⟩
    rw [rngD_len] at hX
    have en : (n : Int).toNat = n := by omega
    rw [en] at hX
    have xl : X.length ≤ 48 := by
      have z := itL_len ok hrm (n := n) (by omega)
      rw [← hX, List.length_map] at z
      exact z
    obtain ⟨fs, hfs, kfs⟩ := hF.ls
    refine rtD (EvD.to (ed_lcMP (fun d => match d with | .tup [a, _] => a | _ => .non) (ei_listD (xv (.lst hfs kfs))) (by rw [List.length_map]; omega) (fun z hz => by
      obtain ⟨u0, _, rfl⟩ := List.mem_map.mp hz
      exact ⟨_, _, rfl⟩) (fun _ _ => rfl) fun i a b v w B ez eB da db => xv da) ?_) e3 kr
    rw [← itL_runs, ← hX, List.map_map, List.map_map, List.map_map]
    rfl
end
end FW
set_option maxRecDepth 100000
set_option maxHeartbeats 4000000
/-! # PM8: the rows, each sorted, all sorted: the order is one of rows -/
namespace FW
open PySem PySem.W PyProof.Rows
abbrev Rw8 := List (Ad × Nat)
def enc1 (b : Ad × Nat) : PyData := .tuple [.str (FW.S b.1), .str (FW.S [b.2])]
def enc2 (h : Rw8) : PyData := .list (h.map enc1)
theorem toks1 (b : Ad × Nat) : keyToks (enc1 b) = [.inl 1, .inr b.1, .inl 1, .inr [b.2], .inl 0] := by
  unfold enc1
  simp [keyToks, keyToksAll, FW.S]
theorem toks1_inj {b b' : Ad × Nat} (h : keyToks (enc1 b) = keyToks (enc1 b')) : b = b' := by
  rw [toks1, toks1] at h
  simp at h
  exact Prod.ext h.1 h.2
theorem toksA_inj : ∀ {h h' : Rw8}, keyToksAll (h.map enc1) = keyToksAll (h'.map enc1) → h = h'
  | [], [], _ => rfl
  | [], b :: h', e => by
    have e : [Sum.inl 0] = (Sum.inl 1 :: (keyToks (enc1 b) ++ keyToksAll (h'.map enc1)) : List (Int ⊕ List Nat)) := by
      rw [← toks_all_cons]
      exact e
    simp at e
  | b :: h, [], e => by
    have e : (Sum.inl 1 :: (keyToks (enc1 b) ++ keyToksAll (h.map enc1)) : List (Int ⊕ List Nat)) = [Sum.inl 0] := by
      rw [← toks_all_cons]
      exact e
    simp at e
  | b :: h, b' :: h', e => by
    have e : (Sum.inl 1 :: (keyToks (enc1 b) ++ keyToksAll (h.map enc1)) : List (Int ⊕ List Nat)) = Sum.inl 1 :: (keyToks (enc1 b') ++ keyToksAll (h'.map enc1)) := by
      rw [← toks_all_cons, ← toks_all_cons]
      exact e
    obtain ⟨_, e⟩ := List.cons.inj e
    obtain ⟨e1, e2⟩ := List.append_inj e (by rw [toks1, toks1] <;> rfl)
    rw [toks1_inj e1, toksA_inj e2]
theorem toks2_inj {h h' : Rw8} (e : keyToks (enc2 h) = keyToks (enc2 h')) : h = h' := toksA_inj (by
  unfold enc2 at e
  rw [keyToks, keyToks] at e
  exact e)
theorem dle_anti {β : Type} {enc : β → PyData} (inj : ∀ b b', keyToks (enc b) = keyToks (enc b') → b = b') (a b : β) (h1 : dataLe false enc a b = true) (h2 : dataLe false enc b a = true) : a = b := by
  refine inj a b ((listOrd itemOrd).total _ _ ?_ ?_)
  · have z : (!(listOrd itemOrd).blt (keyToks (enc a)) (keyToks (enc b))) = true := h2
    rwa [Bool.not_eq_true'] at z
  · have z : (!(listOrd itemOrd).blt (keyToks (enc b)) (keyToks (enc a))) = true := h1
    rwa [Bool.not_eq_true'] at z
theorem dle_total {β : Type} (enc : β → PyData) : TotalLe (dataLe false enc) := sortLe_total _ _ _
def srt (h : Rw8) : Rw8 := h.mergeSort (dataLe false enc1)
theorem srt_perm (h : Rw8) : (srt h).Perm h := List.mergeSort_perm _ _
theorem srt_eq (h h' : Rw8) (p : h.Perm h') : srt h = srt h' :=
  List.Perm.eq_of_pairwise (le := fun a b => dataLe false enc1 a b = true) (fun a b _ _ h1 h2 => dle_anti (fun _ _ => toks1_inj) a b h1 h2) (sort_pairwise (dle_total enc1) h) (sort_pairwise (dle_total enc1) h') (((srt_perm h).trans p).trans (srt_perm h').symm)
/-- all rows sorted -/
def allSrt (L : List Rw8) : List Rw8 := (L.map srt).mergeSort (dataLe false enc2)
theorem allSrt_len (L : List Rw8) : (allSrt L).length = L.length := by
  unfold allSrt
  rw [(List.mergeSort_perm _ _).length_eq, List.length_map]
theorem unlike_rows {sp : Spec} (hc : sp.ct.Pairwise (· < ·)) (n : Nat) (r : List Nat) : (unlike (allSrt (runs (Ts sp) n [([], r)]))).length = Fv g1 sp n r := by
  obtain ⟨D, nd, dl, dm⟩ := rows_of (T := Ts sp) (Ts_key sp hc) srt_perm srt_eq n [] r
  rw [← trees_len sp n [] r, ← dl]
  refine unlike_len (le := fun a b => dataLe false enc2 a b = true) (fun a b h1 h2 => dle_anti (fun _ _ => toks2_inj) a b h1 h2) (sort_pairwise (dle_total enc2) _) nd fun c => ?_
  rw [← dm c]
  exact (List.mergeSort_perm _ _).mem_iff
/-! ### alike, shallow, of plain signs -/
theorem alike1 (b b' : Ad × Nat) : alike (enc1 b) (enc1 b') = true := by
  unfold enc1
  simp [alike, alikeAll]
theorem alikeA : ∀ h h' : Rw8, alikeAll (h.map enc1) (h'.map enc1) = true
  | [], _ => by simp [alikeAll]
  | _ :: _, [] => by simp [alikeAll]
  | b :: h, b' :: h' => by
    show alikeAll (enc1 b :: h.map enc1) (enc1 b' :: h'.map enc1) = true
    rw [alikeAll, alike1, alikeA h h'] <;> rfl
theorem alike2 (h h' : Rw8) : alike (enc2 h) (enc2 h') = true := by
  unfold enc2
  rw [alike]
  exact alikeA h h'
theorem depth1 (b : Ad × Nat) : (enc1 b).depth = 1 := by
  unfold enc1
  simp [PyData.depth, PyData.depthAll]
theorem depthA : ∀ h : Rw8, PyData.depthAll (h.map enc1) ≤ 1
  | [] => by simp [PyData.depthAll]
  | b :: h => by
    show PyData.depthAll (enc1 b :: h.map enc1) ≤ 1
    rw [PyData.depthAll, depth1]
    have := depthA h
    omega
theorem depth2 (h : Rw8) : (enc2 h).depth ≤ 2 := by
  unfold enc2
  rw [PyData.depth]
  have := depthA h
  omega
def RowOk (h : Rw8) : Prop := ∀ s ∈ h, (∀ c ∈ s.1, c < 0x110000) ∧ s.2 < 0x110000
theorem RowOk.srt {h : Rw8} (k : RowOk h) : RowOk (srt h) := fun s hs => k s ((srt_perm h).mem_iff.mp hs)
theorem strOk_S {l : List Nat} (h : ∀ c ∈ l, c < 0x110000) : PyData.strOk (FW.S l) = true := by
  unfold PyData.strOk FW.S
  simp only [List.all_toArray, List.all_eq_true, decide_eq_true_eq]
  exact h
theorem lay1 {b : Ad × Nat} (h : (∀ c ∈ b.1, c < 0x110000) ∧ b.2 < 0x110000) : (enc1 b).canLay0 = true := by
  unfold enc1
  rw [PyData.canLay0, PyData.canLayAll0, PyData.canLayAll0, PyData.canLayAll0, PyData.canLay0, PyData.canLay0, strOk_S h.1, strOk_S (l := [b.2]) (fun c hc => by rw [List.mem_singleton.mp hc]; exact h.2)] <;> rfl
theorem layA : ∀ {h : Rw8}, RowOk h → PyData.canLayAll0 (h.map enc1) = true
  | [], _ => by simp [PyData.canLayAll0]
  | b :: h, k => by
    show PyData.canLayAll0 (enc1 b :: h.map enc1) = true
    rw [PyData.canLayAll0, lay1 (k b (List.mem_cons_self ..)), layA fun s hs => k s (List.mem_cons_of_mem _ hs)] <;> rfl
theorem shaped2 {h : Rw8} (k : RowOk h) : SeqAt.shaped (enc2 h) = true := by
  unfold SeqAt.shaped
  have d := depth2 h
  have l : (enc2 h).canLay0 = true := by
    unfold enc2
    rw [PyData.canLay0]
    exact layA k
  rw [l, decide_eq_true (by omega : (enc2 h).depth ≤ 64)] <;> rfl
theorem eqv1 (b b' : Ad × Nat) : PyData.eqv (enc1 b) (enc1 b') = decide (b = b') := by
  unfold enc1
  simp only [PyData.eqv, PyData.eqvAll, Bool.and_true]
  by_cases h : b = b'
  · subst h
    simp
  · rw [decide_eq_false h]
    by_cases h1 : b.1 = b'.1
    · have h2 : b.2 ≠ b'.2 := fun e => h (Prod.ext h1 e)
      have : ¬ FW.S [b.2] = FW.S [b'.2] := fun e => h2 (by simpa using S_inj e)
      simp [this]
    · have : ¬ FW.S b.1 = FW.S b'.1 := fun e => h1 (S_inj e)
      simp [this]
theorem eqvA : ∀ h h' : Rw8, PyData.eqvAll (h.map enc1) (h'.map enc1) = decide (h = h')
  | [], [] => by simp [PyData.eqvAll]
  | [], _ :: _ => by simp [PyData.eqvAll]
  | _ :: _, [] => by simp [PyData.eqvAll]
  | b :: h, b' :: h' => by
    show PyData.eqvAll (enc1 b :: h.map enc1) (enc1 b' :: h'.map enc1) = _
    rw [PyData.eqvAll, eqv1, eqvA h h']
    by_cases e1 : b = b' <;> by_cases e2 : h = h' <;> simp [e1, e2]
theorem eqv2 (h h' : Rw8) : PyData.eqv (enc2 h) (enc2 h') = decide (h = h') := by
  unfold enc2
  rw [PyData.eqv]
  exact eqvA h h'
/-! ### the rows' signs -/
theorem runs_ok {R κ : Type} {T : R → List (κ × R × R)} {Pa : Ad → Prop} {Pk : κ → Prop} (ha : ∀ a, Pa a → Pa (a ++ [48]) ∧ Pa (a ++ [49])) (hk : ∀ r t, t ∈ T r → Pk t.1) : ∀ (n : Nat) (S : List (Ad × R)), (∀ q ∈ S, Pa q.1) → ∀ h ∈ runs T n S, ∀ s ∈ h, Pa s.1 ∧ Pk s.2
  | 0, S, _, h, hm, s, hs => by
    have e : h = [] := List.mem_singleton.mp hm
    rw [e] at hs
    cases hs
  | n + 1, S, hS, h, hm, s, hs => by
    obtain ⟨q, hq, hm⟩ := List.mem_flatMap.mp hm
    obtain ⟨h', hh, rfl⟩ := List.mem_map.mp hm
    obtain ⟨a, r, t, S', p1, ht, e, p2⟩ := succS_of hq
    have pa := hS _ (p1.mem_iff.mpr (List.mem_cons_self ..))
    rcases List.mem_cons.mp hs with rfl | hs
    · rw [e]
      exact ⟨pa, hk r t ht⟩
    · refine runs_ok ha hk n q.2 (fun z hz => ?_) h' hh s hs
      rcases List.mem_cons.mp (p2.mem_iff.mp hz) with rfl | hz
      · exact (ha a pa).1
      · rcases List.mem_cons.mp hz with rfl | hz
        · exact (ha a pa).2
        · exact hS z (p1.mem_iff.mpr (List.mem_cons_of_mem _ hz))
theorem runs_rowOk {sp : Spec} (hc : ∀ c ∈ sp.ct, c < 0x110000) (n : Nat) (r : List Nat) : ∀ h ∈ runs (Ts sp) n [([], r)], RowOk h := fun h hh s hs =>
  runs_ok (T := Ts sp) (Pa := fun a => ∀ c ∈ a, c < 0x110000) (Pk := fun k => k < 0x110000) (fun a pa => ⟨fun c hc' => by
    rcases List.mem_append.mp hc' with z | z
    · exact pa c z
    · rw [List.mem_singleton.mp z]
      decide, fun c hc' => by
    rcases List.mem_append.mp hc' with z | z
    · exact pa c z
    · rw [List.mem_singleton.mp z]
      decide⟩) (fun r t ht => by
    obtain ⟨k, hk, rfl⟩ := Ts_mem ht
    exact hc k (List.mem_filter.mp hk).1) n _ (fun q hq c hc' => by
    rw [List.mem_singleton.mp hq] at hc'
    cases hc') h hh s hs
theorem allSrt_ok {L : List Rw8} (h : ∀ x ∈ L, RowOk x) : ∀ x ∈ allSrt L, RowOk x := fun x hx => by
  obtain ⟨y, hy, rfl⟩ := List.mem_map.mp ((List.mergeSort_perm _ _).mem_iff.mp hx)
  exact (h y hy).srt
end FW
set_option maxRecDepth 100000
set_option maxHeartbeats 4000000
/-! # FX14: sorted of data, any order of rows; rows compared -/
namespace FW
open PySem L2
open PySem.W (EachIs alike Sortable AllAlike dataLe sorted_data)
open Evl (Ex Ex.refl Ex.trans Ex.new Ex.mut EvT)
section
variable {β : Type} {toD : β → Dt} {enc : β → PyData}
def rSortB (toD : β → Dt) (enc : β → PyData) : List V → Hp → VK → Prop := fun vs H Q => ∃ (x : V) (bs : List β), vs = [x] ∧ Dq H x (.lst (bs.map toD)) ∧ bs.length ≤ 100000 ∧ ∀ p ys, H p = none → DqA H ys ((bs.mergeSort (dataLe false enc)).map toD) → Q (.ref p) (upd H p (.lst ys))
structure SortB (toD : β → Dt) (enc : β → PyData) : Prop where
  dp : ∀ {K : PySem.W.Frag} {H : Hp} {v : V} {b : β}, Dq H v (toD b) → Dp K H v (enc b)
  al : ∀ b b', alike (enc b) (enc b') = true
  sk : ∀ bs : List β, Sortable (bs.map enc)
  dep : ∀ b, (enc b).depth ≤ 10
theorem each_of {H : Hp} : ∀ {bs : List β} {xs : List V} {its : List Value}, Vals xs its → DqA H xs (bs.map toD) → EachIs (fun v b => ∃ y, RelV y v ∧ Dq H y (toD b)) its bs
  | [], xs, its, r, k => by
    have k : DqA H xs [] := k
    cases k
    cases r
    exact .nil
  | b :: bs, xs, its, r, k => by
    have k : DqA H xs (toD b :: bs.map toD) := k
    cases k with
    | cons h k =>
      cases r with
      | cons h1 r => exact .cons ⟨_, h1, h⟩ (each_of r k)
theorem of_each {H : Hp} : ∀ {bs : List β} {its : List Value}, EachIs (fun v b => ∃ y, RelV y v ∧ Dq H y (toD b)) its bs → ∃ xs, Vals xs its ∧ DqA H xs (bs.map toD)
  | _, _, .nil => ⟨[], .nil, .nil⟩
  | _, _, .cons ⟨y, h1, h2⟩ t => by
    obtain ⟨xs, r, k⟩ := of_each t
    exact ⟨y :: xs, .cons h1 r, .cons h2 k⟩
section
variable {X : Cx}
theorem cr_sortB (hu : X.A.units + 64 < cLine) (B : SortB toD enc) : CallR X (.builtin "sorted") (rSortB toD enc) := by
  intro pins s σ H vs us Q I r h
  obtain ⟨x, bs, rfl, hd, hlen, q⟩ := h
  obtain ⟨a, xs, rfl, ha, ka⟩ := dq_lst hd
  obtain ⟨its, rv, hl, hz⟩ := I.list (sqL_of (K := X.K) ha)
  rw [Vals.ref1 r]
  have e := each_of (toD := toD) rv ka
  refine sorted_data (vs := its) (bs := bs) (enc := enc) (R := fun v b => ∃ y, RelV y v ∧ Dq H y (toD b)) hl.isList e (e.mono fun v b ⟨y, h1, h2⟩ => Dp.reads I _ y v (B.dp h2) h1) (PySem.W.AllAlike.of B.al) (B.sk bs) (szl hlen) (fun b _ => ?_) fun out ho eo => ?_
  · have := B.dep b
    omega
  · obtain ⟨ys, rys, kys⟩ := of_each eo
    obtain ⟨ep, he'⟩ := PyProof.Rows.sortedAll_at s.heap its out.toArray
    have hyl : ys.length ≤ sizeLine := by
      rw [rys.length, ho]
      exact szl hlen
    exact ⟨.ref _, upd H (s.heap.objs.size + 1) (.lst ys), I.laid (t' := s.toks) (fun _ _ => PyProof.Rows.sortedAll_old) (Nat.le_succ _) ⟨hyl, out, ep, rys, he'⟩, rfl, q _ ys (I.hok.fresh (Nat.le_succ _)) kys⟩
variable {a : Expr} {ta : TE} {p pos : Pos}
theorem pe_sortB (hu : X.A.units + 64 < cLine) (B : SortB toD enc) (T : Txt X.mg) (ha : PE X a ta) (hg : Gl X "sorted" := by rfl) (hs : starEach (a :: []) X.env = (false, eval a X.env) :: starEach [] X.env := by rfl) (hpl : (backTo pos (starEach [] X.env)).any (·.1) = false := by rfl) : PE X (.Call (.Name "sorted" p) [a] [] pos) (tCB (rSortB toD enc) (tCons ta tNil)) :=
  pe_callB (cr_sortB hu B) hg T.sorted PyProof.Rows.boot_sorted (pa_cons ha pa_nil hs) (by decide) (by decide) hs hpl
end
section
variable {σ : L2.St} {H : Hp} {ta : TE}
theorem ed_sortB {bs : List β} (ha : EvD ta σ H (.lst (bs.map toD))) (hl : bs.length ≤ 100000) : EvD (tCB (rSortB toD enc) (tCons ta tNil)) σ H (.lst ((bs.mergeSort (dataLe false enc)).map toD)) := ec_cbD (a1 ha) fun vs H1 _ k Q q => by
  obtain ⟨x, rfl, hx⟩ := dqa1 k
  exact ⟨x, bs, rfl, hx, hl, fun p ys np ky => q _ _ _ (Ex.new np) rfl (.lst upd_same (ky.mono (Ex.new np)))⟩
end
end
/-! ### rows -/
def rwD (h : Rw8) : Dt := .lst (h.map stpD)
theorem dp1 {K : PySem.W.Frag} {H : Hp} {v : V} {b : Ad × Nat} (h : Dq H v (stpD b)) : Dp K H v (enc1 b) := by
  obtain ⟨t, xs, rfl, ht, hk⟩ := dq_tup h
  obtain ⟨x, y, rfl, hx, hy⟩ := dqa2 hk
  cases hx
  cases hy
  exact .tup (sqT_of ht) (.cons (.str _) (.cons (.str _) .nil))
theorem dpA {K : PySem.W.Frag} {H : Hp} : ∀ {h : Rw8} {vs : List V}, DqA H vs (h.map stpD) → DpAll K H vs (h.map enc1)
  | [], vs, k => by
    have k : DqA H vs [] := k
    cases k
    exact .nil
  | b :: h, vs, k => by
    have k : DqA H vs (stpD b :: h.map stpD) := k
    cases k with
    | cons h1 k => exact .cons (dp1 h1) (dpA k)
theorem dp2 {K : PySem.W.Frag} {H : Hp} {v : V} {h : Rw8} (k : Dq H v (rwD h)) : Dp K H v (enc2 h) := by
  obtain ⟨a, xs, rfl, ha, hk⟩ := dq_lst k
  exact .lst (sqL_of ha) (dpA hk)
theorem sb1 : SortB stpD enc1 := ⟨dp1, alike1, fun bs => Sortable.tuples fun b => ⟨_, _, rfl⟩, fun b => by rw [depth1]; decide⟩
theorem sb2 : SortB rwD enc2 := ⟨dp2, alike2, fun bs => Sortable.others (enc := enc2) fun b => ⟨fun e => (by unfold enc2 at e; cases e), fun xs e => (by unfold enc2 at e; cases e)⟩, fun b => by have := depth2 b; omega⟩
theorem op_neDK (K : PySem.W.Frag) {X : Cx} (hu : X.A.units + 64 < cLine) (h : X.K = K := by rfl) : OpR X (compareOp .NotEq) (rNeD K) := by
  subst h
  exact op_neD hu
section
variable {K : PySem.W.Frag} {σ : L2.St} {H : Hp} {ta tb : TE}
theorem ed_neRw {h h' : Rw8} (ha : EvD ta σ H (rwD h)) (hb : EvD tb σ H (rwD h')) (k : RowOk h) (k' : RowOk h') : EvD (tOp (rNeD K) ta tb) σ H (.bl (!decide (h = h'))) := ec_op ha hb fun x y a' b' H1 _ ca cb hx hy Q q => by
  subst ca cb
  refine ⟨enc2 h, enc2 h', dp2 hx, dp2 hy, shaped2 k, shaped2 k', ?_⟩
  rw [eqv2]
  exact q _ _ H1 (Ex.refl H1) rfl (.bl _)
end
/-- not like the one ahead -/
def qUn (L : List Rw8) (i : Nat) : Bool := decide (i = 0) || !decide (L[i]? = L[i - 1]?)
def pUn (L : List Rw8) : Dt → Bool
  | .tup (.int i :: _) => qUn L i.toNat
  | _ => false
def gUn : Dt → Dt
  | .tup [_, r] => r
  | _ => .non
theorem un_len1 (L : List Rw8) : ∀ (l : List Rw8) (k : Nat) (p : Rw8), L.drop k = p :: l → (((l.map rwD).zipIdx (k + 1)).filter fun e => qUn L e.2).length = (unl p l).length
  | [], k, p, _ => rfl
  | y :: l, k, p, h => by
    have h0 : L[k]? = some p := by
      have z : (L.drop k)[0]? = some p := by rw [h] <;> rfl
      rw [List.getElem?_drop] at z
      exact z
    have h1 : L[k + 1]? = some y := by
      have z : (L.drop k)[1]? = some y := by rw [h] <;> rfl
      rw [List.getElem?_drop] at z
      exact z
    have hd : L.drop (k + 1) = y :: l := by
      have z : (L.drop k).drop 1 = y :: l := by rw [h] <;> rfl
      rw [List.drop_drop] at z
      exact z
    have ih := un_len1 L l (k + 1) y hd
    rw [List.map_cons, List.zipIdx_cons]
    have hq : qUn L (k + 1) = !decide (y = p) := by
      unfold qUn
      rw [decide_eq_false (Nat.succ_ne_zero k), Nat.add_sub_cancel, h0, h1]
      by_cases e : y = p
      · simp [e]
      · simp [e]
    unfold unl
    by_cases e : y = p
    · rw [if_pos e, List.filter_cons_of_neg (by show ¬ qUn L (k + 1) = true; rw [hq, decide_eq_true e]; simp)]
      exact ih
    · rw [if_neg e, List.filter_cons_of_pos (by show qUn L (k + 1) = true; rw [hq, decide_eq_false e]; rfl), List.length_cons, List.length_cons, ih]
theorem un_len (L : List Rw8) : (((enumD (L.map rwD)).filter (pUn L)).map gUn).length = (unlike L).length := by
  rw [List.length_map]
  unfold enumD
  rw [List.filter_map, List.length_map]
  cases L with
  | nil => rfl
  | cons p l =>
    show (((rwD p, 0) :: (l.map rwD).zipIdx 1).filter _).length = _
    rw [List.filter_cons_of_pos (by rfl)]
    show _ + 1 = (unl p l).length + 1
    congr 1
    exact un_len1 (p :: l) l 0 p rfl
end FW
set_option maxRecDepth 100000
set_option maxHeartbeats 8000000
/-! # FX15: lambdas that are handed on: made, known, asked deeper down -/
namespace FW
open PySem PySem.Spec PyProof.Rows L2 LamX
open Evl (Ex Ex.refl Ex.trans Ex.new Ex.mut EvT)
/-! ### an object known to the letter -/
def ObjO (a : Addr) (o : Obj) : HO := .ext fun h => h.get? a = some o
theorem objO_at {P : Program} {w : World} {H : Hp} {h : Heap} {a : Addr} {o : Obj} (hok : HOk P w H h) (e : H a = some (ObjO a o)) : h.get? a = some o := by
  have x : ObjOk P w H h a (.ext fun h => h.get? a = some o) := hok a _ e
  exact x.1
theorem objO_ok {P : Program} {w : World} {H : Hp} {h : Heap} {a : Addr} {o : Obj} (e : h.get? a = some o) : ObjOk P w H h a (ObjO a o) := ⟨e, ⟨o, e⟩, fun h1 h2 z k => k _ z⟩
theorem objO_lst {a : Addr} {o : Obj} {xs : List V} : ObjO a o ≠ .lst xs := fun z => by
  have z' : HO.ext _ = HO.lst xs := z
  cases z'
theorem objO_tup {a : Addr} {o : Obj} {xs : List V} : ObjO a o ≠ .tup xs := fun z => by
  have z' : HO.ext _ = HO.tup xs := z
  cases z'
theorem objO_own {a x : Addr} {o : Obj} : ObjO a o ≠ .own x := fun z => by
  have z' : HO.ext _ = HO.own x := z
  cases z'
theorem objO_frz {a : Addr} {o o2 : Obj} {u : HO} : ObjO a o ≠ .frz o2 u := fun z => by
  have z' : HO.ext _ = HO.frz o2 u := z
  cases z'
theorem objO_tbl {a : Addr} {o : Obj} {ps : Array Value} : ObjO a o ≠ .tbl ps := fun z => by
  have z' : HO.ext _ = HO.tbl ps := z
  cases z'
/-! ### the making -/
section
variable {X : Cx} {pins : List (Addr × Obj)} {σ : L2.St} {H : Hp} {s : Shared}
theorem inv_obj {o : Obj} {t' : Nat} (I : Inv X pins σ H s) (ho : o.isFreed = false) : Inv X pins σ (upd H s.heap.objs.size (ObjO s.heap.objs.size o)) { s with heap := s.heap.push o, toks := t' } :=
  I.laid (a := s.heap.objs.size) (fun b u e => Heap.get?_push_of_some _ e) (Nat.le_refl _) (objO_ok (Heap.get?_push_size _ ho))
abbrev lamObj (q : Str) (params : Arguments) (body : Expr) (scope : Scope) (cl : List (Str × Addr)) (dV doc pm : Value) (c' : Addr) (ctv : Value) : Obj := PySem.W.kdv_obj "<lambda>" q params (.expr body) scope cl dV doc pm c' ctv
theorem lamz_make {c P : Addr} {params : Arguments} {body : Expr} {scope : Scope} {pos : Pos} {E : Value → Shared → Prop} {Q : Value → Shared → Prop} {dV : Value} (I : Inv X pins σ H s) (TB : TabB X.base X.mg c P) (hcode : X.env.code = .ref c)
    (hT : TabS H P (X.env.qual ++ "<lambda>")) (hfree : ∀ y ∈ scope.names, y.2 = .free → ∃ c, X.env.cells.lookup y.1 = some c)
    (h : ∀ (f c' : Addr) (doc pm ctv : Value) (H1 : Hp) (s' : Shared), Inv X pins σ H1 s' → ExtN H H1 → TabS H1 P (X.env.qual ++ "<lambda>") → H f = none → H1 f = some (ObjO f (lamObj (X.env.qual ++ "<lambda>") params body scope (cloFrom X.env.cells scope.names []) dV doc pm c' ctv)) → H1 c' = some (CodeO c' (X.env.qual ++ "<lambda>")) → Q (.ref f) s') :
    wpAny (model X.prog X.w) X.A (makeTail "<lambda>" (X.env.qual ++ "<lambda>") params (.expr body) scope X.env dV .none none pos pos.line) Q E s := by
  obtain ⟨ps, hP, ht, ha⟩ := hT
  have bP : s.heap.BuiltinsAt X.mg P := TB.bm.keeps I.bk
  have hP' : s.heap.get? P = some { cls := .none, data := .fields ps } := I.hok P _ hP
  cases hc : codeAmong pos ps.toList with
  | none =>
    refine PySem.W.kdv_makeTail (mg := X.mg) (c := c) (P := P) (ps := ps) (closure_ok hfree) I.ok.glob (I.mod.glob.keeps I.bk) hcode (TB.code.keeps I.bk) hP' ht hc TB.gP bP fun c' ctv doc h' tk hx hge hlt hrec htb => ?_
    obtain ⟨c2, oc, vs, t, e2, hoc, hd, hv⟩ := hrec
    cases e2
    have nC : H c' = none := I.hok.fresh hge
    have I1 := inv_table (t' := tk) (more := #[rawInt pos.line, rawInt pos.col, .ref c']) (h' := h') I hP (fun b o hb e => hx b o hb e) htb hge ⟨oc, vs, t, hoc, hd, hv⟩
    have hE : ExtN H (upd (upd H P (.tbl (ps ++ #[rawInt pos.line, rawInt pos.col, .ref c']))) c' (CodeO c' (X.env.qual ++ "<lambda>"))) := fun b o e n => by
      rw [upd_ne (ne_of_none e nC), upd_ne (fun z => n ps (Option.some.inj (e.symm.trans (by rw [z]; exact hP))))]
      exact e
    have eL : (ps ++ #[rawInt pos.line, rawInt pos.col, .ref c']).toList = ps.toList ++ [rawInt pos.line, rawInt pos.col, .ref c'] := by simp
    have T1 : TabS (upd (upd H P (.tbl (ps ++ #[rawInt pos.line, rawInt pos.col, .ref c']))) c' (CodeO c' (X.env.qual ++ "<lambda>"))) P (X.env.qual ++ "<lambda>") := by
      refine ⟨_, by rw [upd_ne (ne_of_none hP nC), upd_same], by rw [eL]; exact PySem.TriplesOk_snoc _ _ _ _ ht, fun p' cv hcv => ?_⟩
      rw [eL] at hcv
      rcases among_app _ ht hcv with z | z
      · obtain ⟨c0, e1, e2⟩ := ha p' cv z
        exact ⟨c0, e1, hE _ _ e2 codeO_ne⟩
      · exact ⟨c', z, upd_same⟩
    have nF := I1.hok.fresh (Nat.le_refl _)
    have I2 := inv_obj (o := lamObj (X.env.qual ++ "<lambda>") params body scope (cloFrom X.env.cells scope.names []) dV doc ((X.mg "__name__").getD .none) c' ctv) (t' := tk) I1 rfl
    refine h h'.objs.size c' doc _ ctv _ _ I2 (fun b o e n => ?_) (T1.ext fun b o e => ?_) (I.hok.fresh (Nat.le_trans hge (Nat.le_of_lt hlt))) upd_same ?_
    · have e1 := hE b o e n
      exact (upd_ne (ne_of_none e1 nF)).trans e1
    · exact (upd_ne (ne_of_none e nF)).trans e
    · exact (upd_ne (Nat.ne_of_lt hlt)).trans upd_same
  | some cv =>
    obtain ⟨c', e, hco⟩ := ha pos cv hc
    subst e
    refine PySem.W.kdv_makeTailHit (mg := X.mg) (c := c) (P := P) (ps := ps) (closure_ok hfree) I.ok.glob (I.mod.glob.keeps I.bk) hcode (TB.code.keeps I.bk) hP' ht hc bP fun ctv doc h' tk hx hsz => ?_
    have I1 : Inv X pins σ H { s with heap := h', toks := tk } := I.kept hx
    have nF := I1.hok.fresh (Nat.le_refl _)
    have I2 := inv_obj (o := lamObj (X.env.qual ++ "<lambda>") params body scope (cloFrom X.env.cells scope.names []) dV doc ((X.mg "__name__").getD .none) c' ctv) (t' := tk) I1 rfl
    refine h h'.objs.size c' doc _ ctv _ _ I2 (fun b o e _ => (upd_ne (ne_of_none e nF)).trans e) (TabS.ext ⟨ps, hP, ht, ha⟩ fun b o e => (upd_ne (ne_of_none e nF)).trans e) (I.hok.fresh hsz) upd_same ((upd_ne (ne_of_none hco nF)).trans hco)
end
/-! ### the lambda's names: captured ones, globals, parameters that are no names of the maker -/
structure LamZ (N : List Str) (j : Nat) (sc scope : Scope) : Prop where
  kind : scope.kind = .function
  co : scope.isCoroutine = false
  gen : scope.isGenerator = false
  nocell : ∀ y ∈ scope.names, y.2 ≠ .cell
  own : ∀ p ∈ N.zipIdx, p.2 ≠ j → scope.names.lookup p.1 ≠ some .local
  free : ∀ y ∈ scope.names, y.2 = .free → sc.names.lookup y.1 = some .cell ∨ sc.names.lookup y.1 = some .free
def lamZB (N : List Str) (j : Nat) (sc scope : Scope) : Bool :=
  decide (scope.kind = .function) && !scope.isCoroutine && !scope.isGenerator && (N.zipIdx.all fun p => decide (p.2 = j) || !decide (scope.names.lookup p.1 = some .local)) && scope.names.all fun y => !decide (y.2 = .cell) && (!decide (y.2 = .free) || decide (sc.names.lookup y.1 = some .cell) || decide (sc.names.lookup y.1 = some .free))
theorem lamZ_by {N : List Str} {j : Nat} {sc scope : Scope} (h : lamZB N j sc scope = true) : LamZ N j sc scope := by
  unfold lamZB at h
  simp only [Bool.and_eq_true, Bool.or_eq_true, Bool.not_eq_true', decide_eq_true_eq, decide_eq_false_iff_not, List.all_eq_true] at h
  obtain ⟨⟨⟨⟨h1, h2⟩, h3⟩, h5⟩, h4⟩ := h
  refine ⟨h1, h2, h3, fun y hy => (h4 y hy).1, fun p hp e => (h5 p hp).resolve_left e, fun y hy e => ?_⟩
  rcases (h4 y hy).2 with (z | z) | z
  · exact absurd e z
  · exact .inl z
  · exact .inr z
theorem LamZ.has {X : Cx} {j : Nat} {scope : Scope} (L : LamZ X.N j X.env.scope scope) (ok : X.Ok) : ∀ y ∈ scope.names, y.2 = .free → ∃ c, X.env.cells.lookup y.1 = some c := fun y hy e => by
  rcases L.free y hy e with k | k
  · exact ok.has _ (.inl k)
  · exact ok.has _ (.inr k)
/-- what is known of a lambda's defaults -/
def DfO (H : Hp) (dV : Value) : List V → Prop
  | [] => dV = .none
  | ds => ∃ t, dV = .ref t ∧ H t = some (.tup ds)
def tLamZ (X : Cx) (P : Addr) (params : Arguments) (body : Expr) (scope : Scope) (dvs : List V) : TE := fun σ H Q => TabS H P (X.env.qual ++ "<lambda>") ∧
  ∀ (f c' : Addr) (dV doc pm ctv : Value) (H1 : Hp), ExtN H H1 → TabS H1 P (X.env.qual ++ "<lambda>") → H f = none → DfO H1 dV dvs → H1 f = some (ObjO f (lamObj (X.env.qual ++ "<lambda>") params body scope (cloFrom X.env.cells scope.names []) dV doc pm c' ctv)) → H1 c' = some (CodeO c' (X.env.qual ++ "<lambda>")) → Q (.ref f) H1
theorem pe_lamz0 {X : Cx} {c P : Addr} {params : Arguments} {body : Expr} {scope : Scope} {pos : Pos} (TB : TabB X.base X.mg c P) {j : Nat} (hcode : X.env.code = .ref c) (L : LamZ X.N j X.env.scope scope) (hdef : defaultsOf params X.env = ([], [])) : PE X (.Lambda params body scope pos) (tLamZ X P params body scope []) := by
  refine ⟨fun pins s σ H Q I h => ?_⟩
  obtain ⟨hT, h⟩ := h
  refine PySem.W.kla_eval hdef ?_
  rw [makeFunction_eq]
  simp only [List.zip_nil_right, List.filterMap_nil, List.isEmpty_nil, if_true, pure_bind]
  exact lamz_make I TB hcode hT (L.has I.ok) fun f c' doc pm ctv H1 s' I1 eN T1 hf h1 hc => ⟨.ref f, H1, I1, rfl, h f c' _ doc pm ctv H1 eN T1 hf rfl h1 hc⟩
theorem pe_lamz1 {X : Cx} {c P : Addr} {params : Arguments} {body : Expr} {scope : Scope} {pos : Pos} {e0 : Expr} {i : Int} (TB : TabB X.base X.mg c P) {j : Nat} (hcode : X.env.code = .ref c) (L : LamZ X.N j X.env.scope scope) (hd : params.defaults = [e0]) (hk : params.kw_defaults = []) (h0 : PE X e0 (tC (.int i))) : PE X (.Lambda params body scope pos) (tLamZ X P params body scope [.int i]) := by
  refine ⟨fun pins s σ H Q I h => ?_⟩
  obtain ⟨hT, h⟩ := h
  refine PySem.W.kdv_lam (by rw [hd] <;> rfl) hk ?_
  rw [hd]
  refine PySem.W.kdv_all1 (thn (h0.run pins s σ H (fun v H1 => v = .int i ∧ H1 = H) I ⟨rfl, rfl⟩) fun u s1 ⟨v, H1, I1, r1, q1⟩ => PySem.W.kdv_all0 ?_)
  obtain ⟨ev, eH⟩ := q1
  subst ev
  rw [eH] at I1
  rw [makeFunction_eq]
  simp only [List.zip_nil_right, List.filterMap_nil, List.isEmpty_nil, List.isEmpty_cons, Bool.false_eq_true, if_false, if_true, pure_bind]
  refine wpAny_bind (wpAny_newTextTuple ?_)
  have nt := I1.hok.fresh (Nat.le_refl _)
  have I2 : Inv X pins σ (upd H s1.heap.objs.size (.tup [.int i])) { s1 with heap := s1.heap.push { cls := .type "tuple", data := .seq [u].toArray } } :=
    I1.laid (a := s1.heap.objs.size) (t' := s1.toks) (fun b o e => Heap.get?_push_of_some _ e) (Nat.le_refl _) ⟨by show 1 ≤ sizeLine; decide, [u], .cons r1 .nil, _, Heap.get?_push_size _ rfl, rfl, _, rfl⟩
  refine lamz_make I2 TB hcode (hT.ext fun b o e => (upd_ne (ne_of_none e nt)).trans e) (L.has I.ok) fun f c' doc pm ctv H1 s' I3 eN T1 hf h1 hc => ⟨.ref f, H1, I3, rfl, h f c' _ doc pm ctv H1 (fun b o e n => eN b o ((upd_ne (ne_of_none e nt)).trans e) n) T1 ?_ ⟨_, rfl, eN _ _ upd_same (by intro ps z; cases z)⟩ h1 hc⟩
  by_cases z : f = s1.heap.objs.size
  · rw [z]
    exact nt
  · rw [upd_ne z] at hf
    exact hf
/-! ### the cells, known for a while -/
def isC (X : Cx) (b : Addr) : Prop := ∃ x, X.env.cells.lookup x = some b
open Classical in
noncomputable def withC (X : Cx) (h : Heap) (H : Hp) : Hp := fun b => if isC X b then (h.get? b).map (ObjO b) else H b
open Classical in
noncomputable def noC (X : Cx) (H : Hp) : Hp := fun b => if isC X b then none else H b
open Classical in
noncomputable def backC (X : Cx) (H2 H3 : Hp) : Hp := fun b => if isC X b then H2 b else H3 b
section
variable {X : Cx} {pins : List (Addr × Obj)} {σ : L2.St} {H H2 H3 : Hp} {s : Shared} {b : Addr}
theorem withC_in {h : Heap} {o : Obj} (i : isC X b) (e : h.get? b = some o) : withC X h H b = some (ObjO b o) := by
  unfold withC
  rw [if_pos i, e] <;> rfl
theorem withC_out {h : Heap} (i : ¬ isC X b) : withC X h H b = H b := if_neg i
theorem noC_in (i : isC X b) : noC X H b = none := if_pos i
theorem noC_out (i : ¬ isC X b) : noC X H b = H b := if_neg i
theorem backC_in (i : isC X b) : backC X H2 H3 b = H2 b := if_pos i
theorem backC_out (i : ¬ isC X b) : backC X H2 H3 b = H3 b := if_neg i
theorem isC_at (I : Inv X pins σ H s) (i : isC X b) : H b = none ∧ ∃ o, s.heap.get? b = some o := by
  obtain ⟨x, e⟩ := i
  obtain ⟨v, o, ho, _⟩ := I.cell x b e
  exact ⟨I.freeC x b e, o, ho⟩
theorem some_out (I : Inv X pins σ H s) {o : HO} (e : H b = some o) : ¬ isC X b := fun i => by
  rw [(isC_at I i).1] at e
  cases e
theorem ex_withC (I : Inv X pins σ H s) : Ex H (withC X s.heap H) := fun b o e => by
  rw [withC_out (some_out I e)]
  exact e
theorem base_out (I : Inv X pins σ H s) (hfn : ∀ x, X.fn x = true) {o : Obj} (e : X.base.get? b = some o) : ¬ isC X b := fun ⟨x, hx⟩ => by
  have h1 := I.ok.cab x b (hfn x) hx
  have h2 := Heap.lt_size e
  exact absurd (Nat.lt_of_lt_of_le h2 (Nat.le_trans I.ok.bsz h1)) (Nat.lt_irrefl _)
theorem frame_out (I : Inv X pins σ H s) (hfn : ∀ x, X.fn x = true) (hb : b ∈ frs X.stack) : ¬ isC X b := fun ⟨x, hx⟩ => by
  rcases List.mem_cons.mp (I.stkSub b hb) with e | hb
  · exact I.cne x b hx e
  · obtain ⟨_, o, ho, _⟩ := I.ok.funs.mem hb
    have h1 := I.ok.cab x b (hfn x) hx
    have h2 := Heap.lt_size ho
    exact absurd (Nat.lt_of_lt_of_le h2 h1) (Nat.lt_irrefl _)
theorem env0_withC (I : Inv X pins σ H s) (hfn : ∀ x, X.fn x = true) : Env0 X.prog X.w X.K X.mg X.base X.A X.stack s (withC X s.heap H) := by
  have e := I.env0
  refine ⟨e.frames, e.mod, fun b o h => ?_, e.bsz, e.funs, fun b hb => ?_, fun b u hu => ?_, e.bare⟩
  · obtain ⟨h1, h2⟩ := e.bs b o h
    exact ⟨h1, by rw [withC_out (base_out I hfn h)]; exact h2⟩
  · rw [withC_out (frame_out I hfn hb)]
    exact e.frf b hb
  · by_cases i : isC X b
    · obtain ⟨_, o, ho⟩ := isC_at I i
      rw [withC_in i ho] at hu
      cases hu
      exact objO_ok ho
    · rw [withC_out i] at hu
      exact (I.hok b u hu).stay (fun _ _ _ q => q) (fun c q => ex_withC I _ _ q) fun c xs q => ex_withC I _ _ q
end
/-! ### the body's context -/
abbrev lamEnvZ (X : Cx) (scope : Scope) (L f c' : Addr) : Env := PySem.W.envX (X.env.qual ++ "<lambda>") scope L f (.ref c') (cloFrom X.env.cells scope.names [])
def lamCxN (X : Cx) (A : Around) (outer : List Env) (s : Shared) (H : Hp) (E : XK) (scope : Scope) (f c' : Addr) : Cx where
  prog := X.prog
  w := X.w
  K := X.K
  mg := X.mg
  base := X.base
  A := A.deeper (lamEnvZ X scope s.heap.objs.size f c')
  N := X.N
  s_0 := s
  H_0 := H
  env := lamEnvZ X scope s.heap.objs.size f c'
  outer := outer
  stack := lamEnvZ X scope s.heap.objs.size f c' :: outer
  ex := []
  fn := fun _ => false
  calm := true
  pn := []
  xe := fun e s' => wpAny (model X.prog X.w) (A.deeper (lamEnvZ X scope s.heap.objs.size f c')) (leaving (lamEnvZ X scope s.heap.objs.size f c') e) (fun _ s'' => L2N.CX X.prog X.w outer H s E e s'') (fun e' s'' => L2N.CX X.prog X.w outer H s E e' s'') s'
section
variable {X : Cx} {pins : List (Addr × Obj)} {σ : L2.St} {H HZ : Hp} {s s1 : Shared}
theorem lamz_start {A : Around} {outer : List Env} {E : XK} {scope : Scope} {f c' : Addr} {h₁ : Heap} {tk j : Nat} {m : Str → Option Value} (I : Inv X pins σ H s) (L : LamZ X.N j X.env.scope scope) (e0 : Env0 X.prog X.w X.K X.mg X.base A outer s1 HZ) (hd : A.handled = none)
    (cellK : ∀ {c : Addr} {v : Option Value}, isC X c → s.heap.IsCell c v → h₁.IsCell c v) (cellN : ∀ c, isC X c → HZ c = none) (hns : h₁.Ns s1.heap.objs.size m) (kp : ∀ b o, s1.heap.get? b = some o → h₁.get? b = some o) :
    Inv (lamCxN X A outer s1 HZ E scope f c') [] (σ.set j none) HZ { s1 with heap := h₁, toks := tk } := by
  have hfree := L.has I.ok
  have cm : ∀ {y c}, (cloFrom X.env.cells scope.names []).lookup y = some c → X.env.cells.lookup y = some c := fun {y c} e => by
    rcases cloFrom_mem (PySem.mem_of_lookup e) with hm | ⟨h1, h2⟩
    · cases hm
    · obtain ⟨c1, hc⟩ := hfree _ h1 rfl
      have hc : X.env.cells.lookup y = some c1 := hc
      have e2 : c = c1 := by
        rw [h2, hc] <;> rfl
      rw [e2]
      exact hc
  have look : ∀ {y}, scope.names.lookup y = some .free → ∃ c, (cloFrom X.env.cells scope.names []).lookup y = some c := fun {y} hl => by
    have hy : (y, NameKind.free) ∈ scope.names := PySem.mem_of_lookup hl
    exact mem_lookup (cloFrom_has (cells := X.env.cells) (acc := []) hy)
  have noA : ∀ b : Addr, b ∉ (lamCxN X A outer s1 HZ E scope f c').ex := fun b z => absurd (show b ∈ ([] : List Addr) from z) (by simp)
  refine ⟨⟨e0.mod, L.kind, rfl, rfl, Nat.le_refl _, fun y z c e1 e2 => I.ok.inj y z c (cm e1) (cm e2), fun y hy => ?_, fun y c z _ => ?_, fun _ => hd, Around.frames_deeper e0.frames, .inr ⟨rfl, rfl⟩, fun b z => absurd z (noA b), e0.bs, e0.bsz, fun b _ _ => noA b,
      fun b z => absurd z (noA b), e0.funs, e0.frf⟩,
    rfl, e0.bare, Un.kept kp, ⟨_, hns, fun i y v e1 e2 e3 => ?_⟩, fun y c e => ?_, e0.hok.fresh (Nat.le_refl _), fun y c e => cellN c ⟨y, cm e⟩, fun q hq => absurd (show q ∈ ([] : List (Addr × Obj)) ++ [] from hq) (by simp), e0.hok.kept kp, by rw [List.length_set]; exact I.len⟩
  · have hy : scope.names.lookup y = some .cell ∨ scope.names.lookup y = some .free := hy
    rcases hy with hy | hy
    · exact absurd rfl (L.nocell _ (PySem.mem_of_lookup hy))
    · exact look hy
  · have z : false = true := z
    cases z
  · have e3 : Vis scope y := e3
    have hij : i ≠ j := fun z => by
      subst z
      by_cases hl : i < σ.length
      · rw [List.getElem?_set_self hl] at e2
        cases e2
      · rw [List.getElem?_eq_none (by rw [List.length_set]; omega)] at e2
        cases e2
    rw [List.getElem?_set_ne (Ne.symm hij)] at e2
    rcases e3 with k | k | k
    · have e1 : X.N[i]? = some y := e1
      exact absurd k (L.own (y, i) (List.mem_of_getElem? (i := i) (by rw [List.getElem?_zipIdx, e1]; simp)) hij)
    · exact absurd rfl (L.nocell _ (PySem.mem_of_lookup k))
    · obtain ⟨m, hn, hl⟩ := I.loc
      have hvis : Vis X.env.scope y := (L.free _ (PySem.mem_of_lookup k) rfl).elim (fun k => .inr (.inl k)) (fun k => .inr (.inr k))
      obtain ⟨w', r, q⟩ := hl i y v e1 e2 hvis
      obtain ⟨c2, h2⟩ := look k
      refine ⟨w', r, .inr ⟨.inr k, c2, h2, ?_⟩⟩
      have c1 := cm h2
      rcases q with ⟨k', _⟩ | ⟨_, c3, e', z⟩
      · have k' : X.env.scope.names.lookup y = some .local := k'
        rcases L.free _ (PySem.mem_of_lookup k) rfl with k2 | k2 <;> rw [show X.env.scope.names.lookup y = _ from k2] at k' <;> cases k'
      · rw [c1] at e'
        cases e'
        exact cellK ⟨y, c1⟩ z
  · obtain ⟨w', z⟩ := I.cell y c (cm e)
    exact ⟨w', cellK ⟨y, cm e⟩ z⟩
/-- .. of an exception: the cells told again -/
def backE (X : Cx) (H2 : Hp) (E : XK) : XK := fun cls d H' => (∀ b, isC X b → H' b = none) → E cls d (backC X H2 H')
theorem cx_back {outer : List Env} {s2 : Shared} {H2 : Hp} {E : XK} {e : Value} {s' : Shared} (e0 : Env0 X.prog X.w X.K X.mg X.base A outer s2 H2) (hc : ∀ b, isC X b → ∃ o, H2 b = some (ObjO b o)) (h : L2N.CX X.prog X.w outer (noC X H2) s2 (backE X H2 E) e s') : L2N.CX X.prog X.w outer H2 s2 E e s' := by
  obtain ⟨a, B, H', cls, d, rfl, fl, hok, ub, na, os, ag, hE⟩ := h
  have cN : ∀ b, isC X b → H' b = none := fun b i => by
    obtain ⟨o, ho⟩ := hc b i
    exact ub.free b o (objO_at e0.hok ho) (noC_in i)
  have cB : ∀ b o, isC X b → H2 b = some (ObjO b o) → B.get? b = some o := fun b o i ho => by
    refine ub.keep b o (objO_at e0.hok ho) (noC_in i) fun hb => ?_
    rw [e0.frf b hb] at ho
    cases ho
  have out2 : ∀ b, H2 b = none → ¬ isC X b := fun b n i => by
    obtain ⟨o, ho⟩ := hc b i
    rw [n] at ho
    cases ho
  have out3 : ∀ b u, H' b = some u → ¬ isC X b := fun b u e i => by
    rw [cN b i] at e
    cases e
  have bk : ∀ b u, H' b = some u → backC X H2 H' b = some u := fun b u e => by
    rw [backC_out (out3 b u e)]
    exact e
  refine ⟨a, B, backC X H2 H', cls, d, rfl, fl, fun b u hu => ?_, ⟨fun b o e n hb => ub.keep b o e (by rw [noC_out (out2 b n)]; exact n) hb, fun b o e hb => ub.slot b o e hb, fun b o e n => ?_, fun b o e hb => ub.there b o e hb, fun b xs e => ?_, fun b o xs e => ?_, fun b ps e => ?_⟩, ?_, os, ag, hE cN⟩
  · by_cases i : isC X b
    · obtain ⟨o, ho⟩ := hc b i
      rw [backC_in i, ho] at hu
      cases hu
      exact objO_ok (cB b o i ho)
    · rw [backC_out i] at hu
      exact (hok b u hu).stay (fun _ _ _ q => q) (fun c q => bk _ _ q) fun c xs q => bk _ _ q
  · rw [backC_out (out2 b n)]
    exact ub.free b o e (by rw [noC_out (out2 b n)]; exact n)
  · have no : ¬ isC X b := fun i => by
      obtain ⟨o, ho⟩ := hc b i
      rw [ho] at e
      exact objO_tup (Option.some.inj e)
    exact bk _ _ (ub.tups b xs (by rw [noC_out no]; exact e))
  · have no : ¬ isC X b := fun i => by
      obtain ⟨o', ho⟩ := hc b i
      rw [ho] at e
      exact objO_frz (Option.some.inj e)
    exact bk _ _ (ub.frzs b o xs (by rw [noC_out no]; exact e))
  · have no : ¬ isC X b := fun i => by
      obtain ⟨o', ho⟩ := hc b i
      rw [ho] at e
      exact objO_tbl (Option.some.inj e)
    obtain ⟨more, z⟩ := ub.tbls b ps (by rw [noC_out no]; exact e)
    exact ⟨more, bk _ _ z⟩
  · have ni : ¬ isC X a := fun i => by
      obtain ⟨o, ho⟩ := hc a i
      have z := cB a o i ho
      rw [fl.2.1] at z
      cases z
    rw [backC_out ni]
    exact na
end
end FW
set_option maxRecDepth 100000
set_option maxHeartbeats 8000000
/-! # FX16: lambdas asked deeper down; the call that hands them on -/
namespace FW
open PySem PySem.Spec PyProof.Rows L2 LamX
open Evl (Ex Ex.refl Ex.trans Ex.new Ex.mut EvT)
section
variable {X : Cx} {pins : List (Addr × Obj)} {σ : L2.St} {H : Hp} {s : Shared}
theorem askZ {k j : Nat} {f c' C : Addr} {q : Str} {params : Arguments} {body : Expr} {scope : Scope} {dV doc pm ctv : Value} {txt : List Nat} {y : V} (I : Inv X pins σ H s) (hfn : ∀ x, X.fn x = true) (L : LamZ X.N j X.env.scope scope) (hq : q = X.env.qual ++ "<lambda>")
    (hf : H f = some (ObjO f (lamObj q params body scope (cloFrom X.env.cells scope.names []) dV doc pm c' ctv))) (hc : H c' = some (CodeO c' q))
    (hb : ∀ (s2 : Shared) (H2 : Hp), HOk X.prog X.w H2 s2.heap → Ex H H2 → ∃ binds : List (Str × Value), BindsTo s2 (PySem.W.kdv_fn "<lambda>" q params (.expr body) scope (cloFrom X.env.cells scope.names []) dV doc pm (.ref c') ctv) ⟨[], []⟩ binds ∧ ∀ y ∈ binds, scope.names.lookup y.1 = some .local)
    (hbody : ∀ (A : Around) (outer : List Env) (s2 : Shared) (HZ : Hp) (E : XK), Room k (A.deeper (lamEnvZ X scope s2.heap.objs.size f c')) → Ex H HZ → BadE C (S txt) y HZ E → ∃ t, PE (lamCxN X A outer s2 HZ E scope f c') body t ∧ t (σ.set j none) HZ (fun _ _ => False)) :
    Ask X.prog X.w X.K X.mg X.base (k + 1) (withC X s.heap H) f (spAsk C txt y) := by
  subst hq
  intro A outer2 s2 H2 Q E hr e0 ex hE
  have eHw := (ex_withC I).trans ex
  have hC : ∀ b, isC X b → ∃ o, s.heap.get? b = some o ∧ H2 b = some (ObjO b o) := fun b i => by
    obtain ⟨_, o, ho⟩ := isC_at I i
    exact ⟨o, ho, ex _ _ (withC_in i ho)⟩
  have eH : Ex H (noC X H2) := fun b o e => by
    rw [noC_out (some_out I e)]
    exact eHw _ _ e
  have e0z : Env0 X.prog X.w X.K X.mg X.base A outer2 s2 (noC X H2) := by
    refine ⟨e0.frames, e0.mod, fun b o h => ?_, e0.bsz, e0.funs, fun b hb => ?_, fun b u hu => ?_, e0.bare⟩
    · obtain ⟨h1, h2⟩ := e0.bs b o h
      refine ⟨h1, ?_⟩
      by_cases i : isC X b
      · exact noC_in i
      · rw [noC_out i]
        exact h2
    · by_cases i : isC X b
      · exact noC_in i
      · rw [noC_out i]
        exact e0.frf b hb
    · by_cases i : isC X b
      · rw [noC_in i] at hu
        cases hu
      · rw [noC_out i] at hu
        refine (e0.hok b u hu).stay (fun _ _ _ q => q) (fun c q => ?_) fun c xs q => ?_
        · rw [noC_out (fun ic => ?_)]
          · exact q
          · obtain ⟨o, _, ho⟩ := hC c ic
            rw [ho] at q
            exact objO_own (Option.some.inj q)
        · rw [noC_out (fun ic => ?_)]
          · exact q
          · obtain ⟨o, _, ho⟩ := hC c ic
            rw [ho] at q
            exact objO_tup (Option.some.inj q)
  have of2 : s2.heap.get? f = some (lamObj (X.env.qual ++ "<lambda>") params body scope (cloFrom X.env.cells scope.names []) dV doc pm c' ctv) := objO_at e0.hok (eHw _ _ hf)
  refine ⟨⟨_, _, _, _, of2⟩, ?_⟩
  have cd : s2.heap.CodeRec (.ref c') (X.env.qual ++ "<lambda>") := by
    obtain ⟨⟨oc, vs, t, h1, h2, h3⟩, _, _⟩ := e0.hok c' _ (eHw _ _ hc)
    exact ⟨c', oc, vs, t, rfl, h1, h2, h3⟩
  obtain ⟨binds, hbi, hloc⟩ := hb s2 H2 e0.hok eHw
  have lim : s2.heap.NoLimit := e0.mod.nolimit.keeps fun b o e => (e0.bs b o e).1
  refine PySem.W.kla_callFunE hr.depth of2 rfl L.co L.gen rfl cd ?_
  refine hbi _ _ _ _ (wpAny_newFunctionEnv L.nocell hloc (fun h₁ hns hsb => ⟨lim.fresh _ hsb, ?_⟩) L.kind)
  show codeAny _ _ (.expr body (lamEnvZ X scope s2.heap.objs.size f c')) _ _
  have kp : ∀ b o, s2.heap.get? b = some o → h₁.get? b = some o := fun b o e => hsb.extBut b o (Nat.ne_of_lt (Heap.lt_size e)) (Heap.get?_push_of_some _ e)
  have J : Inv (lamCxN X A outer2 s2 (noC X H2) (backE X H2 E) scope f c') [] (σ.set j none) (noC X H2) { s2 with heap := h₁, toks := s2.toks + binds.length } :=
    lamz_start I L e0z hr.hd (fun {c v} i ⟨o, ho, hd⟩ => by
      obtain ⟨o2, ho2, h2⟩ := hC c i
      rw [ho] at ho2
      cases ho2
      exact ⟨o, kp _ _ (objO_at e0.hok h2), hd⟩) (fun c i => noC_in i) hns kp
  have hcs : ∀ b, isC X b → ∃ o, H2 b = some (ObjO b o) := fun b i => by
    obtain ⟨o, _, h⟩ := hC b i
    exact ⟨o, h⟩
  obtain ⟨t, ht, hq⟩ := hbody A outer2 s2 (noC X H2) (backE X H2 E) (hr.deeper _) eH fun dd H' e hd cN => by
    have bk : ∀ b u, H' b = some u → backC X H2 H' b = some u := fun b u e => by
      rw [backC_out (fun i => ?_)]
      · exact e
      · rw [cN b i] at e
        cases e
    refine hE dd (backC X H2 H') (fun b o h => ?_) (bk _ _ hd)
    by_cases i : isC X b
    · rw [backC_in i]
      exact h
    · exact bk _ _ (e _ _ (by rw [noC_out i]; exact h))
  refine PySem.W.kla_codeExpr (wpAny_mono (ht.run [] _ _ (noC X H2) _ J hq) (fun v s' hq => ?_) fun e s' hx => ?_)
  · obtain ⟨_, _, _, _, z⟩ := hq
    exact z.elim
  · have hx : wpAny (model X.prog X.w) (A.deeper (lamEnvZ X scope s2.heap.objs.size f c')) (leaving (lamEnvZ X scope s2.heap.objs.size f c') e) (fun _ s'' => L2N.CX X.prog X.w outer2 (noC X H2) s2 (backE X H2 E) e s'') (fun e' s'' => L2N.CX X.prog X.w outer2 (noC X H2) s2 (backE X H2 E) e' s'') s' := hx
    exact wpAny_mono hx (fun _ s'' c => cx_back e0 hcs c) fun e' s'' c => cx_back e0 hcs c
/-- without defaults, nothing is bound -/
theorem bindsZ0 {q : Str} {params : Arguments} {body : Expr} {scope : Scope} {cl : List (Str × Addr)} {doc pm cv ctv dV : Value} (hd : DfO H dV []) (h : ∀ doc pm cv ctv, bindArgs (PySem.W.kdv_fn "<lambda>" q params (.expr body) scope cl .none doc pm cv ctv) ⟨[], []⟩ = pure []) :
    ∀ (s2 : Shared) (H2 : Hp), HOk X.prog X.w H2 s2.heap → Ex H H2 → ∃ binds : List (Str × Value), BindsTo s2 (PySem.W.kdv_fn "<lambda>" q params (.expr body) scope cl dV doc pm cv ctv) ⟨[], []⟩ binds ∧ ∀ y ∈ binds, scope.names.lookup y.1 = some .local := fun s2 H2 _ _ => by
  have hd : dV = .none := hd
  subst hd
  exact ⟨[], .of_eq (h _ _ _ _), fun y hy => by cases hy⟩
theorem bindsZ1 {q a : Str} {params : Arguments} {body : Expr} {scope : Scope} {cl : List (Str × Addr)} {doc pm cv ctv dV : Value} {d : V} (hd : DfO H dV [d]) (hl : scope.names.lookup a = some .local)
    (h : ∀ (t : Addr) (doc pm cv ctv u : Value), ∃ k, bindArgs (PySem.W.kdv_fn "<lambda>" q params (.expr body) scope cl (.ref t) doc pm cv ctv) ⟨[], []⟩ = seqItems? (.ref t) >>= k ∧ k (some [u].toArray) = pure [(a, u)]) :
    ∀ (s2 : Shared) (H2 : Hp), HOk X.prog X.w H2 s2.heap → Ex H H2 → ∃ binds : List (Str × Value), BindsTo s2 (PySem.W.kdv_fn "<lambda>" q params (.expr body) scope cl dV doc pm cv ctv) ⟨[], []⟩ binds ∧ ∀ y ∈ binds, scope.names.lookup y.1 = some .local := fun s2 H2 hok ex => by
  obtain ⟨t, rfl, ht⟩ := hd
  obtain ⟨_, its, rv, o, ho, hc, n, hdat⟩ := hok t _ (ex _ _ ht)
  cases rv with
  | cons r1 rv =>
    cases rv
    rename_i u
    obtain ⟨k, e1, e2⟩ := h t doc pm cv ctv u
    refine ⟨[(a, u)], fun M A E Q hq => ?_, fun y hy => ?_⟩
    · rw [e1]
      refine wpAny_bind (wpAny_seqItems ho hdat ?_)
      rw [e2]
      exact wpAny_pure hq
    · rw [List.mem_singleton.mp hy]
      exact hl
/-! ### the call -/
def tTriesZ (X : Cx) (k : Nat) (cs : List Value) (i : Nat) : TE := fun σ H Q => ∃ (p : Addr) (rs : List Rq), σ[i]? = some (some (.ref p)) ∧ H p = some (.lst (rs.map fun r => V.ref r.f)) ∧ rs.length ≤ 10 ∧ (rs.map Rq.f).Nodup ∧
  (∀ r ∈ rs, r.txt ∈ badL ∧ XRd X.K r.C ∧ PySem.W.exmAny X.K (.ref r.C) cs = some true ∧ Dq H r.y r.d) ∧
  (∀ pins s, Inv X pins σ H s → ∀ r ∈ rs, Ask X.prog X.w X.K X.mg X.base k (withC X s.heap H) r.f (spAsk r.C r.txt r.y)) ∧ ∀ v H2, Ex H H2 → Dq H2 v (.lst (rs.map Rq.out)) → Q v H2
theorem un_noC {H2 : Hp} {h' : Heap} (I : Inv X pins σ H s) (hfn : ∀ x, X.fn x = true) (ex : Ex (withC X s.heap H) H2) (hok : HOk X.prog X.w H2 h') (un : Un (frs X.stack) [] (withC X s.heap H) H2 s.heap h') : Un (frs X.stack) [] H (noC X H2) s.heap h' := by
  refine ⟨fun b o e n hb hx => ?_, fun b o e n hb hx => ?_, fun b o e n hx => ?_, un.there, fun b xs e => ?_, fun b o u e => ?_, fun b ps e => ?_⟩
  · by_cases i : isC X b
    · exact objO_at hok (ex _ _ (withC_in i e))
    · exact un.keep b o e (by rw [withC_out i]; exact n) hb hx
  · have i := frame_out I hfn hb
    exact un.slot b o e (by rw [withC_out i]; exact n) hb hx
  · by_cases i : isC X b
    · exact noC_in i
    · rw [noC_out i]
      exact un.free b o e (by rw [withC_out i]; exact n) hx
  · have i := some_out I e
    rw [noC_out i]
    exact un.tups b xs (by rw [withC_out i]; exact e)
  · have i := some_out I e
    rw [noC_out i]
    exact un.frzs b o u (by rw [withC_out i]; exact e)
  · have i := some_out I e
    obtain ⟨more, z⟩ := un.tbls b ps (by rw [withC_out i]; exact e)
    exact ⟨more, by rw [noC_out i]; exact z⟩
theorem pe_triesZ {k i : Nat} {cs : List Value} {a : Str} {p1 p2 pos : Pos} (C : Cal X.prog X.w X.K X.mg X.base CX0 (k + 3) "_law_tries" ["_law_asks"] (spTries X.prog X.w X.K X.mg X.base k cs)) (hr : Room (k + 3) X.A) (hfn : ∀ x, X.fn x = true) (hN : X.N[i]? = some a := by rfl) (hv : Vis X.env.scope a := by exact .inl rfl)
    (hda : (a == ("__debug__" : Str)) = false := by decide) (hcd : (a == ("__classdict__" : Str)) = false := by decide) (hg : Gl X "_law_tries" := by rfl)
    (he : starEach (.Name a p2 :: []) X.env = (false, eval (.Name a p2) X.env) :: starEach [] X.env := by rfl) (hpl : (backTo pos (starEach [] X.env)).any (·.1) = false := by rfl) : PE X (.Call (.Name "_law_tries" p1) [.Name a p2] [] pos) (tTriesZ X k cs i) := by
  obtain ⟨f, fd, hm, hkp, F, hb⟩ := C.ex
  refine ⟨fun pins s σ H Q I h => ?_⟩
  obtain ⟨p, rs, hs, hp, hl, nd, hok, hask, q⟩ := h
  refine wpAny_Call_Name_kw (ld_glob I hg hm ?_ (by decide))
  refine PySem.W.callWith_K (h₀ := X.base) I.ok.mod.kin hkp (thn ((pa_cons (pe_var (pos := p2) (i := i) hN hv hda hcd) pa_nil he).run pos pins s σ H (fun vs H1 => vs = [.ref p] ∧ H1 = H) I ⟨.ref p, hs, rfl, rfl⟩) fun us s1 ⟨vs, H1, I1, r, e1, e2⟩ => ⟨I1.kIn, ?_⟩) he hpl
  subst e1
  rw [e2] at I1
  have hsp : spTries X.prog X.w X.K X.mg X.base k cs [.ref p] (withC X s1.heap H) (fun v H2 => Ex (withC X s1.heap H) H2 ∧ Dq H2 v (.lst (rs.map Rq.out))) E0 :=
    ⟨p, rs, rfl, ex_withC I1 _ _ hp, hl, nd, fun r hr => by
      obtain ⟨h1, h2, h3, h4⟩ := hok r hr
      exact ⟨h1, h2, h3, hask pins s1 I1 r hr, h4.mono (ex_withC I1)⟩, fun v H2 e d => ⟨e, d⟩⟩
  have hbt : BindsTo s1 fd ⟨us, []⟩ ((["_law_asks"] : List Str).zip us) := by
    have z := hb s1 us I1.kIn (by rw [List.append_nil, ← r.length] <;> rfl)
    rw [List.append_nil] at z
    exact z
  refine wpAny_call (codeAny_mono (F.run X.A X.stack s1 (withC X s1.heap H) ⟨us, []⟩ us [.ref p] _ E0 hr (env0_withC I1 hfn) hbt r hsp) fun r2 s' hq => ?_)
  match r2, hq with
  | .error e, hq => exact (show False from hq).elim
  | .ok .next, hq => exact False.elim hq
  | .ok .brk, hq => exact False.elim hq
  | .ok .cont, hq => exact False.elim hq
  | .ok (.ret u), hq =>
    obtain ⟨v, H2, os, bare, un, hok2, rv, ex, dq⟩ := hq
    have iC : ∀ b, isC X b → ∃ o, H2 b = some (ObjO b o) := fun b i => by
      obtain ⟨_, o, ho⟩ := isC_at I1 i
      exact ⟨o, ex _ _ (withC_in i ho)⟩
    have hok3 : HOk X.prog X.w (noC X H2) s'.heap := fun b u hu => by
      by_cases i : isC X b
      · rw [noC_in i] at hu
        cases hu
      · rw [noC_out i] at hu
        refine (hok2 b u hu).stay (fun _ _ _ q => q) (fun c q => ?_) fun c xs q => ?_
        · rw [noC_out (fun ic => ?_)]
          · exact q
          · obtain ⟨o, ho⟩ := iC c ic
            rw [ho] at q
            exact objO_own (Option.some.inj q)
        · rw [noC_out (fun ic => ?_)]
          · exact q
          · obtain ⟨o, ho⟩ := iC c ic
            rw [ho] at q
            exact objO_tup (Option.some.inj q)
    have I2 : Inv X pins σ (noC X H2) s' := I1.call' (ch := []) os (un_noC I1 hfn ex hok2 un) hok3 bare (fun b z => absurd z (by simp))
    refine ⟨v, noC X H2, I2, rv, q v _ (fun b o e => ?_) (dq.seq (fun b xs e => ?_) fun b xs e => ?_)⟩
    · have i := some_out I1 e
      rw [noC_out i]
      exact ex _ _ (by rw [withC_out i]; exact e)
    · rw [noC_out (fun i => ?_)]
      · exact e
      · obtain ⟨o, ho⟩ := iC b i
        rw [ho] at e
        exact objO_lst (Option.some.inj e)
    · rw [noC_out (fun i => ?_)]
      · exact e
      · obtain ⟨o, ho⟩ := iC b i
        rw [ho] at e
        exact objO_tup (Option.some.inj e)
end
end FW
set_option maxRecDepth 100000
set_option maxHeartbeats 8000000
/-! # FX17: rules that only the law itself needs -/
namespace FW
open PySem PySem.Spec PyProof.Rows L2
open Evl (Ex Ex.refl Ex.trans Ex.new Ex.mut EvT)
section
variable {X : Cx} {e : Expr} {es : List Expr} {t : TA} {p pos : Pos} {k j : Nat} {x : Str} {ps : List Str} {sp : Sp}
/-- a call that makes the bag: it is closed at once -/
def tCallC (sp : Sp) (t : TA) : TE := fun σ H Q => t σ H fun vs H1 => sp vs H1 (fun v H2 => ∃ b l m, v = .ref b ∧ bagOk 0 0 m ∧ H2 b = some (.lst (bagV l 0 0 m 0)) ∧ Q v (upd H2 b (BagO b l))) E0
theorem pe_calC (C : Cal X.prog X.w X.K X.mg X.base CX0 k x ps sp) (hr : Room j X.A) (ha : PA X (e :: es) t) (hk : k ≤ j := by decide) (hg : Gl X x := by rfl) (hd : (x == ("__debug__" : Str)) = false := by decide)
    (he : starEach (e :: es) X.env = (false, eval e X.env) :: starEach es X.env := by rfl) (hpl : (backTo pos (starEach es X.env)).any (·.1) = false := by rfl) : PE X (.Call (.Name x p) (e :: es) [] pos) (tCallC sp t) := by
  obtain ⟨f, fd, hm, hkp, F, hb⟩ := C.ex
  refine ⟨fun pins s σ H Q I h => ?_⟩
  refine wpAny_Call_Name_kw (ld_glob I hg hm ?_ hd)
  refine PySem.W.callWith_K (h₀ := X.base) I.ok.mod.kin hkp (thn (ha.run pos pins s σ H _ I h) fun us s1 ⟨vs, H1, I1, r, q⟩ => ⟨I1.kIn, ?_⟩) he hpl
  refine thn (Q := EP X pins σ fun v H2 => ∃ b l m, v = .ref b ∧ bagOk 0 0 m ∧ H2 b = some (.lst (bagV l 0 0 m 0)) ∧ Q v (upd H2 b (BagO b l))) (run_fn (dvs := []) F (hr.mono hk) hb .nil pass0 I1 r (by rw [List.append_nil]; exact q)) fun u s2 ⟨v, H2, I3, rv, b, l, m, ev, bd, hl, q2⟩ => ⟨v, _, inv_close I3 hl bd, rv, q2⟩
/-! ### a call by keywords alone, from the last parameter to the first -/
structure CalKw (P : Program) (w : World) (K : PySem.W.Frag) (mg : Str → Option Value) (base : Heap) (k : Nat) (x : Str) (ps ks : List Str) (sp : Sp) : Prop where
  ex : ∃ f fd, mg x = some (.ref f) ∧ PySem.W.keepIn K (.ref f) = true ∧ FnOk P w K mg base CX0 k f fd ps sp ∧ ∀ (s : Shared) (ws : List Value), ws.length = ks.length → BindsTo s fd ⟨[], ks.zip ws⟩ (ps.zip ws.reverse)
def tCallKw (sp : Sp) (n : Nat) (t : TA) : TE := fun σ H Q => t σ H fun vs H1 => vs.length = n ∧ sp vs.reverse H1 Q E0
theorem vals_rev : ∀ {vs : List V} {us : List Value}, Vals vs us → Vals vs.reverse us.reverse
  | _, _, .nil => .nil
  | _, _, .cons h t => by
    rw [List.reverse_cons, List.reverse_cons]
    exact (vals_rev t).append (.cons h .nil)
theorem pe_calKw {ks : List Str} {kws : List Keyword} {tk : TA} (C : CalKw X.prog X.w X.K X.mg X.base k x ps ks sp) (hr : Room j X.A) (hkw : PK X kws tk) (hk : k ≤ j := by decide) (hg : Gl X x := by rfl) (hd : (x == ("__debug__" : Str)) = false := by decide)
    (hall : (backToKw pos (keywordEach kws X.env)).all (·.1.isSome) = true := by rfl) (hks : (backToKw pos (keywordEach kws X.env)).filterMap (·.1) = ks := by rfl)
    (hpl : ((backTo pos (starEach [] X.env)).any (·.1) || (backToKw pos (keywordEach kws X.env)).any (·.1.isNone)) = false := by rfl) : PE X (.Call (.Name x p) [] kws pos) (tCallKw sp ks.length tk) := by
  obtain ⟨f, fd, hm, hkp, F, hb⟩ := C.ex
  refine ⟨fun pins s σ H Q I h => ?_⟩
  refine wpAny_Call_Name_kw (ld_glob I hg hm ?_ hd)
  refine PySem.W.callWith_KW0 (h₀ := X.base) I.ok.mod.kin hkp hall ?_ hpl
  refine thn (hkw.run pos pins s σ H _ I h) fun ws s2 ⟨zs, H2, I2, rz, l2, q2⟩ => ⟨I2.kIn, ?_⟩
  rw [hks]
  refine wpAny_call (codeAny_mono (F.run X.A X.stack s2 H2 ⟨[], ks.zip ws⟩ ws.reverse zs.reverse Q E0 (hr.mono hk) I2.env0 (hb s2 ws (rz.length.symm.trans l2)) (vals_rev rz) q2) fun r s' hq => ?_)
  match r, hq with
  | .error e, hq => exact (show False from hq).elim
  | .ok (.ret u), hq => exact I2.after hq
  | .ok .next, hq => exact False.elim hq
  | .ok .brk, hq => exact False.elim hq
  | .ok .cont, hq => exact False.elim hq
end
section
variable {P : Program} {w : World} {K : PySem.W.Frag} {mg : Str → Option Value} {base : Heap} {Cb : Addr}
theorem fnok_of {k : Nat} {x : Str} {N ps : List Str} {R : Hp → List Dt → (Dt → Prop) → Prop} {st : Stmt} (S : FnScope N ps (defScope st)) (len : ∀ H ds C, R H ds C → ds.length = ps.length)
    (hbody : ∀ (f cdv : _) (A : Around) (outer : List Env) (s : Shared) (H : Hp), Room k (A.deeper (PyProof.Rows.envOfC x (defScope st) s.heap.objs.size f cdv)) → ∀ (E : XK), ∃ t, PSs (cxOf CX0 P w K mg base N x (defScope st) f cdv A outer s H E).nox (defBody st) t ∧
      ∀ (ds : List Dt) (C : Dt → Prop) (vs : List V), DqA H vs ds → R H ds C → ∀ D : Ends, (∀ v d H2, Ex H H2 → C d → Dq H2 v d → D.rt v H2) → (∀ σ H2, Ex H H2 → C .non → D.nx σ H2) → t D (L2.start N vs) H) : ∀ f fd, Fun K x x st f fd → FnOk P w K mg base CX0 (k + 1) f fd ps (spR R) := fun f fd F => by
  refine F.ok S (fun vs H Q E h => ?_) (fun cdv A outer s H vs Q E hr h => ?_)
  · obtain ⟨ds, C, hd, hR, _⟩ := h
    rw [hd.len]
    exact len H ds C hR
  · obtain ⟨ds, C, hd, hR, k⟩ := h
    obtain ⟨t, ht, hq⟩ := hbody f cdv A outer s H hr E
    exact ⟨t, ht, hq ds C vs hd hR _ (fun v d H2 e c q => k v d H2 e c q) fun σ H2 e c => k .non .non H2 e c .non⟩
theorem calKw_of {k : Nat} {x : Str} {ps ks : List Str} {sp : Sp} {st : Stmt} (F : DefAt K mg x st) (h : ∀ f fd, Fun K x x st f fd → FnOk P w K mg base CX0 k f fd ps sp)
    (hb : ∀ (kV doc pm : Value) (an : Option Addr) (cdv ct : Value) (ws : List Value), ws.length = ks.length → bindArgs (PySem.W.fnOf x x (defArgs st) (defBody st) (defScope st) .none kV doc pm an cdv ct) ⟨[], ks.zip ws⟩ = pure (ps.zip ws.reverse)) : CalKw P w K mg base k x ps ks sp := by
  obtain ⟨f, fd, F, hm⟩ := F.ex
  have F' := F
  obtain ⟨oc, od, kV, doc, pm, an, cdv, ct, osl, rfl, lk, hcd⟩ := F'.ex
  exact ⟨f, _, hm, F.kp, h f _ F, fun s ws hl => .of_eq (hb _ _ _ _ _ _ ws hl)⟩
abbrev K_cc : List Str := ["cuts", "start", "book"]
theorem k_trees_of (T : Txt mg) (B : BkCls K Cb) (F : DefAt K mg "trees_of" st_trees_of) {f1 : Addr} (h_one_way : mg "one_way" = some (.ref f1)) (C_check_count : Cal P w K mg base CX0 4 "check_count" P_cc (spR (R_cc Cb))) (C_tree_table : Cal P w K mg base CX0 8 "tree_table" P_tt (spTT Cb g1 f1)) : CalKw P w K mg base 9 "trees_of" P_cc K_cc (spR (R_count Cb g1)) := by
  refine calKw_of F (fnok_of sc_trees_of (fun _ _ _ ⟨_, _, _, _, e, _⟩ => by rw [e]; rfl) fun f cdv A outer s H hr E => ?_) (fun _ _ _ _ _ _ ws hl => match ws, hl with | [_, _, _], _ => rfl)
  refine ⟨_, (pss_cons (ps_expr (pe_cal C_check_count hr pass0 (pa_cons (pv 0) (pa_cons (pv 1) (pa_cons (pv 2) pa_nil)))))
      (pss_one (ps_ret (pe_ix ix_U (pe_dget (FW.Room.hu1 hr) (pe_cal C_tree_table hr pass0 (pa_cons (pv 0) (pa_cons (pv 1) (pa_cons (pv 2) (pa_cons (pe_globR h_one_way) pa_nil))))) (pv 1) (fun _ _ => rfl)) (pv 2) (fun _ _ => rfl))))), ?_⟩
  rintro ds C vs hd ⟨a, sp, r, n, rfl, hb, ok, hrm, hn, rfl⟩ D kr kn
  obtain ⟨x, y, z, rfl, hx, hy, hz⟩ := dqa3 hd
  refine g_drop (C := fun d => d = .non) (ed_call (a3 (xv hx) (xv hy) (xv hz)) fun H1 e => ⟨a, sp, r, n, rfl, hb.mono e, hrm, hn, rfl⟩) fun v d H1 e1 _ _ => ?_
  exact rtD (ec_ttget (a4 (xv (hx.mono e1)) (xv (hy.mono e1)) (xv (hz.mono e1)) ed_ref) (hb.mono e1) ok hrm hn (xv (hy.mono e1)) (xv (hz.mono e1))) e1 kr
theorem k_histories_of (T : Txt mg) (B : BkCls K Cb) (F : DefAt K mg "histories_of" st_histories_of) {f2 : Addr} (h_ways_between : mg "ways_between" = some (.ref f2)) (C_check_count : Cal P w K mg base CX0 4 "check_count" P_cc (spR (R_cc Cb))) (C_tree_table : Cal P w K mg base CX0 8 "tree_table" P_tt (spTT Cb g2 f2)) : CalKw P w K mg base 9 "histories_of" P_cc K_cc (spR (R_count Cb g2)) := by
  refine calKw_of F (fnok_of sc_histories_of (fun _ _ _ ⟨_, _, _, _, e, _⟩ => by rw [e]; rfl) fun f cdv A outer s H hr E => ?_) (fun _ _ _ _ _ _ ws hl => match ws, hl with | [_, _, _], _ => rfl)
  refine ⟨_, (pss_cons (ps_expr (pe_cal C_check_count hr pass0 (pa_cons (pv 0) (pa_cons (pv 1) (pa_cons (pv 2) pa_nil)))))
      (pss_one (ps_ret (pe_ix ix_U (pe_dget (FW.Room.hu1 hr) (pe_cal C_tree_table hr pass0 (pa_cons (pv 0) (pa_cons (pv 1) (pa_cons (pv 2) (pa_cons (pe_globR h_ways_between) pa_nil))))) (pv 1) (fun _ _ => rfl)) (pv 2) (fun _ _ => rfl))))), ?_⟩
  rintro ds C vs hd ⟨a, sp, r, n, rfl, hb, ok, hrm, hn, rfl⟩ D kr kn
  obtain ⟨x, y, z, rfl, hx, hy, hz⟩ := dqa3 hd
  refine g_drop (C := fun d => d = .non) (ed_call (a3 (xv hx) (xv hy) (xv hz)) fun H1 e => ⟨a, sp, r, n, rfl, hb.mono e, hrm, hn, rfl⟩) fun v d H1 e1 _ _ => ?_
  exact rtD (ec_ttget (a4 (xv (hx.mono e1)) (xv (hy.mono e1)) (xv (hz.mono e1)) ed_ref) (hb.mono e1) ok hrm hn (xv (hy.mono e1)) (xv (hz.mono e1))) e1 kr
end
/-! ### values that are no data: told by the heap -/
section
variable {K : PySem.W.Frag} {σ : L2.St} {H H' : Hp} {ta tb tc td te : TE} {D : Ends} {tz : TS} {A B C : Dt → Prop} {Pd : V → Hp → Prop}
def EvP (te : TE) (σ : L2.St) (H : Hp) (Pd : V → Hp → Prop) : Prop := ∀ H1, Ex H H1 → ∀ Q : VK, (∀ v H2, Ex H1 H2 → Pd v H2 → Q v H2) → te σ H1 Q
theorem g_asgP {i : Nat} (h : EvP te σ H Pd) (k : ∀ v H1, Ex H H1 → Pd v H1 → tz D (σ.set i (some v)) H1) : tSeq (tAsg te (gName i)) tz D σ H := h H (Ex.refl H) _ fun v H1 e p => k v H1 e p
theorem g_tup3P {i j l : Nat} (ha : EvP ta σ H Pd) (hm : ∀ v H H', Ex H H' → Pd v H → Pd v H') (hb : EvC tb σ H B) (hc : EvC tc σ H C) (k : ∀ v w x b c H1, Ex H H1 → Pd v H1 → B b → C c → Dq H1 w b → Dq H1 x c → tz D (((σ.set i (some v)).set j (some w)).set l (some x)) H1) :
    tSeq (tAsg (tTup (tCons ta (tCons tb (tCons tc tNil)))) (gTup K 3 (gCons (gName i) (gCons (gName j) (gCons (gName l) gNil))))) tz D σ H :=
  ha H (Ex.refl H) _ fun v H1 e1 pv => hb H1 e1 _ fun w b H2 e2 cb dw => hc H2 (e1.trans e2) _ fun x c H3 e3 cc dx => ⟨by show 3 ≤ sizeLine; decide, fun p hp => ⟨p, [v, w, x], rfl, sqT_of upd_same, rfl, v, [w, x], rfl, w, [x], rfl, x, [], rfl, rfl,
    k v w x b c _ (((e1.trans e2).trans e3).trans (Ex.new hp)) (hm _ _ _ ((e2.trans e3).trans (Ex.new hp)) pv) cb cc (dw.mono (e3.trans (Ex.new hp))) (dx.mono (Ex.new hp))⟩⟩
theorem g_tup4P {i j l m : Nat} {c d : Dt} (ha : EvP ta σ H Pd) (hm : ∀ v H H', Ex H H' → Pd v H → Pd v H') (hb : EvC tb σ H B) (hc : EvD tc σ H c) (hd : EvD td σ H d) (k : ∀ v w x y b H1, Ex H H1 → Pd v H1 → B b → Dq H1 w b → Dq H1 x c → Dq H1 y d → tz D ((((σ.set i (some v)).set j (some w)).set l (some x)).set m (some y)) H1) :
    tSeq (tAsg (tTup (tCons ta (tCons tb (tCons tc (tCons td tNil))))) (gTup K 4 (gCons (gName i) (gCons (gName j) (gCons (gName l) (gCons (gName m) gNil)))))) tz D σ H :=
  ha H (Ex.refl H) _ fun v H1 e1 pv => hb H1 e1 _ fun w b H2 e2 cb dw => hc H2 (e1.trans e2) _ fun x c' H3 e3 cc dx => hd H3 ((e1.trans e2).trans e3) _ fun y d' H4 e4 cd dy => by
    subst cc cd
    refine ⟨by show 4 ≤ sizeLine; decide, fun p hp => ⟨p, [v, w, x, y], rfl, sqT_of upd_same, rfl, v, [w, x, y], rfl, w, [x, y], rfl, x, [y], rfl, y, [], rfl, rfl, ?_⟩⟩
    have en := Ex.new (o := HO.tup [v, w, x, y]) hp
    exact k v w x y b _ ((((e1.trans e2).trans e3).trans e4).trans en) (hm _ _ _ (((e2.trans e3).trans e4).trans en) pv) cb (dw.mono ((e3.trans e4).trans en)) (dx.mono (e4.trans en)) (dy.mono en)
/-- a book -/
def isBk (Cb : Addr) (sp : Spec) : V → Hp → Prop := fun v H => ∃ a, v = .ref a ∧ BkAt Cb a sp H
theorem isBk_mono {Cb : Addr} {sp : Spec} (v : V) (H H' : Hp) (e : Ex H H') (h : isBk Cb sp v H) : isBk Cb sp v H' := by
  obtain ⟨a, e1, h⟩ := h
  exact ⟨a, e1, h.mono e⟩
theorem ep_book {Cb : Addr} {sp : Spec} {E : XK} {t : TA} (h : EvAD t σ H [Spec.d sp]) (ok : SpecOk sp) : EvP (tCall (spLawBook Cb) [] E t) σ H (isBk Cb sp) := fun H1 e Q q => h H1 e _ fun vs H2 e2 k => ⟨sp, by rw [app_nil']; exact k, ok, fun a H3 e3 hb => q _ H3 (e2.trans e3) ⟨a, rfl, hb⟩⟩
theorem ep_read {Cb : Addr} {sp : Spec} {E : XK} {t : TA} {to : TE} (ho : EvD to σ H (.obj Cb)) (h : EvAD t σ H [.str (bookTxt sp)]) (ok : SpecOk sp) : EvP (tSMeth Cb (spRead Cb) E to t) σ H (isBk Cb sp) := fun H1 e Q q => ho H1 e _ fun v d H2 e2 c dv => by
  subst c
  cases dv
  refine ⟨rfl, h H2 (e.trans e2) _ fun vs H3 e3 k => ?_⟩
  obtain ⟨x, rfl, hx⟩ := dqa1 k
  cases hx
  exact ⟨sp, rfl, ok, fun a H4 e4 hb => q _ H4 ((e2.trans e3).trans e4) ⟨a, rfl, hb⟩⟩
theorem ep_make {Cb : Addr} {sp : Spec} {E : XK} {t : TA} (h : EvAD t σ H ([.str sp.fc, .str sp.ct] ++ sp.ls.map Ln.d)) (ok : SpecOk sp) : EvP (StX.tMakeR Cb (spIni Cb) E t) σ H (isBk Cb sp) := fun H1 e Q q => h H1 e _ fun vs H5 e5 kv x dx hx hdx hne => by
  cases kv with
  | cons k1 kv =>
    cases kv with
    | cons k2 kv =>
      cases k1
      cases k2
      rename_i ls
      have h5 : Ex H5 (upd (upd H5 dx (.own x)) x (.ins Cb dx [])) := (Ex.new hdx).trans (Ex.new (by rw [upd_ne (Ne.symm hne)]; exact hx))
      refine ⟨x, dx, sp, ls, rfl, upd_same, kv.mono h5, ok, fun v H6 e6 h6 d6 => ⟨rfl, q _ H6 ?_ ⟨x, rfl, dx, v, h6, d6⟩⟩⟩
      refine e5.trans (fun b o z => e6 b o ?_)
      have hb : b ≠ x := fun w => by
        rw [w, hx] at z
        cases z
      rw [hid_ne hb, upd_ne hb]
      exact Ex.new hdx b o z
/-- by keywords -/
theorem ed_kw3 {R : Hp → List Dt → (Dt → Prop) → Prop} {C : Dt → Prop} {t : TA} {a b c : Dt} (h : EvAD t σ H [c, b, a]) (hR : ∀ H1, Ex H H1 → R H1 [a, b, c] C) : EvC (tCallKw (spR R) 3 t) σ H C := fun H1 e Q q => h H1 e _ fun vs H2 e2 k => by
  obtain ⟨x, y, z, rfl, hx, hy, hz⟩ := dqa3 k
  exact ⟨rfl, [a, b, c], C, .cons hz (.cons hy (.cons hx .nil)), hR H2 (e.trans e2), fun v d H3 e3 c dq => q v d H3 (e2.trans e3) c dq⟩
theorem ed_neg {i : Int} (ha : EvD ta σ H (.int i)) : EvD (tUn (rU fun i => .int (-i)) ta) σ H (.int (-i)) := ec_un ha fun x a H1 _ ca hx Q q => by
  subst ca
  cases hx
  exact ⟨i, rfl, q _ _ H1 (Ex.refl H1) rfl (.int _)⟩
end
end FW
set_option maxRecDepth 100000
set_option maxHeartbeats 8000000
/-! # FX18: readings that the law needs -/
namespace FW
open PySem PySem.Spec PyProof.Rows L2
open Evl (Ex Ex.refl Ex.trans Ex.new Ex.mut EvT)
theorem Ft_congr {g g' : Nat → Nat → Nat} (sp : Spec) (h : ∀ m j, m < 30 → j ≤ m → g m j = g' m j) : ∀ m, m ≤ 30 → ∀ r, Ft g sp m r = Ft g' sp m r
  | 0, _, r => rfl
  | m + 1, hm, r => by
    have ih := Ft_congr sp h m (by omega)
    have ef : Ft g sp m = Ft g' sp m := funext ih
    show Ft g sp m r ++ [stepF g sp (Ft g sp m) m r] = Ft g' sp m r ++ [stepF g' sp (Ft g' sp m) m r]
    rw [ef]
    congr 2
    unfold stepF
    congr 1
    refine List.map_congr_left fun k _ => ?_
    unfold inner
    refine sumTo_congr _ fun j hj => ?_
    unfold term
    rw [h m j (by omega) (by omega)]
theorem Fv_gw (b : Bool) (sp : Spec) (n : Nat) (hn : n ≤ 30) (r : List Nat) : Fv (gw b) sp n r = Fv (if b then g2 else g1) sp n r := by
  cases b with
  | false => rfl
  | true =>
    show (Ft cn sp n r).getD n 0 = (Ft g2 sp n r).getD n 0
    rw [Ft_congr sp (fun m j hm hj => cn_g2 (by omega) hj) n hn r]
section
variable {K : PySem.W.Frag} {σ : L2.St} {H H' : Hp} {ta : TA} {te ty tz : TE} {E : XK} {Cb : Addr} {t : TT} {tu tw : TS} {D : Ends}
theorem ed_ltc {sp : Spec} {r : List Nat} {n : Nat} {b : Bool} (h : EvAD ta σ H [Spec.d sp, .str r, .int (n : Int), .bl b]) (ok : SpecOk sp) (hrm : rmOf r sp.fc) (hn : n ≤ 30) (hy : EvD ty σ H (.str r)) (hz : EvD tz σ H (.int (n : Int))) :
    EvD (tOp (rIxU K) (tDGet (tCall spLTC [] E ta) ty) tz) σ H (.int (Fv (gw b) sp n r : Nat)) := by
  refine ed_ix (a := .lst (intsD (Ft (gw b) sp n r))) ?_ hz (atI_nat (ints_at (by rw [Ft_len]; omega))) (by show (intsD _).length ≤ 100000; rw [ints_len, Ft_len]; omega)
  refine fun H1 e Q q => h H1 e _ fun vs H2 e2 k => ?_
  refine ⟨sp, r, n, b, by rw [app_nil']; exact k, ok, hrm, hn, fun Fd kvs v H3 e3 hF hv dv => ?_⟩
  refine hy H3 ((e.trans e2).trans e3) _ fun y d' H4 e4 c k' => ?_
  subst c
  cases k'
  have gg := DGet.k (k := kS r) (e4 _ _ hF)
  rw [hv] at gg
  exact ⟨Fd, _, rfl, gg, q _ _ H4 ((e2.trans e3).trans e4) rfl (dv.mono e4)⟩
theorem ed_count {g : Nat → Nat → Nat} {a : Addr} {sp : Spec} {r : List Nat} {n : Nat} (h : EvAD ta σ H [.obj a, .str r, .int ((n : Nat) : Int)]) (hb : BkAt Cb a sp H) (ok : SpecOk sp) (hrm : rmOf r sp.fc) (hn : n ≤ 30) : EvD (tCall (spR (R_count Cb g)) [] E ta) σ H (.int (Fv g sp n r : Nat)) :=
  ed_call h fun H1 e => ⟨a, sp, r, n, rfl, hb.mono e, ok, hrm, hn, rfl⟩
theorem ed_countK {g : Nat → Nat → Nat} {a : Addr} {sp : Spec} {r : List Nat} {n : Nat} (h : EvAD ta σ H [.int ((n : Nat) : Int), .str r, .obj a]) (hb : BkAt Cb a sp H) (ok : SpecOk sp) (hrm : rmOf r sp.fc) (hn : n ≤ 30) : EvD (tCallKw (spR (R_count Cb g)) 3 ta) σ H (.int (Fv g sp n r : Nat)) :=
  ed_kw3 h fun H1 e => ⟨a, sp, r, n, rfl, hb.mono e, ok, hrm, hn, rfl⟩
theorem ed_same {n : Nat} {d : Dt} (h : EvAD ta σ H [d, d]) (sm : SmD n d) : EvD (tCall (spR (R_same n)) [] E ta) σ H (.bl true) := ed_call h fun H1 e => ⟨d, rfl, sm, rfl⟩
theorem et_nsame {n : Nat} {d : Dt} (h : EvAD ta σ H [d, d]) (sm : SmD n d) : EvB (tNot (tTest (tCall (spR (R_same n)) [] E ta))) σ H false := et_not (et_T (ed_same h sm))
theorem sm_l {n : Nat} {ds : List Dt} (h : ∀ x ∈ ds, ScD x) (hl : ds.length ≤ 1000) : SmD (n + 1) (.lst ds) := .inr ⟨ds, .inl rfl, hl, fun x hx => by
  cases n with
  | zero => exact h x hx
  | succ n => exact .inl (h x hx)⟩
theorem sm_t {n : Nat} {ds : List Dt} (h : ∀ x ∈ ds, ScD x) (hl : ds.length ≤ 1000) : SmD (n + 1) (.tup ds) := .inr ⟨ds, .inr rfl, hl, fun x hx => by
  cases n with
  | zero => exact h x hx
  | succ n => exact .inl (h x hx)⟩
/-- an if whose end is told by its state -/
theorem g_whenPost {b : Bool} (Post : L2.St → Hp → Prop) (h : EvB t σ H b) (h1 : b = true → ∀ H1, Ex H H1 → ∀ nx : L2.St → Hp → Prop, (∀ σ' H', Post σ' H' → nx σ' H') → tu { D with nx := nx } σ H1) (h2 : b = false → ∀ H1, Ex H H1 → Post σ H1)
    (rest : ∀ σ' H', Post σ' H' → tw D σ' H') : tSeq (tIfS t tu tNext) tw D σ H := g_whenD h (fun hb H1 e => h1 hb H1 e _ rest) fun hb H1 e => rest _ _ (h2 hb H1 e)
end
/-! ### wrong values -/
theorem lower_ge {f : List Nat} (h : Rising f lowerL) : ∀ c ∈ f, 97 ≤ c ∧ c ≤ 122 := fun c hc => by
  have z := h.sub c hc
  revert c
  intro c _ z
  have : ∀ c ∈ lowerL, 97 ≤ c ∧ c ≤ 122 := by decide
  exact this c z
def badRoom (fc : List Nat) (e : Dt) : Prop := isRoomD e fc = false ∧ noObj e ∧ okL e ∧ SmD 1 e
theorem odd_bad {f : List Nat} {c g : Nat} (h : Rising f lowerL) (hc : c ∈ f) (hg : g ∉ f) : ∀ e ∈ oddL c g, badRoom f e := by
  have h10 : (10 : Nat) ∉ f := fun z => by have := lower_ge h 10 z; omega
  have h65 : (65 : Nat) ∉ f := fun z => by have := lower_ge h 65 z; omega
  have h124 : (124 : Nat) ∉ f := fun z => by have := lower_ge h 124 z; omega
  intro e he
  unfold oddL at he
  simp only [List.mem_cons, List.not_mem_nil, or_false] at he
  rcases he with rfl | rfl | rfl | rfl | rfl | rfl | rfl | rfl | rfl | rfl | rfl | rfl | rfl | rfl
  · exact ⟨by simp [isRoomD], trivial, by simp [okL], .inl trivial⟩
  · exact ⟨by simp [isRoomD], trivial, by simp [okL], .inl trivial⟩
  · exact ⟨by simp [isRoomD], trivial, by simp [okL], .inl trivial⟩
  · exact ⟨by simp [isRoomD, isStringD, hg], trivial, by simp [okL], .inl trivial⟩
  · exact ⟨by simp [isRoomD, isStringD, hg], trivial, by simp [okL], .inl trivial⟩
  · exact ⟨by simp [isRoomD], trivial, trivial, .inl trivial⟩
  · exact ⟨by simp [isRoomD], trivial, trivial, .inl trivial⟩
  · exact ⟨by simp [isRoomD], trivial, trivial, .inl trivial⟩
  · exact ⟨by simp [isRoomD], trivial, by simp [okL], sm_l (n := 0) (fun x hx => by rw [List.mem_singleton.mp hx]; trivial) (by simp)⟩
  · refine ⟨by simp [isRoomD], trivial, by simp [okL], sm_t (n := 0) (fun x hx => ?_) (by simp)⟩
    simp at hx
    rw [hx]
    trivial
  · exact ⟨by simp [isRoomD, isStringD, h124], trivial, by simp [okL], .inl trivial⟩
  · exact ⟨by simp [isRoomD, isStringD, h65], trivial, by simp [okL], .inl trivial⟩
  · exact ⟨by simp [isRoomD], trivial, by simp [okL], .inl trivial⟩
  · exact ⟨by simp [isRoomD, isStringD, h10], trivial, by simp [okL], .inl trivial⟩
def coldL : List Dt := [.int (-1), .int 31, .non, .bl true, .str [49], .lst [.int 1], .int (10 ^ 17)]
def badNum (e : Dt) : Prop := isNumD e 0 30 = false ∧ noObj e ∧ SmD 1 e
theorem cold_bad : ∀ e ∈ coldL, badNum e := by
  intro e he
  unfold coldL at he
  simp only [List.mem_cons, List.not_mem_nil, or_false] at he
  rcases he with rfl | rfl | rfl | rfl | rfl | rfl | rfl
  · exact ⟨by decide, trivial, .inl trivial⟩
  · exact ⟨by decide, trivial, .inl trivial⟩
  · exact ⟨rfl, trivial, .inl trivial⟩
  · exact ⟨rfl, trivial, .inl trivial⟩
  · exact ⟨rfl, trivial, .inl trivial⟩
  · exact ⟨rfl, trivial, sm_l (n := 0) (fun x hx => by rw [List.mem_singleton.mp hx]; trivial) (by simp)⟩
  · exact ⟨by decide, trivial, .inl trivial⟩
/-- the small book -/
theorem small_ok {sp : Spec} (h : SpecOk sp) : SpecOk ⟨sp.fc, sp.ct.take 2, []⟩ := by
  have hc := h.ct
  refine ⟨h.fc, ⟨hc.pw.sublist (List.take_sublist _ _), ?_, ?_, fun c z => hc.asc c (List.mem_of_mem_take z), fun c z => hc.sub c (List.mem_of_mem_take z)⟩, h.f3, ?_, Nat.zero_le _, fun l hl => by cases hl⟩
  · have := hc.ne
    rw [List.length_take]
    omega
  · have := hc.le
    rw [List.length_take]
    omega
  · rw [List.length_take]
    omega
theorem cut2 {α : Type} (l : List α) : cutL l none (some 2) = l.take 2 := by
  unfold cutL
  have h1 : HT.sIx l.length 0 none = 0 := rfl
  have h2 : HT.sIx l.length l.length (some 2) = min 2 l.length := by
    unfold HT.sIx
    simp
  rw [h1, h2, List.drop_zero, Nat.sub_zero]
  by_cases z : 2 ≤ l.length
  · rw [Nat.min_eq_left z]
  · rw [Nat.min_eq_right (by omega), List.take_length, List.take_of_length_le (by omega)]
end FW
set_option maxRecDepth 100000
set_option maxHeartbeats 16000000
/-! # FX19: the law -/
namespace FW
open PySem PySem.Spec PyProof.Rows L2
open Evl (Ex Ex.refl Ex.trans Ex.new Ex.mut EvT)
section
variable {P : Program} {w : World} {K : PySem.W.Frag} {mg : Str → Option Value} {base : Heap} {Cb C1 C2 : Addr}
def unStp : Dt → Ad × Nat
  | .tup [.str a, .str [k]] => (a, k)
  | _ => ([], 0)
def unRw : Dt → Rw8
  | .lst ds => ds.map unStp
  | _ => []
theorem unRw_rw (h : Rw8) : unRw (rwD h) = h := by
  show (h.map stpD).map unStp = h
  rw [List.map_map]
  exact List.map_id _
theorem exN_obj {H H' : Hp} {f : Addr} {o : Obj} (e : LamX.ExtN H H') (h : H f = some (ObjO f o)) : H' f = some (ObjO f o) := e _ _ h fun _ => objO_tbl
theorem exN_code {H H' : Hp} {f : Addr} {q : Str} (e : LamX.ExtN H H') (h : H f = some (LamX.CodeO f q)) : H' f = some (LamX.CodeO f q) := e _ _ h LamX.codeO_ne
theorem exN_df {H H' : Hp} {dV : Value} {d : V} (e : LamX.ExtN H H') (h : DfO H dV [d]) : DfO H' dV [d] := by
  obtain ⟨t, h1, h2⟩ := h
  exact ⟨t, h1, e _ _ h2 fun ps z => by cases z⟩
theorem exN_dq {H H' : Hp} {v : V} {d : Dt} (e : LamX.ExtN H H') (h : Dq H v d) : Dq H' v d := h.seq (fun a xs q => e _ _ q fun ps z => by cases z) fun a xs q => e _ _ q fun ps z => by cases z
theorem exN_bk {H H' : Hp} {Cb a : Addr} {sp : Spec} (e : LamX.ExtN H H') (h : BkAt Cb a sp H) : BkAt Cb a sp H' := by
  obtain ⟨dx, v, h1, h2⟩ := h
  exact ⟨dx, v, e _ _ h1 (fun ps z => by cases z), exN_dq e h2⟩
theorem exN_ex {H H' : Hp} (e : Ex H H') : LamX.ExtN H H' := fun b o h _ => e b o h
theorem atI_mem {α : Type} {xs : List α} {i : Int} {x : α} (h : atI xs i = some x) : x ∈ xs := by
  unfold atI at h
  cases q : ixN xs.length i with
  | none =>
    rw [q] at h
    cases h
  | some j =>
    rw [q] at h
    exact List.mem_of_getElem? (i := j) (by simpa using h)
theorem fac_le : ∀ {i : Nat}, i ≤ 30 → fac i ≤ 2 ^ (5 * i)
  | 0, _ => Nat.le_refl 1
  | i + 1, h => by
    have ih := fac_le (i := i) (by omega)
    show fac i * (i + 1) ≤ _
    have h2 : i + 1 ≤ 2 ^ 5 := by
      have : (2 : Nat) ^ 5 = 32 := by decide
      omega
    refine Nat.le_trans (Nat.mul_le_mul ih h2) ?_
    rw [← Nat.pow_add]
    exact Nat.pow_le_pow_right (by decide) (by omega)
abbrev LA (a b : Addr) (vsp : V) (bk : Addr) (r : List Nat) (n : Nat) (p6 p7 p8 p9 p10 p11 p12 p13 p14 p15 p16 p17 p18 p19 p20 p21 p22 p23 p24 : Option V) : L2.St := [some (.ref a), some (.ref b), some vsp, some (.ref bk), some (.str (FW.S r)), some (.int (n : Int)), p6, p7, p8, p9, p10, p11, p12, p13, p14, p15, p16, p17, p18, p19, p20, p21, p22, p23, p24]
theorem ix_UK (K : PySem.W.Frag) {X : Cx} (h : X.K = K := by rfl) : IxR X (rIxU K) := by
  subst h
  exact ix_U
abbrev st_law : Stmt := top 78
theorem sc_law : FnScope ["_law_script", "_law_bag", "_law_spec", "_law_book_z", "_law_start_z", "_law_cuts_z", "_law_due", "_law_turn", "_law_few", "_law_listed_here", "_law_small", "_law_plains", "_law_unlike", "_law_two", "_law_late", "_law_doubled", "_law_orders", "_law_k", "_law_odd", "_law_cold", "_law_asks", "_law_woven", "_law_at", "_law_row", "_law_steps"] ["_law_script"] (defScope st_law) := ⟨rfl, rfl, rfl, by decide +kernel, rfl, by decide +kernel, by decide +kernel⟩
abbrev N_law : List Str := ["_law_script", "_law_bag", "_law_spec", "_law_book_z", "_law_start_z", "_law_cuts_z", "_law_due", "_law_turn", "_law_few", "_law_listed_here", "_law_small", "_law_plains", "_law_unlike", "_law_two", "_law_late", "_law_doubled", "_law_orders", "_law_k", "_law_odd", "_law_cold", "_law_asks", "_law_woven", "_law_at", "_law_row", "_law_steps"]
def spLaw (K : PySem.W.Frag) (Pt : Addr) : Sp := fun vs H Q _ => ∃ (a : Addr) (zs : List Int), vs = [.ref a] ∧ SqL K H a (zs.map V.int) ∧ zs.length ≤ 63 ∧ H Pt = some (.tbl #[]) ∧ ∀ v H', v = V.bl true → Q v H'
/-- what the law calls -/
structure LawCals (P : Program) (w : World) (K : PySem.W.Frag) (mg : Str → Option Value) (base : Heap) (Cb C1 C2 : Addr) (mc : Value) (cs : List Value) : Prop where
  T : Txt mg
  B : BkCls K Cb
  M : BkMost K Cb mc
  book : mg "Book" = some (.ref Cb)
  N : Ini P w K mg base CX0 4 Cb (spIni Cb)
  R : Sal P w K mg base CX0 6 Cb mc "read" ["text"] (spRead Cb)
  open_ : Cal P w K mg base CX0 1 "_law_open" ["_law_script"] (spOpen K)
  draw : CDr P w K mg base
  of_ : COf P w K mg base
  some_book : Cal P w K mg base CX0 5 "_law_some_book" ["_law_bag", "_law_sizes"] (spR R_sbook)
  some_room : Cal P w K mg base CX0 3 "_law_some_room" ["_law_bag", "_law_faces"] (spR R_room)
  lbook : Cal P w K mg base CX0 7 "_law_book" ["_law_spec"] (spLawBook Cb)
  btext : Cal P w K mg base CX0 2 "_law_book_text" ["_law_spec"] (spR R_book_text)
  counts : Cal P w K mg base CX0 7 "_law_tree_counts" P_ltc spLTC
  same : CSm P w K mg base 3
  trees : Cal P w K mg base CX0 9 "trees_of" P_cc (spR (R_count Cb g1))
  hists : Cal P w K mg base CX0 9 "histories_of" P_cc (spR (R_count Cb g2))
  treesK : CalKw P w K mg base 9 "trees_of" P_cc K_cc (spR (R_count Cb g1))
  histsK : CalKw P w K mg base 9 "histories_of" P_cc K_cc (spR (R_count Cb g2))
  treesX : Cal P w K mg base (L2N.CX P w) 9 "trees_of" P_cc (spBad3 Cb C1 C2)
  histsX : Cal P w K mg base (L2N.CX P w) 9 "histories_of" P_cc (spBad3 Cb C1 C2)
  listed : Cal P w K mg base CX0 6 "_law_listed" ["_law_spec", "_law_start_z", "_law_cuts_z"] (spR R_law_listed)
  choose : Cal P w K mg base CX0 1 "_law_choose" ["_law_many", "_law_some"] (spR R_choose)
  odd_room : Cal P w K mg base CX0 3 "_law_odd_room" ["_law_bag", "_law_faces"] (spR R_odd)
  tries : Cal P w K mg base CX0 13 "_law_tries" ["_law_asks"] (spTries P w K mg base 10 cs)
  x1 : XRd K C1
  x2 : XRd K C2
  m1 : PySem.W.exmAny K (.ref C1) cs = some true
  m2 : PySem.W.exmAny K (.ref C2) cs = some true
theorem ok_law {f c Pt : Addr} {oc kV doc pm ct : Value} {od an : Option Addr} {osl : Array (Option Value)} {mc : Value} {cs : List Value} (lk : K.lookup f = some ⟨oc, od, .func (PySem.W.fnOf "law" "law" (defArgs st_law) (defBody st_law) (defScope st_law) .none kV doc pm an (.ref c) ct), osl⟩) (hcd : PySem.W.codeIn K (.ref c) "law" = true)
    (TB : LamX.TabB base mg c Pt) (LC : LawCals P w K mg base Cb C1 C2 mc cs) : FnOk P w K mg base CX0 14 f (PySem.W.fnOf "law" "law" (defArgs st_law) (defBody st_law) (defScope st_law) .none kV doc pm an (.ref c) ct) ["_law_script"] (spLaw K Pt) := by
  have T := LC.T
  have B := LC.B
  have M := LC.M
  have h_Book := LC.book
  have N := LC.N
  have R := LC.R
  have C__law_open := LC.open_
  have C__law_draw := LC.draw
  have C__law_of := LC.of_
  have C__law_some_book := LC.some_book
  have C__law_some_room := LC.some_room
  have C__law_book := LC.lbook
  have C__law_book_text := LC.btext
  have C__law_tree_counts := LC.counts
  have C__law_same := LC.same
  have C_trees_of := LC.trees
  have C_histories_of := LC.hists
  have K_trees_of := LC.treesK
  have K_histories_of := LC.histsK
  have X_trees_of := LC.treesX
  have X_histories_of := LC.histsX
  have C__law_listed := LC.listed
  have C__law_choose := LC.choose
  have C__law_odd_room := LC.odd_room
  have C__law_tries := LC.tries
  refine fn_of lk hcd sc_law (fun _ _ _ _ ⟨_, _, e, _⟩ => by rw [e]; rfl) fun A outer s H vs Q E hr hsp => ?_
  suffices hh : ∃ t, PSs (cxOf CX0 P w K mg base N_law "law" (defScope st_law) f (.ref c) A outer s H E).nox (defBody st_law) t ∧ t { nx := fun _ H' => Q .non H', rt := Q } (L2.start N_law vs) H by
    obtain ⟨t, ht, hq⟩ := hh
    exact ⟨t, ht.nox, hq⟩
  refine ⟨_, (pss_cons (ps_set (i := 1) sc_law.nd rfl (Or.inl rfl) (pe_calC C__law_open hr (pa_cons (pv 0) pa_nil)))
      (pss_cons (ps_set (i := 2) sc_law.nd rfl (Or.inr rfl) (pe_cal C__law_some_book hr pass0 (pa_cons (pv 1) (pa_cons (pe_lst (pa_cons pe_int (pa_cons pe_int (pa_cons pe_int pa_nil)))) pa_nil))))
      (pss_cons (ps_asg (pe_tup (pa_cons (pe_cal C__law_book hr pass0 (pa_cons (pv 2) pa_nil)) (pa_cons (pe_cal C__law_some_room hr pass0 (pa_cons (pv 1) (pa_cons (pe_ix ix_U (pv 2) pe_int (fun _ _ => rfl)) pa_nil))) (pa_cons (pe_calO C__law_draw hr (pa_cons (pv 1) (pa_cons pe_int pa_nil))) pa_nil)))) (pg_tup rfl (pgs_cons (pg_name (i := 3) sc_law.nd rfl (Or.inr rfl)) (pgs_cons (pg_name (i := 4) sc_law.nd rfl (Or.inr rfl)) (pgs_cons (pg_name (i := 5) sc_law.nd rfl (Or.inr rfl)) pgs_nil)))))
      (pss_cons (ps_setLc (i := 6) (own := [("_law_woven", 21)]) (g := gName 21) rfl sc_law.nd rfl rfl (sw_true rfl rfl rfl (by decide +kernel)) (pi_list (pe_lst (pa_cons pe_bl (pa_cons pe_bl pa_nil)))) (blkOk_by (own := [("_law_woven", 21)]) (N := ["_law_script", "_law_bag", "_law_spec", "_law_book_z", "_law_start_z", "_law_cuts_z", "_law_due", "_law_turn", "_law_few", "_law_listed_here", "_law_small", "_law_plains", "_law_unlike", "_law_two", "_law_late", "_law_doubled", "_law_orders", "_law_k", "_law_odd", "_law_cold", "_law_asks", "_law_woven", "_law_at", "_law_row", "_law_steps"]) (sc := defScope st_law) (by decide +kernel)) (fun _ _ _ _ _ => (pg_name (i := 21) sc_law.nd rfl (Or.inl rfl))) (fun _ _ _ _ _ => pts_nilH) (fun _ _ _ _ _ => pe_hide (pe_ix (ix_UK K) (pe_dget (FW.Room.hu1 hr) (pe_cal C__law_tree_counts hr pass0 (pa_cons (pv 2) (pa_cons (pv 4) (pa_cons (pv 5) (pa_cons (pv 21) pa_nil))))) (pv 4) (fun _ _ => rfl)) (pv 5) (fun _ _ => rfl))))
      (pss_cons (ps_for PassesOwn.never rfl (pi_range1 rfl T.range (pa_cons pe_int pa_nil)) (pg_name (i := 7) sc_law.nd rfl (Or.inl rfl)) (pss_one (ps_if (pt_not (pt_val (pe_cal C__law_same hr pass0 (pa_cons (pe_lst (pa_cons (pe_cal C_trees_of hr pass0 (pa_cons (pv 3) (pa_cons (pv 4) (pa_cons (pv 5) pa_nil)))) (pa_cons (pe_calKw K_histories_of hr (pk_cons (pv 5) (pk_cons (pv 4) (pk_cons (pv 3) pk_nil)))) pa_nil))) (pa_cons (pv 6) pa_nil))))) (pss_one (ps_ret pe_bl)) pss_nil)))
      (pss_cons (ps_set (i := 8) sc_law.nd rfl (Or.inl rfl) (pe_calO C__law_draw hr (pa_cons (pv 1) (pa_cons pe_int pa_nil))))
      (pss_cons (ps_set (i := 9) sc_law.nd rfl (Or.inl rfl) (pe_cal C__law_listed hr pass0 (pa_cons (pe_lst (pa_cons (pe_ix ix_U (pv 2) pe_int (fun _ _ => rfl)) (pa_cons (pe_slice sl_U (pe_ix ix_U (pv 2) pe_int (fun _ _ => rfl)) po_none (po_some pe_int)) (pa_cons (pe_ix ix_U (pv 2) pe_int (fun _ _ => rfl)) pa_nil)))) (pa_cons (pv 4) (pa_cons (pv 8) pa_nil)))))
      (pss_cons (ps_set (i := 10) sc_law.nd rfl (Or.inl rfl) (pe_smeth (pe_globR h_Book) M.rd R hr pass0 (pa_cons (pe_cal C__law_book_text hr pass0 (pa_cons (pe_lst (pa_cons (pe_ix ix_U (pv 2) pe_int (fun _ _ => rfl)) (pa_cons (pe_slice sl_U (pe_ix ix_U (pv 2) pe_int (fun _ _ => rfl)) po_none (po_some pe_int)) (pa_cons (pe_lst pa_nil) pa_nil)))) pa_nil)) pa_nil)))
      (pss_cons (ps_if (pt_cmpR op_lt (pe_len T (pe_ix ix_U (pv 2) pe_int (fun _ _ => rfl))) pe_int (nomark _)) (pss_cons (ps_set (i := 11) sc_law.nd rfl (Or.inr rfl) (pe_sortB (FW.Room.hu hr) sb2 T (pe_lc (own := [("_law_steps", 24)]) (g := gName 24) rfl sc_law.nd (pi_list (pv 9)) (blkOk_by (own := [("_law_steps", 24)]) (N := ["_law_script", "_law_bag", "_law_spec", "_law_book_z", "_law_start_z", "_law_cuts_z", "_law_due", "_law_turn", "_law_few", "_law_listed_here", "_law_small", "_law_plains", "_law_unlike", "_law_two", "_law_late", "_law_doubled", "_law_orders", "_law_k", "_law_odd", "_law_cold", "_law_asks", "_law_woven", "_law_at", "_law_row", "_law_steps"]) (sc := defScope st_law) (by decide +kernel)) (fun _ _ _ _ _ => (pg_name (i := 24) sc_law.nd rfl (Or.inl rfl))) (fun _ _ _ _ _ => pts_nilH) (fun _ _ _ _ _ => pe_hide (pe_sortB (FW.Room.hu hr) sb1 T (pv 24))))))
        (pss_cons (ps_setLc (i := 12) (own := [("_law_at", 22), ("_law_row", 23)]) (g := gTup K 2 (gCons (gName 22) (gCons (gName 23) gNil))) rfl sc_law.nd rfl rfl (sw_true rfl rfl rfl (by decide +kernel)) (pi_enum rfl T.enumerate (pa_cons (pv 11) pa_nil)) (blkOk_by (own := [("_law_at", 22), ("_law_row", 23)]) (N := ["_law_script", "_law_bag", "_law_spec", "_law_book_z", "_law_start_z", "_law_cuts_z", "_law_due", "_law_turn", "_law_few", "_law_listed_here", "_law_small", "_law_plains", "_law_unlike", "_law_two", "_law_late", "_law_doubled", "_law_orders", "_law_k", "_law_odd", "_law_cold", "_law_asks", "_law_woven", "_law_at", "_law_row", "_law_steps"]) (sc := defScope st_law) (by decide +kernel)) (fun _ _ _ _ _ => (pg_tup rfl (pgs_cons (pg_name (i := 22) sc_law.nd rfl (Or.inl rfl)) (pgs_cons (pg_name (i := 23) sc_law.nd rfl (Or.inl rfl)) pgs_nil)))) (fun _ _ _ _ _ => pts_one (pt_hide (PW.pt (pw_or (pt_cmpR op_eq (pv 22) pe_int (nomark _)) (pw_or1 (pt_cmpR (op_neDK K (FW.Room.hu hr)) (pv 23) (pe_ix (ix_UK K) (pv 11) (pe_op op_sub (pv 22) pe_int) (fun _ _ => rfl)) (nomark _))))))) (fun _ _ _ _ _ => pe_hide (pv 23)))
        (pss_one (ps_if (pt_not (pt_val (pe_cal C__law_same hr pass0 (pa_cons (pe_lst (pa_cons (pe_cal C_trees_of hr pass0 (pa_cons (pv 3) (pa_cons (pv 4) (pa_cons (pv 8) pa_nil)))) (pa_cons (pe_cal C_histories_of hr pass0 (pa_cons (pv 3) (pa_cons (pv 4) (pa_cons (pv 8) pa_nil)))) pa_nil))) (pa_cons (pe_lst (pa_cons (pe_len T (pv 12)) (pa_cons (pe_len T (pv 9)) pa_nil))) pa_nil))))) (pss_one (ps_ret pe_bl)) pss_nil)))) pss_nil)
      (pss_cons (ps_if (pt_not (pt_val (pe_cal C__law_same hr pass0 (pa_cons (pe_lst (pa_cons (pe_cal C_trees_of hr pass0 (pa_cons (pv 10) (pa_cons (pv 4) (pa_cons pe_int pa_nil)))) (pa_cons (pe_cal C_histories_of hr pass0 (pa_cons (pv 10) (pa_cons (pv 4) (pa_cons pe_int pa_nil)))) (pa_cons (pe_cal C_trees_of hr pass0 (pa_cons (pv 10) (pa_cons (pv 4) (pa_cons pe_int pa_nil)))) pa_nil)))) (pa_cons (pe_lst (pa_cons pe_int (pa_cons pe_int (pa_cons pe_int pa_nil)))) pa_nil))))) (pss_one (ps_ret pe_bl)) pss_nil)
      (pss_cons (ps_asg (pe_tup (pa_cons (pe_makeP N hr h_Book pass0 (pa_cons pe_str (pa_cons pe_str (pa_cons (pe_tup (pa_cons pe_str (pa_cons pe_str (pa_cons pe_str (pa_cons pe_str (pa_cons pe_str (pa_cons pe_str pa_nil))))))) (pa_cons (pe_tup (pa_cons pe_str (pa_cons pe_str (pa_cons pe_str (pa_cons pe_str (pa_cons pe_str (pa_cons pe_str pa_nil))))))) pa_nil))))) (pa_cons (pe_calO C__law_draw hr (pa_cons (pv 1) (pa_cons pe_int pa_nil))) (pa_cons pe_int (pa_cons pe_int pa_nil))))) (pg_tup rfl (pgs_cons (pg_name (i := 13) sc_law.nd rfl (Or.inl rfl)) (pgs_cons (pg_name (i := 14) sc_law.nd rfl (Or.inl rfl)) (pgs_cons (pg_name (i := 15) sc_law.nd rfl (Or.inl rfl)) (pgs_cons (pg_name (i := 16) sc_law.nd rfl (Or.inl rfl)) pgs_nil))))))
      (pss_cons (ps_for PassesOwn.never rfl (pi_range1 rfl T.range (pa_cons (pv 14) pa_nil)) (pg_name (i := 17) sc_law.nd rfl (Or.inl rfl)) (pss_one (ps_par (i := 15) (j := 16) rfl sc_law.nd rfl rfl (by decide) rfl rfl (pa_cons (pe_op op_mulW (pv 15) pe_int) (pa_cons (pe_op op_mulW (pv 16) (pe_op op_addU (pv 17) pe_int)) pa_nil)) (by rfl))))
      (pss_cons (ps_set (i := 6) sc_law.nd rfl (Or.inl rfl) (pe_lst (pa_cons (pe_op op_mulW (pv 15) (pe_op op_fdivW (pe_cal C__law_choose hr pass0 (pa_cons (pe_op op_mulW pe_int (pv 14)) (pa_cons (pv 14) pa_nil))) (pe_op op_addU (pv 14) pe_int))) (pa_cons (pe_op op_mulW (pv 15) (pv 16)) pa_nil))))
      (pss_cons (ps_if (pt_not (pt_val (pe_cal C__law_same hr pass0 (pa_cons (pe_lst (pa_cons (pe_calKw K_trees_of hr (pk_cons (pv 14) (pk_cons pe_str (pk_cons (pv 13) pk_nil)))) (pa_cons (pe_cal C_histories_of hr pass0 (pa_cons (pv 13) (pa_cons pe_str (pa_cons (pv 14) pa_nil)))) pa_nil))) (pa_cons (pv 6) pa_nil))))) (pss_one (ps_ret pe_bl)) pss_nil)
      (pss_cons (ps_asg (pe_tup (pa_cons (pe_cal C__law_odd_room hr pass0 (pa_cons (pv 1) (pa_cons (pe_ix ix_U (pv 2) pe_int (fun _ _ => rfl)) pa_nil))) (pa_cons (pe_cal C__law_of hr pass0 (pa_cons (pv 1) (pa_cons (pe_lst (pa_cons (pe_un un_neg pe_int) (pa_cons pe_int (pa_cons pe_non (pa_cons pe_bl (pa_cons pe_str (pa_cons (pe_lst (pa_cons pe_int pa_nil)) (pa_cons (pe_op op_pow pe_int pe_int) pa_nil)))))))) pa_nil))) pa_nil))) (pg_tup rfl (pgs_cons (pg_name (i := 18) sc_law.nd rfl (Or.inr rfl)) (pgs_cons (pg_name (i := 19) sc_law.nd rfl (Or.inr rfl)) pgs_nil))))
      (pss_cons (ps_set (i := 20) sc_law.nd rfl (Or.inl rfl) (pe_lst (pa_cons (pe_lamz0 TB rfl (lamZ_by (N := N_law) (j := 13) (sc := defScope st_law) (by decide +kernel)) rfl) (pa_cons (pe_lamz1 TB rfl (lamZ_by (N := N_law) (j := 13) (sc := defScope st_law) (by decide +kernel)) rfl rfl pe_int) (pa_cons (pe_lamz1 TB rfl (lamZ_by (N := N_law) (j := 13) (sc := defScope st_law) (by decide +kernel)) rfl rfl pe_int) (pa_cons (pe_lamz1 TB rfl (lamZ_by (N := N_law) (j := 13) (sc := defScope st_law) (by decide +kernel)) rfl rfl pe_int) pa_nil))))))
      (pss_one (ps_ret (pe_cal C__law_same hr pass0 (pa_cons (pe_triesZ (i := 20) C__law_tries hr (fun _ => rfl)) (pa_cons (pe_lst (pa_cons (pe_tup (pa_cons pe_str (pa_cons (pv 18) pa_nil))) (pa_cons (pe_tup (pa_cons pe_str (pa_cons (pv 18) pa_nil))) (pa_cons (pe_tup (pa_cons pe_str (pa_cons (pv 19) pa_nil))) (pa_cons (pe_tup (pa_cons pe_str (pa_cons (pv 19) pa_nil))) pa_nil))))) pa_nil))))))))))))))))))))), ?_⟩
  obtain ⟨a, zs, rfl, hS, hz, hPt, hQ⟩ := hsp
  -- the bag
  refine ⟨.ref a, rfl, a, zs, rfl, hS, hz, fun b l m H1 e1 hb h1 hl bd => ⟨b, l, m, rfl, bd, h1, ?_⟩⟩
  have hlb : l ≠ b := fun z => by
    rw [z, h1] at hl
    have hl := HO.lst.inj (Option.some.inj hl)
    cases zs with
    | nil => cases hl
    | cons z zs => cases hl
  have G1 : Bag b l zs (upd H1 b (BagO b l)) := ⟨upd_same, by rw [upd_ne hlb]; exact hl, hz⟩
  have E1 : Ex H (upd H1 b (BagO b l)) := ex_put hb e1
  -- the spec
  refine g_asg (ed_call (C := fun e => ∃ sp, e = Spec.d sp ∧ SpecOk sp) (a2 (xv (.obj b)) (xL (a3 ed_int ed_int ed_int))) fun H2 e => ⟨b, l, zs, rfl, G1.mono e, rfl⟩) fun vsp dsp H2 e2 hsp2 dq => ?_
  obtain ⟨sp, rfl, ok⟩ := hsp2
  have G2 := G1.mono e2
  have l3 := ok.f3
  have c3 := ok.c3
  have fne := ok.fc.ne
  have cne := ok.ct.ne
  -- the book, the room, the number of cuts
  refine g_tup3P (Pd := isBk Cb sp) (ep_book (a1 (xv dq)) ok) isBk_mono (ed_call (C := fun e => ∃ r, e = .str r ∧ rmOf r sp.fc) (a2 (xv (.obj b)) (xi (a := Spec.d sp) (xv dq))) fun H3 e => ⟨b, l, zs, sp.fc, rfl, G2.mono e, fne, by omega, rfl⟩) (ec_draw (a2 (xv (.obj b)) ed_int) G2 (by decide) (by decide)) fun vbk vr vn dr dn H3 e3 hbk hr3 hn3 dqr dqn => ?_
  obtain ⟨bk, rfl, hbk⟩ := hbk
  obtain ⟨r, rfl, hrm⟩ := hr3
  obtain ⟨nz, rfl, n0, n9⟩ := hn3
  obtain ⟨n, rfl⟩ : ∃ n : Nat, nz = (n : Int) := ⟨nz.toNat, by omega⟩
  have hn8 : n ≤ 8 := by omega
  cases dqr
  cases dqn
  have G3 := G2.mono e3
  have dq3 := dq.mono e3
  -- what is due
  refine g_asgD (d := .lst [.int (Fv g1 sp n r : Nat), .int (Fv g2 sp n r : Nat)]) (EvD.to (ed_lcM (xs := [.bl false, .bl true]) (fun d => match d with | .bl b => .int (Fv (gw b) sp n r : Nat) | _ => .non) (ei_listD (xL (a2 ed_bl ed_bl))) (by decide) (fun _ => rfl) fun i x v B ez eB dz => ?_) ?_) fun vdue H4 e4 ddue => ?_
  · have hx : ∃ wv : Bool, x = .bl wv := by
      match i, ez with
      | 0, ez => exact ⟨false, (Option.some.inj ez).symm⟩
      | 1, ez => exact ⟨true, (Option.some.inj ez).symm⟩
    obtain ⟨wv, rfl⟩ := hx
    exact ed_ltc (a4 (xv (dq3.mono eB)) (xv (.str r)) (xv (.int (n : Int))) (xv dz)) ok hrm (by omega) (xv (.str r)) (xv (.int (n : Int)))
  · show Dt.lst [.int (Fv (gw false) sp n r : Nat), .int (Fv (gw true) sp n r : Nat)] = _
    rw [Fv_gw false sp n (by omega), Fv_gw true sp n (by omega)] <;> rfl
  -- twice
  have smI : ∀ x y : Int, SmD 3 (.lst [.int x, .int y]) := fun x y => sm_l (n := 2) (fun z hz => by
    simp only [List.mem_cons, List.not_mem_nil, or_false] at hz
    rcases hz with rfl | rfl <;> trivial) (by simp)
  refine g_forB1 (B := H4) (wb_range ed_int ⟨by decide, by decide⟩) (fun i σ' H' => Ex H4 H' ∧ ∃ p7, σ' = LA a b vsp bk r n (some vdue) p7 none none none none none none none none none none none none none none none none none) (fun H5 e5 => ⟨e5, none, rfl⟩) (fun i σ' H' h => h.1) ?_ ?_
  · rintro i x v σ' H5 H6 ez ⟨e5, p7, rfl⟩ e6 dv
    have e46 := e5.trans e6
    have hb6 := hbk.mono (e4.trans e46)
    refine s_ifD (b := false) (et_nsame (a2 (xL (a2 (ed_count (a3 (xv (.obj bk)) (xv (.str r)) (xv (.int (n : Int)))) hb6 ok hrm (by omega)) (ed_countK (a3 (xv (.int (n : Int))) (xv (.str r)) (xv (.obj bk))) hb6 ok hrm (by omega)))) (xv (ddue.mono e46))) (smI _ _)) (fun q => by cases q) fun _ H7 e7 => ⟨e46.trans e7, _, rfl⟩
  rintro σ' H5 ⟨e5, p7, rfl⟩
  have hb5 := hbk.mono (e4.trans e5)
  have G5 := G3.mono (e4.trans e5)
  have dq5 := dq3.mono (e4.trans e5)
  -- few
  refine g_asg (ec_draw (a2 (xv (.obj b)) ed_int) G5 (by decide) (by decide)) fun vf df H6 e6 hf dqf => ?_
  obtain ⟨fz, rfl, f0, f4⟩ := hf
  obtain ⟨k, rfl⟩ : ∃ k : Nat, fz = (k : Int) := ⟨fz.toNat, by omega⟩
  have hk3 : k ≤ 3 := by omega
  cases dqf
  have dq6 := dq5.mono e6
  -- the listed histories
  have okL' := SpecL.of ok
  have hct : slD (.str sp.ct) none (some 2) = some (.str (sp.ct.take 2)) := by
    show some (Dt.str (cutL sp.ct none (some 2))) = _
    rw [cut2]
  have hLk : ∀ h ∈ runs (Ts ⟨sp.fc, sp.ct.take 2, sp.ls⟩) k [([], r)], h.length = k := fun h hh => by
    rw [← itL_runs] at hh
    obtain ⟨q, hq, rfl⟩ := List.mem_map.mp hh
    exact ((itL_good okL' hrm k).1 q hq).2
  have hL48 : (runs (Ts ⟨sp.fc, sp.ct.take 2, sp.ls⟩) k [([], r)]).length ≤ 48 := by
    rw [← itL_runs, List.length_map]
    exact itL_len okL' hrm hk3
  refine g_asgD (d := .lst ((runs (Ts ⟨sp.fc, sp.ct.take 2, sp.ls⟩) k [([], r)]).map rwD)) (ed_call (C := fun e => e = .lst ((runs (Ts ⟨sp.fc, sp.ct.take 2, sp.ls⟩) k [([], r)]).map fun h => .lst (h.map stpD))) (a3 (xL (a3 (xi (a := Spec.d sp) (xv dq6)) (xs (a := .str sp.ct) (xi (a := Spec.d sp) (xv dq6)) eo_none eo_i hct (by show List.length _ ≤ _; omega)) (xi (a := Spec.d sp) (xv dq6)))) (xv (.str r)) (xv (.int (k : Int)))) fun H7 e => ⟨⟨sp.fc, sp.ct.take 2, sp.ls⟩, r, k, rfl, okL', hrm, hk3, rfl⟩) fun vli H7 e7 dli => ?_
  have dq7 := dq6.mono e7
  -- the small book
  have oks := small_ok ok
  refine g_asgP (Pd := isBk Cb ⟨sp.fc, sp.ct.take 2, []⟩) (ep_read ed_ref (a1 (ed_call (C := fun e => e = .str (bookTxt ⟨sp.fc, sp.ct.take 2, []⟩)) (a1 (xL (a3 (xi (a := Spec.d sp) (xv dq7)) (xs (a := .str sp.ct) (xi (a := Spec.d sp) (xv dq7)) eo_none eo_i hct (by show List.length _ ≤ _; omega)) (xL ad_nil)))) fun H8 e => ⟨⟨sp.fc, sp.ct.take 2, []⟩, rfl, oks, rfl⟩)) oks) fun vsm H8 e8 hsm => ?_
  obtain ⟨sm, rfl, hsm⟩ := hsm
  have dq8 := dq7.mono e8
  have e58 := (e6.trans e7).trans e8
  have hb8 := hb5.mono e58
  have dli8 := dli.mono e8
  generalize hLdef : runs (Ts ⟨sp.fc, sp.ct.take 2, sp.ls⟩) k [([], r)] = L at hLk hL48 dli dli8
  -- fewer than three cutters: rows
  refine g_whenPost (b := decide (((sp.ct.length : Nat) : Int) < 3)) (fun σ' H' => Ex H8 H' ∧ ∃ p11 p12, σ' = LA a b vsp bk r n (some vdue) p7 (some (.int (k : Int))) (some vli) (some (.ref sm)) p11 p12 none none none none none none none none none none none none) (et_B (ed_b0 (xl (a := .str sp.ct) (xi (a := Spec.d sp) (xv dq8)) rfl (by show List.length _ ≤ _; omega)) ed_int)) (fun hlt H9 e9 nx hnx => ?_) (fun _ H9 e9 => ⟨e9, none, none, rfl⟩) ?_
  · have hlt : sp.ct.length < 3 := by
      have z := of_decide_eq_true hlt
      omega
    have hsp : (⟨sp.fc, sp.ct.take 2, sp.ls⟩ : Spec) = sp := by
      rw [List.take_of_length_le (by omega)]
    have hpw : sp.ct.Pairwise (· < ·) := ok.ct.pw
    have hrok : ∀ h ∈ L, RowOk h := by
      rw [← hLdef, hsp]
      exact runs_rowOk (fun c hc => by have := ok.ct.asc c hc; omega) k r
    have aok : ∀ h ∈ allSrt L, RowOk h := allSrt_ok hrok
    have alen : (allSrt L).length ≤ 48 := by
      rw [allSrt_len]
      exact hL48
    have dli9 := dli8.mono e9
    refine g_asgD (d := .lst ((allSrt L).map rwD)) (ed_sortB (toD := rwD) (enc := enc2) (bs := L.map srt) (EvD.to (ed_lcM (xs := L.map rwD) (fun d => rwD (srt (unRw d))) (ei_listD (xv dli9)) (by rw [List.length_map]; omega) (fun _ => rfl) fun i x v B ez eB dz => ?_) ?_) (by rw [List.length_map]; omega)) fun vpl H10 e10 dpl => ?_
    · obtain ⟨h, hh, rfl⟩ := map_at ez
      show EvD _ _ _ (rwD (srt (unRw (rwD h))))
      rw [unRw_rw]
      exact ed_sortB (toD := stpD) (enc := enc1) (bs := h) (xv dz) (by rw [hLk h (List.mem_of_getElem? hh)]; omega)
    · rw [List.map_map, List.map_map]
      congr 1
      refine List.map_congr_left fun h _ => ?_
      show rwD (srt (unRw (rwD h))) = _
      rw [unRw_rw] <;> rfl
    refine g_asgD (d := .lst (((enumD ((allSrt L).map rwD)).filter (pUn (allSrt L))).map gUn)) (ed_lcFP (K := K) (xs := enumD ((allSrt L).map rwD)) (pUn (allSrt L)) gUn (ei_enumD (xv dpl)) (by rw [enumD_len, List.length_map]; omega) enumD_pair (fun _ _ => rfl) fun i x y v u B ez eB dv du => ?_) fun vun H11 e11 dun => ?_
    · obtain ⟨y', hy', et⟩ := enumD_get ez
      obtain ⟨row, hrow, rfl⟩ := map_at hy'
      simp only [Dt.tup.injEq, List.cons.injEq, and_true] at et
      obtain ⟨rfl, rfl⟩ := et
      have hrm' := List.mem_of_getElem? hrow
      have hil : i < (allSrt L).length := (List.getElem?_eq_some_iff.mp hrow).1
      refine ⟨?_, fun _ => xv du⟩
      show EvB _ _ _ (qUn (allSrt L) ((i : Int)).toNat)
      have e1 : ((i : Int)).toNat = i := by omega
      rw [e1]
      unfold qUn
      refine et_or (EvB.to (tq (xv dv) ed_int) ?_) fun hi0 => ?_
      · show decide ((i : Int) = 0) = decide (i = 0)
        by_cases z : i = 0
        · simp [z]
        · rw [decide_eq_false z, decide_eq_false (by omega)]
      · have hi0 := of_decide_eq_false hi0
        obtain ⟨row', hrow'⟩ : ∃ row', (allSrt L)[i - 1]? = some row' := ⟨_, List.getElem?_eq_getElem (by omega)⟩
        have hix : ixD (.lst ((allSrt L).map rwD)) ((i - 1 : Nat) : Int) = some (rwD row') := atI_nat (by rw [List.getElem?_map, hrow'] <;> rfl)
        refine EvB.to (et_B (ed_neRw (h' := row') (xv du) (ed_ix (a := .lst ((allSrt L).map rwD)) (i := ((i - 1 : Nat) : Int)) (xv (dpl.mono eB)) (EvD.to (ed_i0 (xv dv) ed_int) (congrArg Dt.int (by omega))) hix (by show List.length _ ≤ _; rw [List.length_map]; omega)) (aok row hrm') (aok row' (List.mem_of_getElem? hrow')))) ?_
        rw [hrow, hrow']
        simp
    have hun : ((((enumD ((allSrt L).map rwD)).filter (pUn (allSrt L))).map gUn).length) = Fv g1 sp k r := by
      rw [un_len, ← hLdef, hsp]
      exact unlike_rows hpw k r
    have hli : (L.map rwD).length = Fv g2 sp k r := by
      rw [List.length_map, ← hLdef, hsp]
      exact hist_len sp k hk3 [] r
    have unl : ((((enumD ((allSrt L).map rwD)).filter (pUn (allSrt L))).map gUn).length) ≤ 48 := by
      rw [List.length_map]
      refine Nat.le_trans (List.length_filter_le _ _) ?_
      rw [enumD_len, List.length_map]
      exact alen
    have hb11 := hb8.mono ((e9.trans e10).trans e11)
    have dli11 := dli9.mono (e10.trans e11)
    refine s_ifD (b := false) (et_nsame (d := .lst [.int (Fv g1 sp k r : Nat), .int (Fv g2 sp k r : Nat)]) (a2 (xL (a2 (ed_count (a3 (xv (.obj bk)) (xv (.str r)) (xv (.int (k : Int)))) hb11 ok hrm (by omega)) (ed_count (a3 (xv (.obj bk)) (xv (.str r)) (xv (.int (k : Int)))) hb11 ok hrm (by omega)))) (xL (a2 (EvD.to (ed_len (xv dun) rfl (by show List.length _ ≤ _; omega)) (by rw [hun])) (EvD.to (ed_len (xv dli11) rfl (by show List.length _ ≤ _; rw [List.length_map]; omega)) (by rw [hli]))))) (smI _ _)) (fun q => by cases q) fun _ H12 e12 => hnx _ _ ⟨((e9.trans e10).trans e11).trans e12, _, _, rfl⟩
  rintro σ' H9 ⟨e9, p11, p12, rfl⟩
  have e59 := e58.trans e9
  have G9 := G5.mono e59
  have hsm9 := hsm.mono e9
  have hb9 := hb8.mono e9
  have dq9 := dq8.mono e9
  -- the small book: nothing is cut
  have sm3 : SmD 3 (.lst [.int 1, .int 0, .int 0]) := sm_l (n := 2) (fun z hz => by
    simp only [List.mem_cons, List.not_mem_nil, or_false] at hz
    rcases hz with rfl | rfl | rfl <;> trivial) (by simp)
  have hf0 : ∀ nn, Fv g2 ⟨sp.fc, sp.ct.take 2, []⟩ (nn + 1) r = 0 := fun nn => Fv_none rfl nn r
  have hf1 : ∀ nn, Fv g1 ⟨sp.fc, sp.ct.take 2, []⟩ (nn + 1) r = 0 := fun nn => Fv_none rfl nn r
  refine g_whenD (b := false) (et_nsame (d := .lst [.int 1, .int 0, .int 0]) (a2 (xL (a3 (EvD.to (ed_count (g := g1) (n := 0) (a3 (xv (.obj sm)) (xv (.str r)) ed_int) hsm9 oks hrm (by omega)) rfl) (EvD.to (ed_count (g := g2) (n := 30) (a3 (xv (.obj sm)) (xv (.str r)) ed_int) hsm9 oks hrm (by omega)) (by rw [hf0 29] <;> rfl)) (EvD.to (ed_count (g := g1) (n := 1) (a3 (xv (.obj sm)) (xv (.str r)) ed_int) hsm9 oks hrm (by omega)) (by rw [hf1 0] <;> rfl)))) (xL (a3 ed_int ed_int ed_int))) sm3) (fun q => by cases q) fun _ H10 e10 => ?_
  -- the book of one room
  refine g_tup4P (Pd := isBk Cb sp2) (ep_make (sp := sp2) (show EvAD _ _ _ [.str [97], .str [65, 66], .tup [.str [46], .str [46], .str [46], .str [46], .str [65], .str [124, 97, 97]], .tup [.str [46], .str [46], .str [46], .str [46], .str [66], .str [45, 97, 97]]] from
    ad_cons (EvD.to ed_str rfl) (ad_cons (EvD.to ed_str rfl) (ad_cons (xT (ad_cons (EvD.to ed_str rfl) (ad_cons (EvD.to ed_str rfl) (ad_cons (EvD.to ed_str rfl) (ad_cons (EvD.to ed_str rfl) (ad_cons (EvD.to ed_str rfl) (ad_cons (EvD.to ed_str rfl) ad_nil))))))) (ad_cons (xT (ad_cons (EvD.to ed_str rfl) (ad_cons (EvD.to ed_str rfl) (ad_cons (EvD.to ed_str rfl) (ad_cons (EvD.to ed_str rfl) (ad_cons (EvD.to ed_str rfl) (ad_cons (EvD.to ed_str rfl) ad_nil))))))) ad_nil)))) sp2_ok) isBk_mono
    (ec_draw (a2 (xv (.obj b)) ed_int) (G9.mono e10) (by decide) (by decide)) ed_int ed_int fun v2 vl vd vo dl H11 e11 h2 hl dql dqd dqo => ?_
  obtain ⟨bk2, rfl, hbk2⟩ := h2
  obtain ⟨lz, rfl, l0, l31⟩ := hl
  obtain ⟨m, rfl⟩ : ∃ m : Nat, lz = (m : Int) := ⟨lz.toNat, by omega⟩
  have hm30 : m ≤ 30 := by omega
  cases dql
  cases dqd
  cases dqo
  refine g_forB1 (B := H11) (wb_range (xv (.int (m : Int))) ⟨by omega, by omega⟩) (fun i σ' H' => Ex H11 H' ∧ ∃ p17, σ' = LA a b vsp bk r n (some vdue) p7 (some (.int (k : Int))) (some vli) (some (.ref sm)) p11 p12 (some (.ref bk2)) (some (.int (m : Int))) (some (.int ((2 ^ i : Nat) : Int))) (some (.int ((fac i : Nat) : Int))) p17 none none none none none none none) (fun H12 e12 => ⟨e12, none, rfl⟩) (fun i σ' H' h => h.1) ?_ ?_
  · rintro i x v σ' H12 H13 ez ⟨e12, p17, rfl⟩ e13 dv
    obtain ⟨hi, rfl⟩ := rngD_get ez
    cases dv
    have hi30 : i ≤ 30 := by omega
    have hi32 : i + 1 ≤ 2 ^ 5 := by
      have : (2 : Nat) ^ 5 = 32 := by decide
      omega
    have h21 : 2 ≤ 2 ^ 1 := by decide
    refine g_parS (A := fun d => d = .int ((2 ^ (i + 1) : Nat) : Int)) (B := fun d => d = .int ((fac (i + 1) : Nat) : Int)) ?_ ?_ fun v w da db H14 e14 ea eb d1 d2 => ?_
    · refine EvD.to (ed_iC (i := ((2 ^ i : Nat) : Int)) (j := ((2 : Nat) : Int)) (xv (.int _)) ed_int (cmulW (Nat.le_refl (2 ^ i)) h21 (by omega))) ?_
      rw [Nat.pow_succ, Int.natCast_mul]
    · refine EvD.to (ed_iC (i := ((fac i : Nat) : Int)) (j := ((i + 1 : Nat) : Int)) (xv (.int _)) (EvD.to (xa (a := .int (i : Int)) (b := .int 1) (xv (.int _)) ed_int rfl trivial) rfl) (cmulW (fac_le hi30) hi32 (by omega))) ?_
      show Dt.int _ = Dt.int ((fac i * (i + 1) : Nat) : Int)
      rw [Int.natCast_mul]
    · subst ea eb
      cases d1
      cases d2
      exact ⟨(e12.trans e13).trans e14, _, rfl⟩
  rintro σ' H12 ⟨e12, p17, rfl⟩
  rw [rngD_len, show ((m : Int)).toNat = m by omega]
  have h21 : 2 ≤ 2 ^ 1 := by decide
  have b1 := cn_le (m := 2 * m) (by omega) m
  have b2 : m + 1 < 2 ^ 7 := by
    have : (2 : Nat) ^ 7 = 128 := by decide
    omega
  -- what is due there
  refine g_asgD (d := .lst [.int ((2 ^ m * (cn (2 * m) m / (m + 1)) : Nat) : Int), .int ((2 ^ m * fac m : Nat) : Int)]) (xL (a2 (EvD.to (ed_iC (i := ((2 ^ m : Nat) : Int)) (j := ((cn (2 * m) m / (m + 1) : Nat) : Int)) (xv (.int _)) (EvD.to (ed_iC (i := ((cn (2 * m) m : Nat) : Int)) (j := ((m + 1 : Nat) : Int)) (ed_call (C := fun e => e = .int ((cn (2 * m) m : Nat) : Int)) (a2 (EvD.to (ed_iC (i := ((2 : Nat) : Int)) (j := (m : Int)) ed_int (xv (.int _)) (cmulW h21 (Nat.le_of_lt (Nat.lt_trans (Nat.lt_succ_self m) b2)) (by omega))) (congrArg Dt.int (Int.natCast_mul 2 m).symm)) (xv (.int (m : Int)))) fun H1 e => ⟨2 * m, m, rfl, by omega, by omega, rfl⟩) (EvD.to (xa (a := .int (m : Int)) (b := .int 1) (xv (.int _)) ed_int rfl trivial) rfl) (fdivW b2 (by omega) (by decide) (by decide))) ?_) (cmulW (Nat.le_refl (2 ^ m)) (Nat.le_trans (Nat.div_le_self _ _) b1) (by omega))) ?_) (EvD.to (ed_iC (i := ((2 ^ m : Nat) : Int)) (j := ((fac m : Nat) : Int)) (xv (.int _)) (xv (.int _)) (cmulW (Nat.le_refl (2 ^ m)) (fac_le hm30) (by omega))) ?_))) fun vdue2 H13 e13 ddue2 => ?_
  · rw [← Int.natCast_ediv]
  · rw [Int.natCast_mul]
  · rw [Int.natCast_mul]
  have hbk3 := hbk2.mono (e12.trans e13)
  refine g_whenD (b := false) (et_nsame (d := .lst [.int ((2 ^ m * (cn (2 * m) m / (m + 1)) : Nat) : Int), .int ((2 ^ m * fac m : Nat) : Int)]) (a2 (xL (a2 (EvD.to (ed_countK (g := g1) (n := m) (r := rm2) (a3 (xv (.int (m : Int))) (EvD.to ed_str rfl) (xv (.obj bk2))) hbk3 sp2_ok rm2_ok hm30) (by rw [trees2 hm30])) (EvD.to (ed_count (g := g2) (n := m) (r := rm2) (a3 (xv (.obj bk2)) (EvD.to ed_str rfl) (xv (.int (m : Int)))) hbk3 sp2_ok rm2_ok hm30) (by rw [hist2 hm30])))) (xv ddue2)) (smI _ _)) (fun q => by cases q) fun _ H14 e14 => ?_
  -- wrong values
  have e914 := (((e10.trans e11).trans e12).trans e13).trans e14
  have G14 := G9.mono e914
  have dq14 := dq9.mono e914
  refine g_tup2 (A := fun e => ∃ c g, c ∈ sp.fc ∧ g ∉ sp.fc ∧ e ∈ oddL c g) (B := fun e => e ∈ coldL) ?_ ?_ fun vo vc dod dco H15 e15 ho hco dqo dqc => ?_
  · exact ed_call (a2 (xv (.obj b)) (xi (a := Spec.d sp) (xv dq14))) fun H' e => ⟨b, l, zs, sp.fc, rfl, G14.mono e, ok.fc, l3, rfl⟩
  · refine EvC.imp (ed_call (C := fun e => ∃ i : Nat, i < 7 ∧ ixD (.lst coldL) (i : Int) = some e) (a2 (xv (.obj b)) (xL (ds := coldL) (ad_cons (ed_neg ed_int) (ad_cons ed_int (ad_cons ed_non (ad_cons ed_bl (ad_cons (EvD.to ed_str rfl) (ad_cons (xL (a1 ed_int)) (ad_cons (EvD.to (ed_iC (i := 10) (j := 17) ed_int ed_int ⟨by decide, by decide, by decide⟩) rfl) ad_nil))))))) (by decide))) fun H' e => ⟨b, l, zs, .lst coldL, 7, rfl, G14.mono e, rfl, by decide, by decide, rfl⟩) fun d ⟨i, _, he⟩ => atI_mem he
  obtain ⟨oc1, og1, oin, onot, hodd⟩ := ho
  obtain ⟨br1, br2, br3, br4⟩ := odd_bad ok.fc oin onot _ hodd
  obtain ⟨bn1, bn2, bn3⟩ := cold_bad _ hco
  have e915 := e914.trans e15
  have hb15 := hb9.mono e915
  have hP15 : H15 Pt = some (.tbl #[]) := ((((E1.trans e2).trans e3).trans (e4.trans e5)).trans (e59.trans e915)) _ _ hPt
  -- the lambdas
  refine ⟨LamX.TabS.nil hP15, fun f0 c0 dV0 doc0 pm0 ct0 Ha xa1 ta1 na1 da1 oa1 ka1 => ⟨ta1, fun f1 c1 dV1 doc1 pm1 ct1 Hb xb1 tb1 nb1 db1 ob1 kb1 => ⟨tb1, fun f2 c2 dV2 doc2 pm2 ct2 Hc xc1 tc1 nc1 dc1 oc1' kc1 => ⟨tc1, fun f3 c3' dV3 doc3 pm3 ct3 Hd xd1 td1 nd1 dd1 od1 kd1 => ⟨by show 4 ≤ sizeLine; decide, fun pA npA => ?_⟩⟩⟩⟩⟩
  have xe := exN_ex (Ex.new (o := HO.lst [V.ref f0, .ref f1, .ref f2, .ref f3]) npA)
  have xbE := (xb1.trans (xc1.trans xd1)).trans xe
  have xcE := (xc1.trans xd1).trans xe
  have xdE := xd1.trans xe
  have xaE := xa1.trans xbE
  have hbE := exN_bk xaE hb15
  have dqoE := exN_dq xaE dqo
  have dqcE := exN_dq xaE dqc
  have n01 : f0 ≠ f1 := fun z => by rw [z, nb1] at oa1; cases oa1
  have n02 : f0 ≠ f2 := fun z => by
    have w := exN_obj xb1 oa1
    rw [z, nc1] at w
    cases w
  have n12 : f1 ≠ f2 := fun z => by rw [z, nc1] at ob1; cases ob1
  have n03 : f0 ≠ f3 := fun z => by
    have w := exN_obj (xb1.trans xc1) oa1
    rw [z, nd1] at w
    cases w
  have n13 : f1 ≠ f3 := fun z => by
    have w := exN_obj xc1 ob1
    rw [z, nd1] at w
    cases w
  have n23 : f2 ≠ f3 := fun z => by rw [z, nd1] at oc1'; cases oc1'
  have rd1 : ∀ {σ' : L2.St} {HZ : Hp} {E' : XK}, σ'[3]? = some (some (.ref bk)) → σ'[18]? = some (some vo) → σ'[19]? = some (some vc) → LamX.ExtN (upd Hd pA (.lst [.ref f0, .ref f1, .ref f2, .ref f3])) HZ → BadE C1 "InvalidRoom" vo HZ E' → tCall (spBad3 Cb C1 C2) [] E' (tCons (tVar 3) (tCons (tVar 18) (tCons (tVar 19) tNil))) σ' HZ (fun _ _ => False) := fun h1 h2 h3 ex hE =>
    ⟨.ref bk, h1, vo, h2, vc, h3, bk, vo, vc, dod, dco, sp, rfl, exN_bk ex hbE, exN_dq ex dqoE, exN_dq ex dqcE, br2, br3, bn2, .inl ⟨br1, hE⟩⟩
  have rd2 : ∀ {σ' : L2.St} {HZ : Hp} {E' : XK}, σ'[3]? = some (some (.ref bk)) → σ'[4]? = some (some (.str (FW.S r))) → σ'[19]? = some (some vc) → LamX.ExtN (upd Hd pA (.lst [.ref f0, .ref f1, .ref f2, .ref f3])) HZ → BadE C2 "InvalidNumber" vc HZ E' → tCall (spBad3 Cb C1 C2) [] E' (tCons (tVar 3) (tCons (tVar 4) (tCons (tVar 19) tNil))) σ' HZ (fun _ _ => False) := fun h1 h2 h3 ex hE =>
    ⟨.ref bk, h1, .str (FW.S r), h2, vc, h3, bk, .str (FW.S r), vc, .str r, dco, sp, rfl, exN_bk ex hbE, .str r, exN_dq ex dqcE, trivial, by show r.length ≤ 100000; obtain ⟨⟨_, _, _, _, rfl⟩, _⟩ := hrm; simp, bn2, .inr ⟨⟨r, rfl, hrm⟩, bn1, hE⟩⟩
  -- asked
  refine ⟨pA, [⟨f0, C1, ("InvalidRoom" : Str).cps.toList, vo, dod⟩, ⟨f1, C1, ("InvalidRoom" : Str).cps.toList, vo, dod⟩, ⟨f2, C2, ("InvalidNumber" : Str).cps.toList, vc, dco⟩, ⟨f3, C2, ("InvalidNumber" : Str).cps.toList, vc, dco⟩], rfl, upd_same, by show 4 ≤ 10; decide, ?_, fun q hq => ?_, fun pins s' I q hq => ?_, fun v H2' e2' dv => ?_⟩
  · show [f0, f1, f2, f3].Nodup
    simp [n01, n02, n03, n12, n13, n23]
  · simp only [List.mem_cons, List.not_mem_nil, or_false] at hq
    rcases hq with rfl | rfl | rfl | rfl
    · exact ⟨List.mem_cons_self .., LC.x1, LC.m1, dqoE⟩
    · exact ⟨List.mem_cons_self .., LC.x1, LC.m1, dqoE⟩
    · exact ⟨List.mem_cons_of_mem _ (List.mem_cons_self ..), LC.x2, LC.m2, dqcE⟩
    · exact ⟨List.mem_cons_of_mem _ (List.mem_cons_self ..), LC.x2, LC.m2, dqcE⟩
  · simp only [List.mem_cons, List.not_mem_nil, or_false] at hq
    rcases hq with rfl | rfl | rfl | rfl
    · exact askZ (j := 13) (k := 9) I (fun _ => rfl) (lamZ_by (N := N_law) (j := 13) (sc := defScope st_law) (by decide +kernel)) rfl (exN_obj xbE oa1) (exN_code xbE ka1) (bindsZ0 da1 fun _ _ _ _ => rfl) fun A outer s2 HZ E hr ex hE => ⟨_, pe_cal X_trees_of hr (passT (L2N.takes_of rfl rfl rfl rfl)) (pa_cons (pv 3) (pa_cons (pv 18) (pa_cons (pv 19) pa_nil))), rd1 rfl rfl rfl (exN_ex ex) hE⟩
    · exact askZ (j := 13) (k := 9) I (fun _ => rfl) (lamZ_by (N := N_law) (j := 13) (sc := defScope st_law) (by decide +kernel)) rfl (exN_obj xcE ob1) (exN_code xcE kb1) (bindsZ1 (a := "_law_one") (exN_df xcE db1) rfl fun _ _ _ _ _ _ => ⟨_, rfl, rfl⟩) fun A outer s2 HZ E hr ex hE => ⟨_, pe_cal X_histories_of hr (passT (L2N.takes_of rfl rfl rfl rfl)) (pa_cons (pv 3) (pa_cons (pv 18) (pa_cons (pv 19) pa_nil))), rd1 rfl rfl rfl (exN_ex ex) hE⟩
    · exact askZ (j := 13) (k := 9) I (fun _ => rfl) (lamZ_by (N := N_law) (j := 13) (sc := defScope st_law) (by decide +kernel)) rfl (exN_obj xdE oc1') (exN_code xdE kc1) (bindsZ1 (a := "_law_two") (exN_df xdE dc1) rfl fun _ _ _ _ _ _ => ⟨_, rfl, rfl⟩) fun A outer s2 HZ E hr ex hE => ⟨_, pe_cal X_trees_of hr (passT (L2N.takes_of rfl rfl rfl rfl)) (pa_cons (pv 3) (pa_cons (pv 4) (pa_cons (pv 19) pa_nil))), rd2 rfl rfl rfl (exN_ex ex) hE⟩
    · exact askZ (j := 13) (k := 9) I (fun _ => rfl) (lamZ_by (N := N_law) (j := 13) (sc := defScope st_law) (by decide +kernel)) rfl (exN_obj xe od1) (exN_code xe kd1) (bindsZ1 (a := "_law_three") (exN_df xe dd1) rfl fun _ _ _ _ _ _ => ⟨_, rfl, rfl⟩) fun A outer s2 HZ E hr ex hE => ⟨_, pe_cal X_histories_of hr (passT (L2N.takes_of rfl rfl rfl rfl)) (pa_cons (pv 3) (pa_cons (pv 4) (pa_cons (pv 19) pa_nil))), rd2 rfl rfl rfl (exN_ex ex) hE⟩
  -- compared
  have dqoF := dqoE.mono e2'
  have dqcF := dqcE.mono e2'
  refine (xL (a4 (xT (a2 (EvD.to ed_str rfl) (xv dqoF))) (xT (a2 (EvD.to ed_str rfl) (xv dqoF))) (xT (a2 (EvD.to ed_str rfl) (xv dqcF))) (xT (a2 (EvD.to ed_str rfl) (xv dqcF))))) H2' (Ex.refl _) _ fun wv dw H3' e3' ew dqw => ?_
  subst ew
  have smT : ∀ (t : List Nat) (d : Dt), SmD 1 d → SmD 2 (.tup [.str t, d]) := fun t d hd => .inr ⟨_, .inr rfl, by simp, fun z hz => by
    simp only [List.mem_cons, List.not_mem_nil, or_false] at hz
    rcases hz with rfl | rfl
    · exact .inl trivial
    · exact hd⟩
  refine ⟨_, fun e => e = .bl true, .cons (dv.mono e3') (.cons dqw .nil), ⟨_, rfl, .inr ⟨_, .inl rfl, by simp, fun z hz => ?_⟩, rfl⟩, fun v' d' H4' e4' ed dq' => ?_⟩
  · simp only [List.map_cons, List.map_nil, List.mem_cons, List.not_mem_nil, or_false] at hz
    rcases hz with rfl | rfl | rfl | rfl
    · exact smT _ _ br4
    · exact smT _ _ br4
    · exact smT _ _ bn3
    · exact smT _ _ bn3
  · subst ed
    exact hQ v' H4' (dq_bl dq')
end
end FW
set_option maxRecDepth 100000
set_option maxHeartbeats 16000000
/-! # EN: the end -/
namespace FW
open PySem PySem.Spec PyProof.Rows L2
section
variable {P : Program} {w : World} {K : PySem.W.Frag} {mg : Str → Option Value} {base : Heap} {Cb C1 C2 : Addr} {mc : Value} {cs : List Value}
/-- the defs of the module that the law comes to -/
structure LawDefs (K : PySem.W.Frag) (mg : Str → Option Value) : Prop where
  is_number : DefAt K mg "is_number" st_is_number
  is_one : DefAt K mg "is_one" st_is_one
  is_string : DefAt K mg "is_string" st_is_string
  takes : DefAt K mg "takes" st_takes
  fits : DefAt K mg "fits" st_fits
  is_room : DefAt K mg "is_room" st_is_room
  parts_of : DefAt K mg "parts_of" st_parts_of
  _law_split : DefAt K mg "_law_split" st_law_split
  _law_fits : DefAt K mg "_law_fits" st_law_fits
  _law_line_at : DefAt K mg "_law_line_at" st_law_line_at
  _law_cut : DefAt K mg "_law_cut" st_law_cut
  _law_parts : DefAt K mg "_law_parts" st_law_parts
  one_way : DefAt K mg "one_way" st_one_way
  is_rising : DefAt K mg "is_rising" st_is_rising
  is_faces : DefAt K mg "is_faces" st_is_faces
  is_cutters : DefAt K mg "is_cutters" st_is_cutters
  is_part : DefAt K mg "is_part" st_is_part
  is_cut : DefAt K mg "is_cut" st_is_cut
  is_line : DefAt K mg "is_line" st_is_line
  line_of : DefAt K mg "line_of" st_line_of
  _law_line_text : DefAt K mg "_law_line_text" st_law_line_text
  _law_book_text : DefAt K mg "_law_book_text" st_law_book_text
  _law_book : DefAt K mg "_law_book" st_law_book
  check_room : DefAt K mg "check_room" st_check_room
  turns_of : DefAt K mg "turns_of" st_turns_of
  origins : DefAt K mg "origins" st_origins
  reached : DefAt K mg "reached" st_reached
  ways_between : DefAt K mg "ways_between" st_ways_between
  tree_table : DefAt K mg "tree_table" st_tree_table
  check_count : DefAt K mg "check_count" st_check_count
  trees_of : DefAt K mg "trees_of" st_trees_of
  histories_of : DefAt K mg "histories_of" st_histories_of
  _law_choose : DefAt K mg "_law_choose" st_law_choose
  _law_turns : DefAt K mg "_law_turns" st_law_turns
  _law_reached : DefAt K mg "_law_reached" st_law_reached
  _law_tree_counts : DefAt K mg "_law_tree_counts" st_law_tree_counts
  _law_draw : DefAt K mg "_law_draw" st_law_draw
  _law_of : DefAt K mg "_law_of" st_law_of
  _law_letters : DefAt K mg "_law_letters" st_law_letters
  _law_some_faces : DefAt K mg "_law_some_faces" st_law_some_faces
  _law_some_cutters : DefAt K mg "_law_some_cutters" st_law_some_cutters
  _law_part : DefAt K mg "_law_part" st_law_part
  _law_some_room : DefAt K mg "_law_some_room" st_law_some_room
  _law_some_cut : DefAt K mg "_law_some_cut" st_law_some_cut
  _law_some_line : DefAt K mg "_law_some_line" st_law_some_line
  _law_some_book : DefAt K mg "_law_some_book" st_law_some_book
  _law_open : DefAt K mg "_law_open" st_law_open
  _law_odd_room : DefAt K mg "_law_odd_room" st_law_odd_room
  _law_same : DefAt K mg "_law_same" st_law_same
  _law_field : DefAt K mg "_law_field" st_law_field
  _law_try : DefAt K mg "_law_try" st_law_try
  _law_tries : DefAt K mg "_law_tries" st_law_tries
  _law_listed : DefAt K mg "_law_listed" st_law_listed
/-- the rest of what the top wrote -/
structure LawTops (P : Program) (K : PySem.W.Frag) (mg : Str → Option Value) (Cb C1 C2 : Addr) (mc : Value) (cs : List Value) : Prop where
  txt : Txt mg
  sup : mg "super" = none
  lower : ∃ t, mg "LOWER" = some (.str "abcdefghijklmnopqrstuvwxyz" t)
  upper : ∃ t, mg "UPPER" = some (.str "ABCDEFGHIJKLMNOPQRSTUVWXYZ" t)
  upright : ∃ t, mg "UPRIGHT" = some (.str "|" t)
  level : ∃ t, mg "LEVEL" = some (.str "-" t)
  none_ : ∃ t, mg "NONE" = some (.str "none" t)
  most : ∃ t, mg "MOST_CUTS" = some (.int 30 t)
  comb : mg "comb" = some (.builtin "math.comb")
  book : mg "Book" = some (.ref Cb)
  cls : BkCls K Cb
  bmost : BkMost K Cb mc
  init : ∃ f fd, Mk K Cb f ∧ Fun K "__init__" "Book.__init__" st_Book___init f fd
  read : ∃ p g fd, SMet K Cb mc "read" p g ∧ Fun K "read" "Book.read" st_Book_read g fd
  line_at : MefAt K Cb "line_at" "Book.line_at" st_Book_line_at
  cut : MefAt K Cb "cut" "Book.cut" st_Book_cut
  parts : MefAt K Cb "parts" "Book.parts" st_Book_parts
  room : mg "InvalidRoom" = some (.ref C1)
  number : mg "InvalidNumber" = some (.ref C2)
  xroom : ∃ f cc c, XCls P K st_InvalidRoom "InvalidRoom.__init__" C1 f cc c
  xnumber : ∃ f cc c, XCls P K st_InvalidNumber "InvalidNumber.__init__" C2 f cc c
  x1 : XfC K C1
  x2 : XfC K C2
  named : ∃ c1 c2 c3, cs = [c1, c2, c3] ∧ mg "HouseError" = some c1 ∧ mg "Missing" = some c2 ∧ mg "NothingLeft" = some c3
  m1 : PySem.W.exmAny K (.ref C1) cs = some true
  m2 : PySem.W.exmAny K (.ref C2) cs = some true
theorem xmk_of {x : Str} {C f cc c : Addr} {st : Stmt} {q : Str} (V : XCls P K st q C f cc c) (hm : mg x = some (.ref C)) (h : ∃ fd, FnOk P w K mg base CX0 1 f fd xiP (spXI C x) ∧ Binds K fd xiP []) : XMk P w K mg base x C := by
  obtain ⟨fd, h1, h2⟩ := h
  exact ⟨V.oex, hm, f, fd, V.ini, V.tyf, h1, h2⟩
theorem law_cals (D : LawDefs K mg) (S : LawTops P K mg Cb C1 C2 mc cs) : LawCals P w K mg base Cb C1 C2 mc cs := by
  have T := S.txt
  have B := S.cls
  have M := S.bmost
  have h_Book := S.book
  obtain ⟨t_lower, h_LOWER⟩ := S.lower
  obtain ⟨t_upper, h_UPPER⟩ := S.upper
  obtain ⟨t_upright, h_UPRIGHT⟩ := S.upright
  obtain ⟨t_level, h_LEVEL⟩ := S.level
  obtain ⟨t_none, h_NONE⟩ := S.none_
  obtain ⟨t_most, h_MOST_CUTS⟩ := S.most
  have c_is_number := c_is_number (P := P) (w := w) (base := base) T D.is_number
  have c_is_one := c_is_one (P := P) (w := w) (base := base) T D.is_one
  have c_is_string := c_is_string (P := P) (w := w) (base := base) T D.is_string
  have c_takes := c_takes (P := P) (w := w) (base := base) T D.takes
  have c_fits := c_fits T D.fits c_takes
  have c_is_room := c_is_room T D.is_room c_is_string
  have c_parts_of := c_parts_of (P := P) (w := w) (base := base) T D.parts_of h_UPRIGHT
  have c__law_split := c_law_split (P := P) (w := w) (base := base) T D._law_split
  have c__law_fits := c_law_fits (P := P) (w := w) (base := base) T D._law_fits
  have c__law_line_at := c_law_line_at T D._law_line_at c__law_fits
  have c__law_cut := c_law_cut T D._law_cut c__law_line_at
  have c__law_parts := c_law_parts T D._law_parts c__law_cut c__law_split
  have m_line_at := m_line_at T B S.line_at c_is_room c_is_one c_fits
  have m_cut := m_cut T B S.cut m_line_at
  have m_parts := m_parts T B S.parts m_cut c_parts_of
  have c_one_way := c_one_way (P := P) (w := w) (base := base) T D.one_way
  have c_is_rising := c_is_rising (P := P) (w := w) (base := base) T D.is_rising
  have c_is_faces := c_is_faces T D.is_faces h_LOWER c_is_rising
  have c_is_cutters := c_is_cutters T D.is_cutters h_UPPER c_is_rising
  have c_is_part := c_is_part T D.is_part c_is_rising
  have c_is_cut := c_is_cut T D.is_cut h_UPRIGHT h_LEVEL c_is_string
  have c_is_line := c_is_line T D.is_line c_is_part c_is_cut
  have c_line_of := c_line_of (P := P) (w := w) (base := base) T D.line_of h_NONE
  have c__law_line_text := c_law_line_text (P := P) (w := w) (base := base) T D._law_line_text
  have c__law_book_text := c_law_book_text T D._law_book_text c__law_line_text
  have N := c_init T B M S.init h_Book c_is_faces c_is_cutters c_is_line
  have R := m_read T B M S.read h_Book N c_is_faces c_is_cutters c_is_line c_line_of
  have c__law_book := c_law_book T M D._law_book h_Book R c__law_book_text
  have c_check_room := c_check_room T B D.check_room c_is_room
  have c_turns_of := c_turns_of T B D.turns_of m_cut
  have c_origins := c_origins T B D.origins m_parts
  have c_reached := c_reached T B D.reached c_check_room c_origins
  have c_ways_between := c_ways_between (P := P) (w := w) (base := base) T D.ways_between S.comb
  obtain ⟨f1, fd1, h_one_way, k1, F1, b1⟩ := c_one_way.ex
  obtain ⟨f2, fd2, h_ways_between, k2, F2, b2⟩ := c_ways_between.ex
  have tt1 := c_tree_table g1_small T B D.tree_table F1 k1 b1 c_reached c_turns_of m_parts
  have tt2 := c_tree_table g2_small T B D.tree_table F2 k2 b2 c_reached c_turns_of m_parts
  have c_check_count := c_check_count T B D.check_count h_MOST_CUTS c_check_room c_is_number
  have c_trees_of := c_trees_of T B D.trees_of h_one_way c_check_count tt1
  have c_histories_of := c_histories_of T B D.histories_of h_ways_between c_check_count tt2
  have kw1 := k_trees_of T B D.trees_of h_one_way c_check_count tt1
  have kw2 := k_histories_of T B D.histories_of h_ways_between c_check_count tt2
  obtain ⟨fx1, cc1, cd1, V1⟩ := S.xroom
  obtain ⟨fx2, cc2, cd2, V2⟩ := S.xnumber
  have M1 : XMk P w K mg base "InvalidRoom" C1 := xmk_of V1 S.room (c_InvalidRoom (k := 0) V1 S.sup)
  have M2 : XMk P w K mg base "InvalidNumber" C2 := xmk_of V2 S.number (c_InvalidNumber (k := 0) V2 S.sup)
  have x_check_room := x_check_room T B D.check_room M1 c_is_room
  have x_check_count := x_check_count T B D.check_count M2 h_MOST_CUTS c_check_room x_check_room c_is_number
  have x_trees_of := x_trees_of D.trees_of x_check_count
  have x_histories_of := x_histories_of D.histories_of x_check_count
  have c__law_choose := c_law_choose (P := P) (w := w) (base := base) T D._law_choose
  have c__law_turns := c_law_turns T D._law_turns c__law_cut
  have c__law_reached := c_law_reached T D._law_reached c__law_parts
  have c__law_tree_counts := c_law_tree_counts T D._law_tree_counts c__law_reached c__law_turns c__law_parts c__law_choose
  have c__law_draw : CDr P w K mg base := c_law_draw T D._law_draw
  have c__law_of := c_law_of T D._law_of c__law_draw
  have c__law_letters := c_law_letters T D._law_letters c__law_draw
  have c__law_some_faces := c_law_some_faces T D._law_some_faces c__law_draw c__law_letters
  have c__law_some_cutters := c_law_some_cutters T D._law_some_cutters c__law_draw c__law_letters
  have c__law_part := c_law_part T D._law_part c__law_draw
  have c__law_some_room := c_law_some_room T D._law_some_room c__law_of
  have c__law_some_cut := c_law_some_cut T D._law_some_cut c__law_of
  have c__law_some_line := c_law_some_line T D._law_some_line c__law_draw c__law_part c__law_some_cut
  have c__law_some_book := c_law_some_book T D._law_some_book c__law_draw c__law_some_faces c__law_some_cutters c__law_some_line c__law_part c__law_some_cut
  have c__law_open := c_law_open (P := P) (w := w) (base := base) T D._law_open
  have c__law_odd_room := c_law_odd_room T D._law_odd_room c__law_of
  have same0 : CSm P w K mg base 0 := c_law_same0 T D._law_same
  have same1 := c_law_same1 T D._law_same 0 same0
  have same2 := c_law_same1 T D._law_same 1 same1
  have same3 := c_law_same1 T D._law_same 2 same2
  have c__law_listed := c_law_listed T D._law_listed c__law_turns c__law_parts
  obtain ⟨e1, e2, e3, rfl, n1, n2, n3⟩ := S.named
  obtain ⟨ff, fdf, FF, mf⟩ := D._law_field.ex
  have bf : Binds K fdf ["_law_e"] [] := FF.binds (ps := ["_law_e"]) fun _ _ _ _ _ _ us hl => match us, hl with | [_], _ => rfl
  have c__law_try := c_law_try (P := P) (w := w) (base := base) (k := 10) D._law_try n1 n2 n3 mf FF.kp bf fun txt ht => p_law_field ht FF
  have c__law_tries := c_law_tries (k := 10) T D._law_tries c__law_try
  exact { T := T, B := B, M := M, book := h_Book, N := N, R := R, open_ := c__law_open, draw := c__law_draw, of_ := c__law_of, some_book := c__law_some_book, some_room := c__law_some_room, lbook := c__law_book, btext := c__law_book_text, counts := c__law_tree_counts, same := same3, trees := c_trees_of, hists := c_histories_of, treesK := kw1, histsK := kw2, treesX := x_trees_of, histsX := x_histories_of, listed := c__law_listed, choose := c__law_choose, odd_room := c__law_odd_room, tries := c__law_tries, x1 := ⟨S.x1, V1.nof, V1.nog⟩, x2 := ⟨S.x2, V2.nof, V2.nog⟩, m1 := S.m1, m2 := S.m2 }
end
/-! ### what the words on the written part say -/
section
variable {K : PySem.W.Frag} {mg : Str → Option Value} {h : Heap}
theorem def_at {x : Str} {st : Stmt} {f : Addr} {oc kV dc pm cd ct : Value} {od an : Option Addr} {sl : Array (Option Value)} (X : K.In h) (G : h.Ns mainGlobals mg) (a : PySem.W.nsIn K mainGlobals x = some (some (.ref f)))
    (l : K.lookup f = some ⟨oc, od, .func (PySem.W.fnOf x x (defArgs st) (defBody st) (defScope st) .none kV dc pm an cd ct), sl⟩) (c : PySem.W.codeIn K cd x = true) (k : PySem.W.keepIn K (.ref f) = true) : DefAt K mg x st := ⟨f, _, fun_mk l c k, PySem.W.mg_of X G a⟩
theorem mef_at {Cb : Addr} {x q : Str} {st : Stmt} {f : Addr} {oc kV dc pm cd ct : Value} {od an : Option Addr} {sl : Array (Option Value)} (a : PySem.W.findIn K (.ref Cb) x = some (some (.ref f))) (i : PySem.W.isFn K (.ref f) = true)
    (l : K.lookup f = some ⟨oc, od, .func (PySem.W.fnOf x q (defArgs st) (defBody st) (defScope st) .none kV dc pm an cd ct), sl⟩) (c : PySem.W.codeIn K cd q = true) (k : PySem.W.keepIn K (.ref f) = true) : MefAt K Cb x q st := ⟨f, _, fun_mk l c k, a, i, k⟩
theorem ini_at {Cb : Addr} {x q : Str} {st : Stmt} {f : Addr} {oc kV dc pm cd ct : Value} {od an : Option Addr} {sl : Array (Option Value)} (m : PySem.W.makesIn K Cb = true) (kc : PySem.W.keepIn K (.ref Cb) = true) (a : PySem.W.findIn K (.ref Cb) "__init__" = some (some (.ref f))) (i : PySem.W.isFn K (.ref f) = true)
    (l : K.lookup f = some ⟨oc, od, .func (PySem.W.fnOf x q (defArgs st) (defBody st) (defScope st) .none kV dc pm an cd ct), sl⟩) (c : PySem.W.codeIn K cd q = true) (k : PySem.W.keepIn K (.ref f) = true) : ∃ f fd, Mk K Cb f ∧ Fun K x q st f fd := ⟨f, _, ⟨m, a, i, kc⟩, fun_mk l c k⟩
theorem sta_at {Cb p : Addr} {mc : Value} {x q : Str} {st : Stmt} {f : Addr} {rest : List Value} {oc kV dc pm cd ct : Value} {od an : Option Addr} {sl : Array (Option Value)} (a : PySem.W.findCls K (.ref Cb) mc x = some (.get (.builtin "staticmethod.__get__") (.ref p) .none (.ref Cb))) (r : PySem.W.recIn K p "staticmethod" = some (.ref f :: rest))
    (l : K.lookup f = some ⟨oc, od, .func (PySem.W.fnOf x q (defArgs st) (defBody st) (defScope st) .none kV dc pm an cd ct), sl⟩) (c : PySem.W.codeIn K cd q = true) (k : PySem.W.keepIn K (.ref f) = true) : ∃ p g fd, SMet K Cb mc x p g ∧ Fun K x q st g fd := ⟨p, f, _, ⟨a, ⟨_, r⟩, k⟩, fun_mk l c k⟩
theorem bk_at {Cb : Addr} (pg : PySem.W.plainGet K Cb Str.empty = true) (hd : PySem.W.hasDictIn K Cb = true) (po : PySem.W.plainOver K Cb = true) (sa : PySem.W.findIn K (.ref Cb) "__setattr__" = some (some (.builtin "object.__setattr__")))
    (n1 : PySem.W.findIn K (.ref Cb) "faces" = some none) (n2 : PySem.W.findIn K (.ref Cb) "cutters" = some none) (n3 : PySem.W.findIn K (.ref Cb) "own_lines" = some none) : BkCls K Cb := ⟨⟨pg, hd, po, sa⟩, n1, n2, n3⟩
theorem most_at {Cb : Addr} {mc : Value} {t : Tok} (r : PySem.W.readsIn K Cb mc = true) (g : PySem.W.specialIn K (.ref Cb) "__getattribute__" = some (some (.builtin "type.__getattribute__"))) (m : PySem.W.findCls K (.ref Cb) mc "MOST" = some (.val (.int 8 t))) : BkMost K Cb mc := ⟨⟨r, g⟩, .int 8 t, m, ⟨t, rfl⟩⟩
theorem xf_at {C : Addr} (ga : PySem.W.findIn K (.ref C) "__getattribute__" = some (some (.builtin "BaseException.__getattribute__"))) (gg : PySem.W.findIn K (.ref C) "__getattr__" = some none) (eC : PySem.W.subIn K (.ref C) (.type "BaseException") = some true) (hC : PySem.W.hasDictIn K C = true) : XfC K C := ⟨ga, gg, eC, hC⟩
theorem xc_at {P : Program} {st : Stmt} {q : Str} {C f cc c : Addr} {nm q' : Str} {N : Addr} {bs bm : List Value} {sn : List Str} {sub : List Value} {ab : Bool} {col : Option Bool} {dd : Option Addr} {k0 k1 k2 k3 k5 : Option Value} {oc kV dc pm ct cl ccl : Value} {od an cld cdd : Option Addr} {sl csl ccs : Array (Option Value)} {vs : Array Value} {fl : Str} {tf : Tok}
    (lC : K.lookup C = some (excClassObj nm q' C N bs bm true sn sub ab col dd k0 k1 k2 k3 k5 "ValueError.__new__")) (rv : PySem.HandSPX.refsVE bm = true)
    (sa : PySem.W.findIn K (.ref C) "__setattr__" = some (some (.builtin "object.__setattr__"))) (eC : PySem.W.subIn K (.ref C) (.type "BaseException") = some true) (tC : PySem.W.typeIn K (.ref C) = some (.type "type")) (kC : PySem.W.keepIn K (.ref C) = true)
    (ini : PySem.W.findIn K (.ref C) "__init__" = some (some (.ref f))) (tyf : PySem.W.typeIn K (.ref f) = some (.type "function"))
    (lk : K.lookup f = some ⟨oc, od, .func (PySem.W.fnX "__init__" q (defArgs st) (defBody st) (defScope st) [("__class__", cc)] .none kV dc pm an (.ref c) ct), sl⟩) (code : PySem.W.codeIn K (.ref c) q = true)
    (lc : K.lookup c = some ⟨ccl, cdd, .fields vs, ccs⟩) (v2 : vs[2]? = some (.str fl tf)) (ef : ((P.main.file : Str) == fl) = true)
    (lcc : K.lookup cc = some ⟨cl, cld, .cell (some (.ref C)), csl⟩) (sub1 : PySem.W.mroIn K C (.ref C) = some true) (sup : PySem.W.ks_superIn K C C "__init__" = some (some (.builtin "ValueError.__init__"))) (isV : PySem.W.subIn K (.ref C) (.type "ValueError") = some true)
    (nof : PySem.W.findIn K (.ref C) "code" = some none) (nog : PySem.W.findIn K (.ref C) "given" = some none) (opq : PySem.W.nsIn K cStatics "thirdparty.any" = some none) (top : (P.main.scope.names.lookup ("super" : Str)).isSome = false) : ∃ f cc c, XCls P K st q C f cc c :=
  ⟨f, cc, c, { oex := ⟨⟨nm, q', N, bs, bm, sn, sub, ab, col, dd, k0, k1, k2, k3, k5, lC, rv⟩, sa, eC, tC, kC⟩, ini := ini, tyf := tyf, lk := ⟨oc, od, kV, dc, pm, an, ct, sl, lk⟩, code := code, file := ⟨ccl, cdd, vs, ccs, fl, tf, lc, v2, ef⟩, cell := ⟨cl, cld, csl, lcc⟩, sub := sub1, sup := sup, isV := isV, nof := nof, nog := nog, opq := opq, top := top }⟩
theorem str_at {x s : Str} {t : Tok} (X : K.In h) (G : h.Ns mainGlobals mg) (a : PySem.W.nsIn K mainGlobals x = some (some (.str s t))) : ∃ t, mg x = some (.str s t) := ⟨t, PySem.W.mg_of X G a⟩
theorem int_at {x : Str} {z : Int} {t : Tok} (X : K.In h) (G : h.Ns mainGlobals mg) (a : PySem.W.nsIn K mainGlobals x = some (some (.int z t))) : ∃ t, mg x = some (.int z t) := ⟨t, PySem.W.mg_of X G a⟩
theorem cs_at {c1 c2 c3 : Value} {cs : List Value} (X : K.In h) (G : h.Ns mainGlobals mg) (e : cs = [c1, c2, c3]) (a1 : PySem.W.nsIn K mainGlobals "HouseError" = some (some c1)) (a2 : PySem.W.nsIn K mainGlobals "Missing" = some (some c2)) (a3 : PySem.W.nsIn K mainGlobals "NothingLeft" = some (some c3)) : ∃ c1 c2 c3, cs = [c1, c2, c3] ∧ mg "HouseError" = some c1 ∧ mg "Missing" = some c2 ∧ mg "NothingLeft" = some c3 := ⟨c1, c2, c3, e, PySem.W.mg_of X G a1, PySem.W.mg_of X G a2, PySem.W.mg_of X G a3⟩
theorem txt_at (X : K.In h) (G : h.Ns mainGlobals mg) (z0 : PySem.W.nsIn K mainGlobals "len" = some none) (z1 : PySem.W.nsIn K mainGlobals "isinstance" = some none) (z2 : PySem.W.nsIn K mainGlobals "str" = some none) (z3 : PySem.W.nsIn K mainGlobals "int" = some none) (z4 : PySem.W.nsIn K mainGlobals "bool" = some none) (z5 : PySem.W.nsIn K mainGlobals "list" = some none) (z6 : PySem.W.nsIn K mainGlobals "tuple" = some none) (z7 : PySem.W.nsIn K mainGlobals "set" = some none) (z8 : PySem.W.nsIn K mainGlobals "dict" = some none) (z9 : PySem.W.nsIn K mainGlobals "sorted" = some none) (z10 : PySem.W.nsIn K mainGlobals "all" = some none) (z11 : PySem.W.nsIn K mainGlobals "range" = some none) (z12 : PySem.W.nsIn K mainGlobals "enumerate" = some none) (z13 : PySem.W.nsIn K mainGlobals "zip" = some none) (z14 : PySem.W.nsIn K mainGlobals "abs" = some none) : Txt mg := ⟨PySem.W.mg_none_of X G z0, PySem.W.mg_none_of X G z1, PySem.W.mg_none_of X G z2, PySem.W.mg_none_of X G z3, PySem.W.mg_none_of X G z4, PySem.W.mg_none_of X G z5, PySem.W.mg_none_of X G z6, PySem.W.mg_none_of X G z7, PySem.W.mg_none_of X G z8, PySem.W.mg_none_of X G z9, PySem.W.mg_none_of X G z10, PySem.W.mg_none_of X G z11, PySem.W.mg_none_of X G z12, PySem.W.mg_none_of X G z13, PySem.W.mg_none_of X G z14⟩
end
/-- the law's promise as the head asks for it -/
theorem law_at {l : PySem.W.OpenLaw} {w : World} {K : PySem.W.Frag} {h : Heap} {mg : Str → Option Value} {fa f c Pt Cb C1 C2 : Addr} {mc : Value} {cs : List Value} {oc kV dc pm ct : Value} {od an : Option Addr} {sl : Array (Option Value)} (hfa : mg "law" = some (.ref fa)) (ef : mg "law" = some (.ref f))
    (lk : K.lookup f = some ⟨oc, od, .func (PySem.W.fnOf "law" "law" (defArgs st_law) (defBody st_law) (defScope st_law) .none kV dc pm an (.ref c) ct), sl⟩) (hcd : PySem.W.codeIn K (.ref c) "law" = true)
    (hT : h.get? Pt = some { cls := .none, data := .fields #[] }) (nT : K.lookup Pt = none) (hC : PySem.W.CodeHd h c Pt) (D : LawDefs K mg) (S : LawTops l.prog K mg Cb C1 C2 mc cs) : LamX.LawAtS l w K CX0 14 63 "_law_script" mg fa h := by
  have e := hfa.symm.trans ef
  cases e
  refine ⟨_, [(c, Pt)], spLaw K Pt, ?_, ?_, ?_, fun s u => .of_eq rfl, fun H a ns hl _ hP hS => ⟨a, ns, rfl, hS, hl, hP _ (List.mem_singleton.mpr rfl), fun v H' e => e⟩, fun base KB GB hTB => ok_law lk hcd (hTB _ (List.mem_singleton.mpr rfl)) (law_cals D S)⟩
  · intro p hp
    obtain rfl := List.mem_singleton.mp hp
    exact hT
  · intro p hp
    obtain rfl := List.mem_singleton.mp hp
    exact nT
  · intro p hp
    obtain rfl := List.mem_singleton.mp hp
    exact hC
theorem law_walk {l : PySem.W.OpenLaw} {q : Program} {loose : List Str} {XP : (Str → Option Value) → Heap → Prop} {YP : World → Heap → Prop} {d : DefRec} {K : Params → PySem.W.Frag} (hn : l.most = some 63) (hdf : d.params.defaults = []) (hY : ∀ (w : World) (h : Heap), YP w h → (K w.params).In h)
    (F : ∀ (w : World) (mg : Str → Option Value) (fa : Addr) (h : Heap), YP w h → (K w.params).In h → h.Ns mainGlobals mg → mg d.name = some (.ref fa) → LamX.LawAtS l w (K w.params) CX0 14 63 "_law_script" mg fa h) :
    PySem.W.WalkO q loose XP YP l.row.toRowW d [] (fun f vs => PySem.call f vs) :=
  LamX.walk_ofTs (n := 63) (k := 14) (x := "_law_script") (CX := fun _ => CX0) hn (by decide) hdf ⟨rfl, by decide, by decide⟩ hY F fun _ _ _ _ _ z => z
end FW
open PySem PySem.W PyProof.Rows in
set_option maxRecDepth 100000 in
set_option maxHeartbeats 0 in
theorem PySem.Challenge.cw_fourwalls_k57_whole_numbers_of_histories_holds : PySem.Challenge.rw_fourwalls_k57_whole_numbers_of_histories.Holds := by
  w_on; o_law; k_head; (case hw => w_witness2)
  k_fill
  refine FW.law_walk (l := PySem.Challenge.rw_fourwalls_k57_whole_numbers_of_histories) rfl rfl (fun w h Y => PySem.W.km_in_of Y) ?F
  case F =>
    intro w mg fa h Y KX G hmg
    refine' FW.law_at (mc := .type "type") hmg (PySem.W.mg_of KX G ?aL) ?lL ?cL (PySem.W.km_tabs_of Y _ ?mT) ?nT (PySem.W.codeHd_of_K KX ?hC) ?D ?S
    (case aL => k_is)
    (case lL => k_is)
    (case cL => k_is)
    (case hC => kernel_rfl)
    (case mT => exact List.mem_singleton.mpr rfl)
    (case nT => kernel_rfl)
    case D =>
      refine' ⟨FW.def_at KX G ?a0 ?l0 ?c0 ?k0, FW.def_at KX G ?a1 ?l1 ?c1 ?k1, FW.def_at KX G ?a2 ?l2 ?c2 ?k2, FW.def_at KX G ?a3 ?l3 ?c3 ?k3, FW.def_at KX G ?a4 ?l4 ?c4 ?k4, FW.def_at KX G ?a5 ?l5 ?c5 ?k5, FW.def_at KX G ?a6 ?l6 ?c6 ?k6, FW.def_at KX G ?a7 ?l7 ?c7 ?k7, FW.def_at KX G ?a8 ?l8 ?c8 ?k8, FW.def_at KX G ?a9 ?l9 ?c9 ?k9, FW.def_at KX G ?a10 ?l10 ?c10 ?k10, FW.def_at KX G ?a11 ?l11 ?c11 ?k11, FW.def_at KX G ?a12 ?l12 ?c12 ?k12, FW.def_at KX G ?a13 ?l13 ?c13 ?k13, FW.def_at KX G ?a14 ?l14 ?c14 ?k14, FW.def_at KX G ?a15 ?l15 ?c15 ?k15, FW.def_at KX G ?a16 ?l16 ?c16 ?k16, FW.def_at KX G ?a17 ?l17 ?c17 ?k17, FW.def_at KX G ?a18 ?l18 ?c18 ?k18, FW.def_at KX G ?a19 ?l19 ?c19 ?k19, FW.def_at KX G ?a20 ?l20 ?c20 ?k20, FW.def_at KX G ?a21 ?l21 ?c21 ?k21, FW.def_at KX G ?a22 ?l22 ?c22 ?k22, FW.def_at KX G ?a23 ?l23 ?c23 ?k23, FW.def_at KX G ?a24 ?l24 ?c24 ?k24, FW.def_at KX G ?a25 ?l25 ?c25 ?k25, FW.def_at KX G ?a26 ?l26 ?c26 ?k26, FW.def_at KX G ?a27 ?l27 ?c27 ?k27, FW.def_at KX G ?a28 ?l28 ?c28 ?k28, FW.def_at KX G ?a29 ?l29 ?c29 ?k29, FW.def_at KX G ?a30 ?l30 ?c30 ?k30, FW.def_at KX G ?a31 ?l31 ?c31 ?k31, FW.def_at KX G ?a32 ?l32 ?c32 ?k32, FW.def_at KX G ?a33 ?l33 ?c33 ?k33, FW.def_at KX G ?a34 ?l34 ?c34 ?k34, FW.def_at KX G ?a35 ?l35 ?c35 ?k35, FW.def_at KX G ?a36 ?l36 ?c36 ?k36, FW.def_at KX G ?a37 ?l37 ?c37 ?k37, FW.def_at KX G ?a38 ?l38 ?c38 ?k38, FW.def_at KX G ?a39 ?l39 ?c39 ?k39, FW.def_at KX G ?a40 ?l40 ?c40 ?k40, FW.def_at KX G ?a41 ?l41 ?c41 ?k41, FW.def_at KX G ?a42 ?l42 ?c42 ?k42, FW.def_at KX G ?a43 ?l43 ?c43 ?k43, FW.def_at KX G ?a44 ?l44 ?c44 ?k44, FW.def_at KX G ?a45 ?l45 ?c45 ?k45, FW.def_at KX G ?a46 ?l46 ?c46 ?k46, FW.def_at KX G ?a47 ?l47 ?c47 ?k47, FW.def_at KX G ?a48 ?l48 ?c48 ?k48, FW.def_at KX G ?a49 ?l49 ?c49 ?k49, FW.def_at KX G ?a50 ?l50 ?c50 ?k50, FW.def_at KX G ?a51 ?l51 ?c51 ?k51, FW.def_at KX G ?a52 ?l52 ?c52 ?k52⟩
      (case a0 => k_is); (case l0 => k_is); (case c0 => k_is); (case k0 => k_is)
      (case a1 => k_is); (case l1 => k_is); (case c1 => k_is); (case k1 => k_is)
      (case a2 => k_is); (case l2 => k_is); (case c2 => k_is); (case k2 => k_is)
      (case a3 => k_is); (case l3 => k_is); (case c3 => k_is); (case k3 => k_is)
      (case a4 => k_is); (case l4 => k_is); (case c4 => k_is); (case k4 => k_is)
      (case a5 => k_is); (case l5 => k_is); (case c5 => k_is); (case k5 => k_is)
      (case a6 => k_is); (case l6 => k_is); (case c6 => k_is); (case k6 => k_is)
      (case a7 => k_is); (case l7 => k_is); (case c7 => k_is); (case k7 => k_is)
      (case a8 => k_is); (case l8 => k_is); (case c8 => k_is); (case k8 => k_is)
      (case a9 => k_is); (case l9 => k_is); (case c9 => k_is); (case k9 => k_is)
      (case a10 => k_is); (case l10 => k_is); (case c10 => k_is); (case k10 => k_is)
      (case a11 => k_is); (case l11 => k_is); (case c11 => k_is); (case k11 => k_is)
      (case a12 => k_is); (case l12 => k_is); (case c12 => k_is); (case k12 => k_is)
      (case a13 => k_is); (case l13 => k_is); (case c13 => k_is); (case k13 => k_is)
      (case a14 => k_is); (case l14 => k_is); (case c14 => k_is); (case k14 => k_is)
      (case a15 => k_is); (case l15 => k_is); (case c15 => k_is); (case k15 => k_is)
      (case a16 => k_is); (case l16 => k_is); (case c16 => k_is); (case k16 => k_is)
      (case a17 => k_is); (case l17 => k_is); (case c17 => k_is); (case k17 => k_is)
      (case a18 => k_is); (case l18 => k_is); (case c18 => k_is); (case k18 => k_is)
      (case a19 => k_is); (case l19 => k_is); (case c19 => k_is); (case k19 => k_is)
      (case a20 => k_is); (case l20 => k_is); (case c20 => k_is); (case k20 => k_is)
      (case a21 => k_is); (case l21 => k_is); (case c21 => k_is); (case k21 => k_is)
      (case a22 => k_is); (case l22 => k_is); (case c22 => k_is); (case k22 => k_is)
      (case a23 => k_is); (case l23 => k_is); (case c23 => k_is); (case k23 => k_is)
      (case a24 => k_is); (case l24 => k_is); (case c24 => k_is); (case k24 => k_is)
      (case a25 => k_is); (case l25 => k_is); (case c25 => k_is); (case k25 => k_is)
      (case a26 => k_is); (case l26 => k_is); (case c26 => k_is); (case k26 => k_is)
      (case a27 => k_is); (case l27 => k_is); (case c27 => k_is); (case k27 => k_is)
      (case a28 => k_is); (case l28 => k_is); (case c28 => k_is); (case k28 => k_is)
      (case a29 => k_is); (case l29 => k_is); (case c29 => k_is); (case k29 => k_is)
      (case a30 => k_is); (case l30 => k_is); (case c30 => k_is); (case k30 => k_is)
      (case a31 => k_is); (case l31 => k_is); (case c31 => k_is); (case k31 => k_is)
      (case a32 => k_is); (case l32 => k_is); (case c32 => k_is); (case k32 => k_is)
      (case a33 => k_is); (case l33 => k_is); (case c33 => k_is); (case k33 => k_is)
      (case a34 => k_is); (case l34 => k_is); (case c34 => k_is); (case k34 => k_is)
      (case a35 => k_is); (case l35 => k_is); (case c35 => k_is); (case k35 => k_is)
      (case a36 => k_is); (case l36 => k_is); (case c36 => k_is); (case k36 => k_is)
      (case a37 => k_is); (case l37 => k_is); (case c37 => k_is); (case k37 => k_is)
      (case a38 => k_is); (case l38 => k_is); (case c38 => k_is); (case k38 => k_is)
      (case a39 => k_is); (case l39 => k_is); (case c39 => k_is); (case k39 => k_is)
      (case a40 => k_is); (case l40 => k_is); (case c40 => k_is); (case k40 => k_is)
      (case a41 => k_is); (case l41 => k_is); (case c41 => k_is); (case k41 => k_is)
      (case a42 => k_is); (case l42 => k_is); (case c42 => k_is); (case k42 => k_is)
      (case a43 => k_is); (case l43 => k_is); (case c43 => k_is); (case k43 => k_is)
      (case a44 => k_is); (case l44 => k_is); (case c44 => k_is); (case k44 => k_is)
      (case a45 => k_is); (case l45 => k_is); (case c45 => k_is); (case k45 => k_is)
      (case a46 => k_is); (case l46 => k_is); (case c46 => k_is); (case k46 => k_is)
      (case a47 => k_is); (case l47 => k_is); (case c47 => k_is); (case k47 => k_is)
      (case a48 => k_is); (case l48 => k_is); (case c48 => k_is); (case k48 => k_is)
      (case a49 => k_is); (case l49 => k_is); (case c49 => k_is); (case k49 => k_is)
      (case a50 => k_is); (case l50 => k_is); (case c50 => k_is); (case k50 => k_is)
      (case a51 => k_is); (case l51 => k_is); (case c51 => k_is); (case k51 => k_is)
      (case a52 => k_is); (case l52 => k_is); (case c52 => k_is); (case k52 => k_is)
    case S =>
      refine' { txt := FW.txt_at KX G ?z0 ?z1 ?z2 ?z3 ?z4 ?z5 ?z6 ?z7 ?z8 ?z9 ?z10 ?z11 ?z12 ?z13 ?z14, sup := PySem.W.mg_none_of KX G ?sup, lower := FW.str_at KX G ?glower, upper := FW.str_at KX G ?gupper, upright := FW.str_at KX G ?gupright, level := FW.str_at KX G ?glevel, none_ := FW.str_at KX G ?gnone_, most := FW.int_at KX G ?gmost, comb := PySem.W.mg_of KX G ?gcomb, book := PySem.W.mg_of KX G ?gbook, cls := FW.bk_at ?b0 ?b1 ?b2 ?b3 ?b4 ?b5 ?b6, bmost := FW.most_at ?m0 ?m1 ?m2, init := FW.ini_at ?i0 ?i1 ?i2 ?i3 ?i4 ?i5 ?i6, read := FW.sta_at ?r0 ?r1 ?r2 ?r3 ?r4, line_at := FW.mef_at ?line_at0 ?line_at1 ?line_at2 ?line_at3 ?line_at4, cut := FW.mef_at ?cut0 ?cut1 ?cut2 ?cut3 ?cut4, parts := FW.mef_at ?parts0 ?parts1 ?parts2 ?parts3 ?parts4, room := PySem.W.mg_of KX G ?groom, number := PySem.W.mg_of KX G ?gnumber, xroom := FW.xc_at ?roomlC ?roomrv ?roomsa ?roomeC ?roomtC ?roomkC ?roomini ?roomtyf ?roomlk ?roomcode ?roomlc ?roomv2 ?roomef ?roomlcc ?roomsub1 ?roomsup ?roomisV ?roomnof ?roomnog ?roomopq ?roomtop, xnumber := FW.xc_at ?numberlC ?numberrv ?numbersa ?numbereC ?numbertC ?numberkC ?numberini ?numbertyf ?numberlk ?numbercode ?numberlc ?numberv2 ?numberef ?numberlcc ?numbersub1 ?numbersup ?numberisV ?numbernof ?numbernog ?numberopq ?numbertop, x1 := FW.xf_at ?x1f0 ?x1f1 ?x1f2 ?x1f3, x2 := FW.xf_at ?x2f0 ?x2f1 ?x2f2 ?x2f3, named := FW.cs_at KX G rfl ?e0 ?e1 ?e2, m1 := ?em1, m2 := ?em2 }
      (case gbook => k_is)
      (case groom => k_is)
      (case gnumber => k_is)
      (case e0 => k_is)
      (case e1 => k_is)
      (case e2 => k_is)
      (case z0 => k_is)
      (case z1 => k_is)
      (case z2 => k_is)
      (case z3 => k_is)
      (case z4 => k_is)
      (case z5 => k_is)
      (case z6 => k_is)
      (case z7 => k_is)
      (case z8 => k_is)
      (case z9 => k_is)
      (case z10 => k_is)
      (case z11 => k_is)
      (case z12 => k_is)
      (case z13 => k_is)
      (case z14 => k_is)
      (case sup => k_is)
      (case glower => k_is)
      (case gupper => k_is)
      (case gupright => k_is)
      (case glevel => k_is)
      (case gnone_ => k_is)
      (case gmost => k_is)
      (case gcomb => k_is)
      (case b0 => k_is)
      (case b1 => k_is)
      (case b2 => k_is)
      (case b3 => k_is)
      (case b4 => k_is)
      (case b5 => k_is)
      (case b6 => k_is)
      (case m0 => k_is)
      (case m1 => k_is)
      (case m2 => k_is)
      (case i0 => k_is)
      (case i1 => k_is)
      (case i2 => k_is)
      (case i3 => k_is)
      (case i4 => k_is)
      (case i5 => k_is)
      (case i6 => k_is)
      (case r0 => k_is)
      (case r1 => k_is)
      (case r2 => k_is)
      (case r3 => k_is)
      (case r4 => k_is)
      (case line_at0 => k_is)
      (case line_at1 => k_is)
      (case line_at2 => k_is)
      (case line_at3 => k_is)
      (case line_at4 => k_is)
      (case cut0 => k_is)
      (case cut1 => k_is)
      (case cut2 => k_is)
      (case cut3 => k_is)
      (case cut4 => k_is)
      (case parts0 => k_is)
      (case parts1 => k_is)
      (case parts2 => k_is)
      (case parts3 => k_is)
      (case parts4 => k_is)
      (case roomlC => k_is)
      (case roomrv => decide +kernel)
      (case roomsa => k_is)
      (case roomeC => k_is)
      (case roomtC => k_is)
      (case roomkC => k_is)
      (case roomini => k_is)
      (case roomtyf => k_is)
      (case roomlk => k_is)
      (case roomcode => k_is)
      (case roomlc => k_is)
      (case roomv2 => rfl)
      (case roomef => decide +kernel)
      (case roomlcc => k_is)
      (case roomsub1 => k_is)
      (case roomsup => kernel_rfl)
      (case roomisV => k_is)
      (case roomnof => k_is)
      (case roomnog => k_is)
      (case roomopq => k_is)
      (case roomtop => kernel_rfl)
      (case numberlC => k_is)
      (case numberrv => decide +kernel)
      (case numbersa => k_is)
      (case numbereC => k_is)
      (case numbertC => k_is)
      (case numberkC => k_is)
      (case numberini => k_is)
      (case numbertyf => k_is)
      (case numberlk => k_is)
      (case numbercode => k_is)
      (case numberlc => k_is)
      (case numberv2 => rfl)
      (case numberef => decide +kernel)
      (case numberlcc => k_is)
      (case numbersub1 => k_is)
      (case numbersup => kernel_rfl)
      (case numberisV => k_is)
      (case numbernof => k_is)
      (case numbernog => k_is)
      (case numberopq => k_is)
      (case numbertop => kernel_rfl)
      (case x1f0 => k_is)
      (case x1f1 => k_is)
      (case x1f2 => k_is)
      (case x1f3 => k_is)
      (case x2f0 => k_is)
      (case x2f1 => k_is)
      (case x2f2 => k_is)
      (case x2f3 => k_is)
      (case em1 => kernel_rfl)
      (case em2 => kernel_rfl)
