import PyProof.Rows.All
import Wide.All
import OpenK.AllK
import Wide.FinOn
import HandS.ForMost
import HandS.ForExc
import HandS.ExcInit
import HandS.IsInst
import HandS.Lambda
import HandS.EndTab
import HandS.Conv
import HandS.TupAny
import HandS.Flow
import HandS.StrMore
import HandS.Zip
import HandS.CallSlots
import HandS.ExcIs
import HandS.ExcField
import KE.KExcIs
import PyProof.InstNe
import KE.SortData
import KE.DataMinMax
import HandS.Style
import KE.KRevSl
import KE.DataFind
import HandS.Comp
import HandS.Text
import HandS.SetFor
import HandS.Iter
import HandS.Defaults
import HandS.Steps
import PySem.Challenge.RW_roundflatwild_k34_texts_of_signatures_wo
import PyProof.Rows.StrSplitJoin
import HandS.HeadHook4
import HandS.HeadWalk
import HandS.Head2
import HandS.HeadEnd
set_option Elab.async false
set_option linter.all false
set_option maxRecDepth 100000
set_option maxHeartbeats 4000000
namespace Rd
open PySem PySem.Spec PyProof.Rows L2
abbrev S0 := L2.St
/-! ### readings: one lemma a former, its conclusion the former itself -/
section rd
variable {K : PySem.W.Frag} {σ : S0} {H : Hp} {ta tb te tv tc td : TE} {Q : VK} {t u : TS} {nx : S0 → Hp → Prop} {rt : VK} {bk ct : S0 → Hp → Prop} {tt uu : TT} {QB : Bool → Hp → Prop} {aa bb : TA} {QA : List V → Hp → Prop}
theorem r_var {i : Nat} {v : V} (h : σ[i]? = some (some v)) (q : Q v H) : tVar i σ H Q := ⟨v, h, q⟩
theorem r_c {v : V} (q : Q v H) : tC v σ H Q := q
theorem r_op {r : R2} (h : ta σ H fun x H1 => tb σ H1 fun y H2 => r x y H2 Q) : tOp r ta tb σ H Q := h
theorem r_un {r : V → Hp → VK → Prop} (h : ta σ H fun x H1 => r x H1 Q) : tUn r ta σ H Q := h
theorem r_U {g : Int → V} {i : Int} (q : Q (g i) H) : rU g (.int i) H Q := ⟨i, rfl, q⟩
theorem r_I0 {g : Int → Int → V} {i j : Int} (q : Q (g i j) H) : rI0 g (.int i) (.int j) H Q := ⟨i, j, rfl, rfl, q⟩
theorem r_I {C : Int → Int → Prop} {g : Int → Int → V} {i j : Int} (c : C i j) (q : Q (g i j) H) : rI C g (.int i) (.int j) H Q := ⟨i, j, rfl, rfl, c, q⟩
theorem r_eq {x y : V} (c : scal x y = true) (q : Q (.bl (decide (x = y))) H) : rEq x y H Q := ⟨c, q⟩
theorem r_ne {x y : V} (c : scal x y = true) (q : Q (.bl (!decide (x = y))) H) : rNe x y H Q := ⟨c, q⟩
theorem r_test (h : ta σ H fun x H1 => ∃ k, x = .bl k ∧ QB k H1) : tTest ta σ H QB := h
theorem r_B (h : ta σ H fun x H1 => ∃ k, x = .bl k ∧ QB k H1) : tB ta σ H QB := h
theorem r_bl {k : Bool} {P : Bool → Prop} (q : P k) : ∃ c, V.bl k = .bl c ∧ P c := ⟨k, rfl, q⟩
theorem r_not (h : tt σ H fun c H1 => QB (!c) H1) : tNot tt σ H QB := h
theorem r_and (h : tt σ H fun c H1 => if c = true then uu σ H1 QB else QB false H1) : tAnd tt uu σ H QB := h
theorem r_or (h : tt σ H fun c H1 => if c = true then QB true H1 else uu σ H1 QB) : tOr tt uu σ H QB := h
theorem r_ifE (h : tt σ H fun c H1 => if c = true then ta σ H1 Q else tb σ H1 Q) : tIf tt ta tb σ H Q := h
theorem r_nil (q : QA [] H) : tNil σ H QA := q
theorem r_cons (h : ta σ H fun x H1 => bb σ H1 fun xs H2 => QA (x :: xs) H2) : tCons ta bb σ H QA := h
theorem r_cb {r : List V → Hp → VK → Prop} (h : aa σ H fun vs H1 => r vs H1 Q) : tCB r aa σ H Q := h
theorem r_tup (h : aa σ H fun xs H1 => xs.length ≤ sizeLine ∧ ∀ p, H1 p = none → Q (.ref p) (upd H1 p (.tup xs))) : tTup aa σ H Q := h
theorem r_lst (h : aa σ H fun xs H1 => xs.length ≤ sizeLine ∧ ∀ p, H1 p = none → Q (.ref p) (upd H1 p (.lst xs))) : tLst aa σ H Q := h
theorem r_call {sp : Sp} {dvs : List V} {E : XK} (h : aa σ H fun vs H1 => sp (vs ++ dvs) H1 Q E) : tCall sp dvs E aa σ H Q := h
theorem r_callS {sp : Sp} {E : S0 → XK} (h : aa σ H fun vs H1 => sp vs H1 Q (E σ)) : tCallS sp E aa σ H Q := h
theorem r_sl {r : V → Option Int → Option Int → Hp → VK → Prop} {tl th : TO} (h : te σ H fun x H1 => tl σ H1 fun l H2 => th σ H2 fun u H3 => r x l u H3 Q) : tSl r te tl th σ H Q := h
theorem r_nopart {Q : Option Int → Hp → Prop} (q : Q none H) : tNoPart σ H Q := q
theorem r_part {Q : Option Int → Hp → Prop} (h : te σ H fun x H1 => ∃ i, x = .int i ∧ Q (some i) H1) : tPart te σ H Q := h
theorem r_int {P : Int → Prop} {i : Int} (q : P i) : ∃ j, V.int i = .int j ∧ P j := ⟨i, rfl, q⟩
theorem r_bm {T : String} {r : V → List V → Hp → VK → Prop} (h : te σ H fun x H1 => tyV K T x H1 ∧ aa σ H1 fun xs H2 => r x xs H2 Q) : tBM K T r te aa σ H Q := h
theorem r_bm0 {T : String} {r : V → List V → Hp → VK → Prop} (h : te σ H fun x H1 => tyV K T x H1 ∧ r x [] H1 Q) : tBM0 K T r te σ H Q := h
theorem r_m0 {r : V → List V → Hp → VK → Prop} (h : te σ H fun x H1 => (∃ a, x = .str a) ∧ r x [] H1 Q) : tM0 r te σ H Q := h
theorem r_m1 {r : V → List V → Hp → VK → Prop} (h : ta σ H fun x H1 => (∃ a, x = .str a) ∧ te σ H1 fun y H2 => r x [y] H2 Q) : tM1 r ta te σ H Q := h
theorem r_str {P : Prop} {z : Str} (h : P) : (∃ a, V.str z = .str a) ∧ P := ⟨⟨z, rfl⟩, h⟩
/-! statements: the wishes written out -/
theorem r_seq (h : t ⟨u ⟨nx, rt, bk, ct⟩, rt, bk, ct⟩ σ H) : tSeq t u ⟨nx, rt, bk, ct⟩ σ H := h
theorem r_cut (Mid : S0 → Hp → Prop) (h : t ⟨Mid, rt, bk, ct⟩ σ H) (h2 : ∀ σ' H', Mid σ' H' → u ⟨nx, rt, bk, ct⟩ σ' H') : C8.tCut t u ⟨nx, rt, bk, ct⟩ σ H := ⟨Mid, h, h2⟩
theorem r_if (h : tt σ H fun b H1 => if b = true then t ⟨nx, rt, bk, ct⟩ σ H1 else u ⟨nx, rt, bk, ct⟩ σ H1) : tIfS tt t u ⟨nx, rt, bk, ct⟩ σ H := h
theorem r_ret (h : te σ H rt) : tRet te ⟨nx, rt, bk, ct⟩ σ H := h
theorem r_retN (h : rt .non H) : tRetN ⟨nx, rt, bk, ct⟩ σ H := h
theorem r_next (h : nx σ H) : tNext ⟨nx, rt, bk, ct⟩ σ H := h
theorem r_break (h : bk σ H) : tBreak ⟨nx, rt, bk, ct⟩ σ H := h
theorem r_cont (h : ct σ H) : tCont ⟨nx, rt, bk, ct⟩ σ H := h
theorem r_drop (h : te σ H fun _ H1 => nx σ H1) : tDrop te ⟨nx, rt, bk, ct⟩ σ H := h
theorem r_asg {g : TG} (h : te σ H fun x H1 => g x σ H1 nx) : tAsg te g ⟨nx, rt, bk, ct⟩ σ H := h
theorem r_name {i : Nat} {v : V} {σ' : S0} (e : σ.set i (some v) = σ') (q : nx σ' H) : gName i v σ H nx := by
  show nx (σ.set i (some v)) H
  rw [e]; exact q
theorem r_sub {ti : TE} {ts : TSet} {v : V} (h : te σ H fun o H1 => ti σ H1 fun i H2 => ts o i v H2 fun H3 => nx σ H3) : gSub te ti ts v σ H nx := h
theorem r_par {i j : Nat} {v w : V} {P : List V → Hp → Prop} {σ' : S0} (e : (σ.set i (some v)).set j (some w) = σ') (q : nx σ' H) : ∃ v' w', [v, w] = [v', w'] ∧ nx ((σ.set i (some v')).set j (some w')) H := ⟨v, w, rfl, by rw [e]; exact q⟩
theorem r_tpar {i j : Nat} (h : aa σ H fun vs H1 => ∃ v w, vs = [v, w] ∧ nx ((σ.set i (some v)).set j (some w)) H1) : tPar i j aa ⟨nx, rt, bk, ct⟩ σ H := h
theorem r_fld {f : Str} (h : te σ H fun x H1 => ∃ a C dx fs v, x = .ref a ∧ H1 a = some (.ins C dx fs) ∧ Cls K C ∧ NoAttr K C f ∧ fs.lookup f = some v ∧ Q v H1) : tFld K te f σ H Q := h
theorem r_for {wi : TI} {g : TG} (h : wi σ H fun J H1 => ∃ W : Nat → Nat → S0 → Hp → Prop, (∃ m, W 0 m σ H1) ∧ ∀ i m σ H, W i m σ H →
  (J.stop i H ∧ nx σ H) ∨ (J.go i H ∧ ∃ N : S0 → Hp → Prop, (∀ σ' H', N σ' H' → ∃ m', m' < m ∧ W (i + 1) m' σ' H') ∧ ∀ x H', J.yld i H x H' → g x σ H' fun σ2 H2 => t ⟨N, rt, nx, N⟩ σ2 H2)) : tFor wi g t ⟨nx, rt, bk, ct⟩ σ H := h
theorem r_iRng1 {Q : It → Hp → Prop} (h : aa σ H fun vs H1 => ∃ j : Int, vs = [.int j] ∧ -(2 ^ 62) ≤ j ∧ j < 2 ^ 62 ∧ Q (Itr 0 j.toNat) H1) : iRng1 aa σ H Q := h
theorem r_iList {Q : It → Hp → Prop} (h : te σ H fun x H1 => ∃ a, x = .ref a ∧ (∃ xs, SqL K H1 a xs) ∧ Q (Itl K a) H1) : iList K te σ H Q := h
theorem r_iTup {Q : It → Hp → Prop} (h : te σ H fun x H1 => ∃ a, x = .ref a ∧ (∃ xs, SqT K H1 a xs) ∧ Q (Itt K a) H1) : iTup K te σ H Q := h
/-! values -/
theorem r_ixL {p : Addr} {xs : List V} {i : Int} {v : V} (h : SqL K H p xs) (ha : atI xs i = some v) (q : Q v H) : rIxL K (.ref p) (.int i) H Q := ⟨p, xs, i, v, rfl, rfl, h, ha, q⟩
theorem r_ixLt {p : Addr} {xs : List V} {i : Int} {v : V} (h : H p = some (.lst xs)) (ha : atI xs i = some v) (q : Q v H) : rIxL K (.ref p) (.int i) H Q := ⟨p, xs, i, v, rfl, rfl, .inl (.inl h), ha, q⟩
theorem r_setL {p : Addr} {xs : List V} {k : Int} {j : Nat} {v : V} {Q : Hp → Prop} (h : H p = some (.lst xs)) (e : ixN xs.length k = some j) (q : Q (upd H p (.lst (xs.set j v)))) : rSetL (.ref p) (.int k) v H Q := ⟨p, xs, k, j, rfl, rfl, h, e, q⟩
theorem r_lenL {p : Addr} {xs : List V} (h : SqL K H p xs) (q : Q (.int xs.length) H) : ∃ q ys, [V.ref p] = [.ref q] ∧ (SqL K H q ys ∨ SqT K H q ys) ∧ Q (.int ys.length) H := ⟨p, xs, rfl, .inl h, q⟩
end rd
/-! the heap: what may change stands in a list -/
def Kp (S : List Addr) (H H' : Hp) : Prop := ∀ b o, b ∉ S → H b = some o → H' b = some o
theorem Kp.refl (S : List Addr) (H : Hp) : Kp S H H := fun _ _ _ h => h
theorem Kp.trans {S : List Addr} {H H1 H2 : Hp} (a : Kp S H H1) (b : Kp S H1 H2) : Kp S H H2 := fun x o n h => b x o n (a x o n h)
theorem Kp.new {S : List Addr} {H H1 : Hp} {p : Addr} {o : HO} (a : Kp S H H1) (n : H1 p = none) : Kp S H (upd H1 p o) := fun x u hx h => by
  rw [upd_ne (ne_of_none (a x u hx h) n)]; exact a x u hx h
theorem Kp.put {S : List Addr} {H H1 : Hp} {p : Addr} {o : HO} (a : Kp S H H1) (n : p ∈ S) : Kp S H (upd H1 p o) := fun x u hx h => by
  rw [upd_ne (fun e => hx (by rw [e]; exact n))]; exact a x u hx h
theorem Kp.own {S : List Addr} {H H1 : Hp} {p : Addr} {o : HO} (a : Kp S H H1) (n : H p = none) : Kp S H (upd H1 p o) := fun x u hx h => by
  rw [upd_ne (ne_of_none h n)]; exact a x u hx h
theorem Kp.weak {S T : List Addr} {H H1 : Hp} (a : Kp S H H1) (s : ∀ x ∈ S, x ∈ T) : Kp T H H1 := fun x u hx h => a x u (fun z => hx (s x z)) h
theorem Kp.sub {S T : List Addr} {H H1 : Hp} (a : Kp S H H1) (s : ∀ x ∈ S, x ∈ T ∨ H x = none) : Kp T H H1 := fun x u hx h => a x u (fun z => (s x z).elim hx (fun n => by rw [n] at h; cases h)) h
theorem Kp.rd {S : List Addr} {H H' : Hp} (e : Kp S H H') {a : Addr} {u : HO} (n : a ∉ S) (h : Rd H a u) : Rd H' a u := by
  rcases h with h | ⟨o, h⟩
  · exact .inl (e a _ n h)
  · exact .inr ⟨o, e a _ n h⟩
theorem Kp.sqL {K : PySem.W.Frag} {S : List Addr} {H H' : Hp} (e : Kp S H H') {a : Addr} {xs : List V} (n : a ∉ S) (h : SqL K H a xs) : SqL K H' a xs := by
  rcases h with h | h
  · exact .inl (e.rd n h)
  · exact .inr h
theorem Kp.sqT {K : PySem.W.Frag} {S : List Addr} {H H' : Hp} (e : Kp S H H') {a : Addr} {xs : List V} (n : a ∉ S) (h : SqT K H a xs) : SqT K H' a xs := by
  rcases h with h | h
  · exact .inl (e.rd n h)
  · exact .inr h
theorem iteB {b : Bool} {A B : Prop} (h1 : b = true → A) (h2 : b = false → B) : if b = true then A else B := by
  cases b with
  | true => exact h1 rfl
  | false => exact h2 rfl
theorem iteD {p : Prop} [Decidable p] {A B : Prop} (h1 : p → A) (h2 : ¬ p → B) : if decide p = true then A else B := by
  by_cases h : p
  · rw [if_pos (decide_eq_true h)]; exact h1 h
  · rw [if_neg (by rw [decide_eq_false h]; decide)]; exact h2 h
end Rd

set_option Elab.async false
set_option linter.all false
set_option maxRecDepth 100000
set_option maxHeartbeats 4000000
namespace Rd
open PySem PySem.Spec PyProof.Rows L2
/-! named rules for values -/
section
variable {X : Cx} {K : PySem.W.Frag} {H : Hp} {Q : VK}
def rInt1 : List V → Hp → VK → Prop := fun xs H Q => ∃ i, xs = [.int i] ∧ Q (.int i) H
theorem c_int : CallR X (.type "int") rInt1 := fun pins s σ H xs us Q I r h => call_int1 pins s σ H xs us Q I r (.inl h)
theorem r_int1 {i : Int} (q : Q (.int i) H) : rInt1 [.int i] H Q := ⟨i, rfl, q⟩
def rIntB : List V → Hp → VK → Prop := fun xs H Q => ∃ k, xs = [.bl k] ∧ Q (.int (if k then 1 else 0)) H
theorem c_intB : CallR X (.type "int") rIntB := fun pins s σ H xs us Q I r h => call_int1 pins s σ H xs us Q I r (.inr h)
theorem r_intB {k : Bool} (q : Q (.int (if k then 1 else 0)) H) : rIntB [.bl k] H Q := ⟨k, rfl, q⟩
def rAbs : List V → Hp → VK → Prop := fun xs H Q => ∃ i, xs = [.int i] ∧ Q (.int (if i < 0 then -i else i)) H
theorem c_abs : CallR X (.builtin "abs") rAbs := call_abs
theorem r_abs {i : Int} (q : Q (.int (if i < 0 then -i else i)) H) : rAbs [.int i] H Q := ⟨i, rfl, q⟩
def rLenQ (K : PySem.W.Frag) : List V → Hp → VK → Prop := fun xs H Q => ∃ p ys, xs = [.ref p] ∧ (SqL K H p ys ∨ SqT K H p ys) ∧ Q (.int ys.length) H
theorem c_len : CallR X (.builtin "len") (rLenQ X.K) := call_len_seq
theorem r_lenL' {p : Addr} {xs : List V} (h : SqL K H p xs) (q : Q (.int xs.length) H) : rLenQ K [.ref p] H Q := ⟨p, xs, rfl, .inl h, q⟩
theorem r_lenT' {p : Addr} {xs : List V} (h : SqT K H p xs) (q : Q (.int xs.length) H) : rLenQ K [.ref p] H Q := ⟨p, xs, rfl, .inr h, q⟩
def rLenStr : List V → Hp → VK → Prop := fun xs H Q => ∃ z, xs = [.str z] ∧ z.length ≤ sizeLine ∧ Q (.int z.length) H
theorem c_lenS : CallR X (.builtin "len") rLenStr := call_len_str
theorem r_lenS {z : Str} (h : z.length ≤ sizeLine) (q : Q (.int z.length) H) : rLenStr [.str z] H Q := ⟨z, rfl, h, q⟩
theorem r_eqD {x y : V} {d e : PyData} (h1 : Dp K H x d) (h2 : Dp K H y e) (h3 : SeqAt.shaped d = true) (h4 : SeqAt.shaped e = true) (q : Q (.bl (PyData.eqv d e)) H) : rEqD K x y H Q := ⟨d, e, h1, h2, h3, h4, q⟩
theorem r_neD {x y : V} {d e : PyData} (h1 : Dp K H x d) (h2 : Dp K H y e) (h3 : SeqAt.shaped d = true) (h4 : SeqAt.shaped e = true) (q : Q (.bl (!PyData.eqv d e)) H) : rNeD K x y H Q := ⟨d, e, h1, h2, h3, h4, q⟩
theorem sqL_of {p : Addr} {xs : List V} (h : H p = some (.lst xs)) : SqL K H p xs := .inl (.inl h)
theorem sqT_of {p : Addr} {xs : List V} (h : H p = some (.tup xs)) : SqT K H p xs := .inl (.inl h)
theorem dpInts : ∀ (l : List Int), DpAll K H (l.map V.int) (l.map PyData.int)
  | [] => .nil
  | i :: l => .cons (.int i) (dpInts l)
theorem dpStrs : ∀ (l : List Str), DpAll K H (l.map V.str) (l.map PyData.str)
  | [] => .nil
  | i :: l => .cons (.str i) (dpStrs l)
end
theorem canInts : ∀ (l : List Int), PyData.canLayAll0 (l.map PyData.int) = true
  | [] => rfl
  | _ :: l => by
    show (true && PyData.canLayAll0 (l.map PyData.int)) = true
    rw [canInts l]; rfl
theorem depInts : ∀ (l : List Int), PyData.depthAll (l.map PyData.int) = 0
  | [] => rfl
  | _ :: l => by
    show max 0 (PyData.depthAll (l.map PyData.int)) = 0
    rw [depInts l]; rfl
theorem shInts (l : List Int) : SeqAt.shaped (.list (l.map PyData.int)) = true := by
  show (PyData.canLayAll0 (l.map PyData.int) && decide (PyData.depthAll (l.map PyData.int) + 1 ≤ 64)) = true
  rw [canInts, depInts]; rfl
theorem shIntsT (l : List Int) : SeqAt.shaped (.tuple (l.map PyData.int)) = true := by
  show (PyData.canLayAll0 (l.map PyData.int) && decide (PyData.depthAll (l.map PyData.int) + 1 ≤ 64)) = true
  rw [canInts, depInts]; rfl
theorem nu {H : Hp} {p t : Addr} {o : HO} (h : upd H p o t = none) : t ≠ p ∧ H t = none := by
  by_cases e : t = p
  · rw [e, upd_same] at h; cases h
  · rw [upd_ne e] at h; exact ⟨e, h⟩
theorem atI_of {α : Type} {xs : List α} {i : Int} (h0 : 0 ≤ i) (h1 : i < xs.length) : ∃ v, xs[i.toNat]? = some v ∧ atI xs i = some v := by
  have hl : i.toNat < xs.length := by omega
  refine ⟨xs[i.toNat], List.getElem?_eq_getElem hl, ?_⟩
  have := atI_nat (List.getElem?_eq_getElem hl)
  rwa [Int.toNat_of_nonneg h0] at this
theorem atI_ints {l : List Int} {i : Int} (h0 : 0 ≤ i) (h1 : i < (l.map V.int).length) : ∃ x, l[i.toNat]? = some x ∧ atI (l.map V.int) i = some (.int x) := by
  obtain ⟨v, h2, h3⟩ := atI_of h0 h1
  rw [List.getElem?_map] at h2
  cases e : l[i.toNat]? with
  | none => rw [e] at h2; cases h2
  | some x => rw [e] at h2; cases h2; exact ⟨x, rfl, h3⟩
theorem fmod_rng {i m : Int} (h : 0 < m) : 0 ≤ i.fmod m ∧ i.fmod m < m := by
  rw [Int.fmod_eq_emod_of_nonneg _ (Int.le_of_lt h)]
  exact ⟨Int.emod_nonneg _ (by omega), Int.emod_lt_of_pos _ h⟩
theorem fdiv_nn {i m : Int} (h : 0 < m) (hi : 0 ≤ i) : 0 ≤ i.fdiv m := by
  rw [Int.fdiv_eq_ediv_of_nonneg _ (Int.le_of_lt h)]
  exact Int.ediv_nonneg hi (by omega)
end Rd

set_option Elab.async false
set_option linter.all false
set_option maxRecDepth 100000
set_option maxHeartbeats 4000000
namespace Rd
open PySem PySem.Spec PyProof.Rows L2
/-! defs by their names, what they let out told by L2.CX -/
structure CalX (P : Program) (w : World) (K : PySem.W.Frag) (mg : Str → Option Value) (base : Heap) (k : Nat) (x : Str) (sp : Sp) (dvs : List V) : Prop where
  ex : ∃ (f : Addr) (fd : FuncData) (ps : List Str) (ds : List Value), FnOk P w K mg base (L2.CX P w) k f fd ps sp ∧ mg x = some (.ref f) ∧ PySem.W.keepIn K (.ref f) = true ∧ Binds K fd ps ds ∧ Vals dvs ds
theorem pX0 {X : Cx} : ∀ σ : S0, PassesAt (L2.CX X.prog X.w) X σ E0 := fun _ _ _ _ _ _ _ h => by
  obtain ⟨_, _, _, _, _, _, _, _, _, _, _, _, z⟩ := h
  exact z.elim
theorem pXE {X : Cx} {E : XK} (tk : Takes X (fun cls d _ H => E cls d H)) : ∀ σ : S0, PassesAt (L2.CX X.prog X.w) X σ E := fun σ => passAt tk σ
section
variable {X : Cx} {k j : Nat} {x : Str} {sp : Sp} {dvs : List V} {E : XK} {p pos : Pos} {e : Expr} {es : List Expr} {t : TA}
theorem pe_cx (c : CalX X.prog X.w X.K X.mg X.base k x sp dvs) (hr : Room j X.A) (hk : k ≤ j) (hg : Gl X x) (hx : ∀ σ, PassesAt (L2.CX X.prog X.w) X σ E) (ha : PA X (e :: es) t)
    (hdb : (x == ("__debug__" : Str)) = false := by decide) (he : starEach (e :: es) X.env = (false, eval e X.env) :: starEach es X.env := by rfl) (hpl : (backTo pos (starEach es X.env)).any (·.1) = false := by rfl) :
    PE X (.Call (.Name x p) (e :: es) [] pos) (tCall sp dvs E t) := by
  obtain ⟨f, fd, ps, ds, F, hm, kp, b, d⟩ := c.ex
  exact pe_call F (hr.mono hk) hg hm kp b d (fun pins σ H s e s' I q => hx σ pins H s e s' I q) ha hdb he hpl
theorem pe_cx0 (c : CalX X.prog X.w X.K X.mg X.base k x sp dvs) (hr : Room j X.A) (hk : k ≤ j) (hg : Gl X x) (hx : ∀ σ, PassesAt (L2.CX X.prog X.w) X σ E)
    (hdb : (x == ("__debug__" : Str)) = false := by decide) :
    PE X (.Call (.Name x p) [] [] pos) (tCall sp dvs E tNil) := by
  obtain ⟨f, fd, ps, ds, F, hm, kp, b, d⟩ := c.ex
  exact pe_call0 F (hr.mono hk) hg hm kp b d (fun pins σ H s e s' I q => hx σ pins H s e s' I q) hdb
/-- a class that is made by its name; sp: its __init__ -/
structure MakX (P : Program) (w : World) (K : PySem.W.Frag) (mg : Str → Option Value) (base : Heap) (k : Nat) (x : Str) (C : Addr) (sp : Sp) (dvs : List V) : Prop where
  ex : ∃ (f : Addr) (fd : FuncData) (ps : List Str) (ds : List Value), Mk K C f ∧ FnOk P w K mg base (L2.CX P w) k f fd ps sp ∧ mg x = some (.ref C) ∧ Binds K fd ps ds ∧ Vals dvs ds
theorem pe_mkx {C : Addr} (c : MakX X.prog X.w X.K X.mg X.base k x C sp dvs) (hr : Room j X.A) (hk : k + 1 ≤ j) (hg : Gl X x) (hx : ∀ σ, PassesAt (L2.CX X.prog X.w) X σ E) (ha : PA X (e :: es) t)
    (hdb : (x == ("__debug__" : Str)) = false := by decide) (he : starEach (e :: es) X.env = (false, eval e X.env) :: starEach es X.env := by rfl) (hpl : (backTo pos (starEach es X.env)).any (·.1) = false := by rfl) :
    PE X (.Call (.Name x p) (e :: es) [] pos) (tMake C sp dvs E t) := by
  obtain ⟨f, fd, ps, ds, M, F, hm, b, d⟩ := c.ex
  exact pe_make M F (hr.mono hk) hg hm b d (fun pins σ H s e s' I q => hx σ pins H s e s' I q) ha hdb he hpl
end
section
variable {P : Program} {w : World} {K : PySem.W.Frag} {mg : Str → Option Value} {base : Heap}
theorem calx_mk {x : Str} {st : Stmt} {f : Addr} {fd : FuncData} {ps : List Str} {k : Nat} {sp : Sp} (F : Fun K x x st f fd) (hm : mg x = some (.ref f)) (b : Binds K fd ps []) (h : FnOk P w K mg base (L2.CX P w) k f fd ps sp) : CalX P w K mg base k x sp [] :=
  ⟨f, fd, ps, [], h, hm, F.kp, b, .nil⟩
end

/-! own exceptions with fields fs -/
def spExc (C : Addr) (fs : List Str) : Sp := fun vs H Q _ => ∃ (a : Addr) (ws : List V), vs = .ref a :: ws ∧ ws.length = fs.length ∧ H a = some (exo a C none) ∧ ∀ dx, H dx = none → dx ≠ a → Q .non (upd (upd H dx (exd dx (fs.zip ws).reverse)) a (exo a C (some dx)))
/-- what of the text an own exception class has: x its name, C where it stands, fs its fields -/
structure ExcX (P : Program) (w : World) (K : PySem.W.Frag) (mg : Str → Option Value) (base : Heap) (x : Str) (C : Addr) (fs : List Str) : Prop where
  oex : OexC K C
  mgC : mg x = some (.ref C)
  ini : ∃ (fI : Addr) (fd : FuncData) (ps : List Str), PySem.W.findIn K (.ref C) "__init__" = some (some (.ref fI)) ∧ PySem.W.typeIn K (.ref fI) = some (.type "function") ∧ FnOk P w K mg base (L2.CX P w) 1 fI fd ps (spExc C fs) ∧ Binds K fd ps []
def rMkX (C : Addr) (fs : List Str) (vs : List V) (H : Hp) (Q : XK) : Prop := vs.length ≤ 1000 ∧ ∀ a, H a = none → spExc C fs (.ref a :: (vs ++ [])) (upd H a (exo a C none))
  (fun v H2 => v = .non ∧ ∃ (d : Addr) (fs : List (Str × V)), H2 a = some (exo a C (some d)) ∧ H2 d = some (exd d fs) ∧ H d = none ∧ Q (.ref C) (some d) (upd (del H2 a) d (.xd fs))) (fun _ _ _ => False)
def tMkX (C : Addr) (fs : List Str) (ta : TA) : S0 → Hp → XK → Prop := fun σ H Q => ta σ H fun vs H1 => rMkX C fs vs H1 Q
theorem r_mkX {C : Addr} {fs : List Str} {vs : List V} {H : Hp} {Q : XK} (hl : vs.length = fs.length) (hf : fs.length ≤ 1000) (q : ∀ d, H d = none → Q (.ref C) (some d) (upd H d (.xd (fs.zip vs).reverse))) : rMkX C fs vs H Q := by
  refine ⟨by omega, fun a ha => ⟨a, vs, by rw [List.append_nil], hl, upd_same, fun dx hdx hne => ⟨rfl, dx, _, upd_same, (upd_ne hne).trans upd_same, by rw [upd_ne hne] at hdx; exact hdx, ?_⟩⟩⟩
  have hd : H dx = none := by rw [upd_ne hne] at hdx; exact hdx
  have e : upd (del (upd (upd (upd H a (exo a C none)) dx (exd dx (fs.zip vs).reverse)) a (exo a C (some dx))) a) dx (.xd (fs.zip vs).reverse) = upd H dx (.xd (fs.zip vs).reverse) := by
    funext b
    by_cases hb : b = dx
    · rw [hb, upd_same, upd_same]
    · rw [upd_ne hb, upd_ne hb]
      by_cases ba : b = a
      · rw [ba, del_same, ha]
      · rw [del_ne ba, upd_ne ba, upd_ne hb, upd_ne ba]
  rw [e]
  exact q dx hd
section
variable {X : Cx} {j : Nat} {x : Str} {C : Addr} {fs : List Str} {p pos : Pos} {e : Expr} {es : List Expr} {ta : TA}
theorem pmk_x (c : ExcX X.prog X.w X.K X.mg X.base x C fs) (hr : Room j X.A) (hj : 2 ≤ j) (hg : Gl X x) (ha : PA X (e :: es) ta)
    (hdb : (x == ("__debug__" : Str)) = false := by decide) (he : starEach (e :: es) X.env = (false, eval e X.env) :: starEach es X.env := by rfl) (hpl : (backTo pos (starEach es X.env)).any (·.1) = false := by rfl) :
    PMk X (.Call (.Name x p) (e :: es) [] pos) (tMkX C fs ta) := by
  obtain ⟨fI, fd, ps, iC, tI, F, b⟩ := c.ini
  exact pmk_oex (p := p) (pos := pos) c.oex iC tI F (hr.mono hj) b .nil passL hg c.mgC ha hdb he hpl
end
section
variable {P : Program} {w : World} {K : PySem.W.Frag} {mg : Str → Option Value} {base : Heap}
/-- def __init__(self, f): self.f = f -/
theorem exc_init1 {st : Stmt} {q : Str} {fI C : Addr} {fd : FuncData} {f : Str} {p1 p2 p3 p4 : Pos} (T : OexC K C) (nf : PySem.W.findIn K (.ref C) f = some none) (F : Fun K "__init__" q st fI fd) (S : FnScope ["self", f] ["self", f] (defScope st))
    (hb : defBody st = [.Assign [.Attribute (.Name "self" p1) f p2] (.Name f p3) p4]) (hf : (f == ("__debug__" : Str)) = false) (hfc : (f == ("__classdict__" : Str)) = false) (hv : Vis (defScope st) f) (hvs : Vis (defScope st) "self") :
    FnOk P w K mg base (L2.CX P w) 1 fI fd ["self", f] (spExc C [f]) := by
  refine F.okX S (fun vs H Q E h => ?_) (fun cdv A outer s H vs Q E hr h => ?_)
  · obtain ⟨a, ws, rfl, hl, _⟩ := h
    show ws.length + 1 = 2
    rw [hl]; rfl
  · obtain ⟨a, ws, rfl, hl, ha, q⟩ := h
    obtain ⟨v, rfl⟩ : ∃ v, ws = [v] := by
      match ws, hl with
      | [v], _ => exact ⟨v, rfl⟩
    rw [hb]
    refine ⟨_, pss_one (ps_ost (pe_var (i := 0) rfl hvs (by decide) (by decide)) (pe_var (i := 1) rfl hv hf hfc) (by rfl)), ?_⟩
    exact ⟨_, rfl, _, rfl, a, C, rfl, T, nf, .inl ⟨ha, fun dx h1 h2 => q dx h1 h2⟩⟩
end
end Rd

set_option Elab.async false
set_option linter.all false
set_option maxRecDepth 100000
set_option maxHeartbeats 4000000
namespace Rd
open PySem PySem.Spec PyProof.Rows L2
/-! a caught exception that is kept behind the suite -/
def excK (a : Addr) (cls : Value) (d : Option Addr) : HO := .ext fun h => ∃ oe, h.get? a = some oe ∧ Zc cls d oe ∧ ∃ vs, oe.data = .fields vs
section
variable {X : Cx} {pins : List (Addr × Obj)} {σ : S0} {H : Hp} {s : Shared} {a : Addr} {oe : Obj} {cls : Value} {d : Option Addr}
theorem unsuiteK (I : Inv (X.suite a ((a, oe) :: (X.pn ++ pins))) [] σ H s) (ok : X.Ok) : Inv X ((a, oe) :: pins) σ H s :=
  ⟨ok, I.os, I.bare, I.base, I.loc, I.cell, I.free, I.freeC, fun p hp => I.pin p (by
    rw [List.append_nil]
    show p ∈ (a, oe) :: (X.pn ++ pins)
    rcases List.mem_append.mp hp with z | z
    · exact List.mem_cons_of_mem _ (List.mem_append_left _ z)
    · rcases List.mem_cons.mp z with z | z
      · rw [z]; exact List.mem_cons_self
      · exact List.mem_cons_of_mem _ (List.mem_append_right _ z)), I.hok, I.len⟩
theorem unpinK (I : Inv X ((a, oe) :: pins) σ H s) : Inv X pins σ H s :=
  ⟨I.ok, I.os, I.bare, I.base, I.loc, I.cell, I.free, I.freeC, fun p hp => I.pin p (by
    rcases List.mem_append.mp hp with z | z
    · exact List.mem_append_left _ z
    · exact List.mem_append_right _ (List.mem_cons_of_mem _ z)), I.hok, I.len⟩
theorem keepK (I : Inv X ((a, oe) :: pins) σ H s) (hz : Zc cls d oe) (hd : ∃ vs, oe.data = .fields vs) (n0 : X.s_0.heap.get? a = none) (nP : ∀ p ∈ X.pn ++ pins, p.1 ≠ a) : Inv X pins σ (upd H a (excK a cls d)) s := by
  obtain ⟨ha, na, nL, nF, nc⟩ := I.pin (a, oe) (List.mem_append_right _ List.mem_cons_self)
  have J := unpinK I
  have na : H a = none := na
  have ha : s.heap.get? a = some oe := ha
  have ne : ∀ {b : Addr} {u : HO}, H b = some u → b ≠ a := fun {b u} e z => by rw [z, na] at e; cases e
  have n0' : ∀ {b : Addr} {o : Obj}, X.s_0.heap.get? b = some o → b ≠ a := fun {b o} e z => by rw [z, n0] at e; cases e
  refine ⟨J.ok, J.os, J.bare, ⟨J.base.keep, J.base.slot, fun b o e n hx => ?_, J.base.there, fun b xs e => ?_, fun b o u e => ?_, fun b ps e => ?_⟩, J.loc, J.cell, ?_, fun x c e => ?_, fun p hp => ?_, fun b u e => ?_, J.len⟩
  · rw [upd_ne (n0' e)]; exact J.base.free b o e n hx
  · have z := J.base.tups b xs e
    rw [upd_ne (ne z)]; exact z
  · have z := J.base.frzs b o u e
    rw [upd_ne (ne z)]; exact z
  · obtain ⟨more, z⟩ := J.base.tbls b ps e
    exact ⟨more, by rw [upd_ne (ne z)]; exact z⟩
  · rw [upd_ne (Ne.symm nL)]; exact J.free
  · have hca : c ≠ a := fun z => by
      obtain ⟨v, o, ho, hcd⟩ := J.cell x c e
      rw [z, ha] at ho; cases ho
      obtain ⟨vs, hd⟩ := hd
      rw [hd] at hcd; cases hcd
    rw [upd_ne hca]; exact J.freeC x c e
  · obtain ⟨h1, h2, h3⟩ := J.pin p hp
    exact ⟨h1, by rw [upd_ne (nP p hp)]; exact h2, h3⟩
  · by_cases hb : b = a
    · rw [hb, upd_same] at e
      cases e
      rw [hb]
      exact ⟨⟨oe, ha, hz, hd⟩, ⟨oe, ha⟩, fun h1 h2 ⟨o1, q1, q2, q3⟩ st => ⟨o1, st _ q1, q2, q3⟩⟩
    · rw [upd_ne hb] at e
      exact (J.hok b u e).stay (fun c v _ q => q) (fun c q => by rw [upd_ne (ne q)]; exact q) fun c xs q => by rw [upd_ne (ne q)]; exact q
end
/-- what the clause 'except x as n' wishes of an exception of the body: slot i is n's; behind the suite the exception is known -/
def wKeep (K : PySem.W.Frag) (c : Value) (i : Nat) (ts : Addr → Value → Option Addr → TS) (Wout : WX) (D : Ends) : WX := fun cls d σ H =>
  ∃ b, PySem.W.exmOne K cls c = some b ∧ (b = true → ∀ a, H a = none → ts a cls d { nx := fun σ' H' => D.nx (σ'.set i none) (upd H' a (excK a cls d)), rt := D.rt, bk := fun σ' H' => D.bk (σ'.set i none) H', ct := fun σ' H' => D.ct (σ'.set i none) H' } (σ.set i (some (.ref a))) H) ∧
    (b = false → Wout cls d σ H)
section
variable {X : Cx} {x n : Str} {c : Value} {i : Nat} {body suite : List Stmt} {b₀ : Stmt} {np pos pos' : Pos} {tb : WX → TS} {ts : Addr → Value → Option Addr → TS} {Wout : WX}
theorem ps_try_keep (hs : X.stack = X.env :: X.outer) (hf : X.env.frame = some X.env.locals) (hN : X.N.Nodup) (hi : X.N[i]? = some n) (hln : X.env.kindOf n = some .local) (hc : Names X x c) (hex : X.ex = []) (tk : Takes X Wout)
    (hb : ∀ (W : WX) (pn : List (Addr × Obj)) (xe : Value → Shared → Prop), Takes (X.tr pn xe) W → PassesOwn (model X.prog X.w) X.A X.env xe → PSs (X.tr pn xe) body (tb W))
    (hsu : ∀ (a : Addr) (oe : Obj) (cls : Value) (d : Option Addr) (pn : List (Addr × Obj)), Zc cls d oe → (∃ vs, oe.data = .fields vs) → PSs (X.suite a ((a, oe) :: pn)) (b₀ :: suite) (ts a cls d)) :
    PS X (.Try body [.ExceptHandler (some (.Name x np)) (some n) (b₀ :: suite) pos'] [] [] pos) (fun D σ H => tb (wKeep X.K c i ts Wout D) D σ H) := by
  refine ⟨fun pins s σ H D I h => ?_⟩
  have ok := I.ok
  have hfr : X.A.frames = some (X.env :: X.outer) := by rw [ok.frames, hs]
  have hloc : Loc X.env.scope n := .inl hln
  refine wpAny_Try_except ?_
  refine wpAny_mono ((hb (wKeep X.K c i ts Wout D) (X.pn ++ pins) (fun e s₁ => wpAny (model X.prog X.w) X.A (noteFrame e X.env) (fun _ s₂ => wpAny (model X.prog X.w) X.A (setFlight e none) (fun _ s₃ =>
    wpAny (model X.prog X.w) X.A (handleBy e X.env [.ExceptHandler (some (.Name x np)) (some n) (b₀ :: suite) pos']) (SP X pins D) X.xe s₃) X.xe s₂) X.xe s₁) (fun u s' xx => ?_) PassesOwn.looking).run [] s σ H D (I.toTry _) h) (fun f s1 hsp => ?_) (fun e s1 he => he)
  · -- the catch
    obtain ⟨a, B, sI, pins', σ', H', cls, d, rfl, J', nb, up, sky, na, os, ag, b, hb1, hyes, hno⟩ := xx
    have J : Inv X pins σ' H' sI := J'.ofTry ok
    have sky' : Sky B (X.env :: X.outer) a (Zc cls d) X.env.locals s'.heap := by rw [← hs]; exact sky
    show wpAny (model X.prog X.w) X.A (noteFrame (.ref a) X.env) _ _ _
    refine Sky.land Zc.steady hfr hf sky' fun h3 fl3 up3 => ?_
    have J3 : Inv X pins σ' H' { s' with heap := h3 } := J.landed nb fl3.1 (up.trans up3) os ag
    obtain ⟨oe3, vs3, he3, hz3, hd3⟩ := fl3.there
    have notFr : ∀ {h : Heap} {o : Obj} {vs : Array Value}, h.FunFrames B (X.env :: X.outer) → h.get? a = some o → o.data = .fields vs → a ∉ frs (X.env :: X.outer) := fun {h o vs} ff e dd hm => by
      obtain ⟨_, o', e', hnf⟩ := ff.mem hm
      rw [e] at e'; cases e'
      exact hnf _ dd
    have nfr := notFr fl3.2.2.1 he3 hd3
    have nL : a ≠ X.env.locals := fun z => nfr (List.mem_filterMap.mpr ⟨X.env, List.mem_cons_self, by rw [hf, z]⟩)
    have nF : a ∉ X.fs := fun hm => by
      obtain ⟨e, he, q⟩ := List.mem_filterMap.mp hm
      exact nfr (List.mem_filterMap.mpr ⟨e, List.mem_cons_of_mem _ he, q⟩)
    have S3 := J3.suite he3 hd3 na nL nF
    have nB : B.get? a = none := by
      rcases sky with z | z | z
      · exact z.2.1
      · exact z.2.1
      · exact z.2.1
    have nI : sI.heap.get? a = none := by
      cases e : sI.heap.get? a with
      | none => rfl
      | some o =>
        have z := nb a o e (by rw [hs]; exact nfr)
        rw [nB] at z; cases z
    have n0 : X.s_0.heap.get? a = none := by
      cases e : X.s_0.heap.get? a with
      | none => rfl
      | some o =>
        obtain ⟨o', z⟩ := J.base.there a o e (by rw [hex]; simp)
        rw [nI] at z; cases z
    have nP : ∀ p ∈ X.pn ++ pins, p.1 ≠ a := fun p hp z => by
      obtain ⟨e1, _⟩ := J.pin p hp
      rw [z, nI] at e1; cases e1
    refine wpAny_handleBy_cons (codeAny_handlers_test ?_) (by intro q; cases q)
    have LT : PySem.W.Looks (model X.prog X.w) h3 (typeOf (.ref a)) cls := fun A Q E s k q => wpAny_typeOf_ref (k _ _ he3) (by rw [hz3.1]; exact q)
    have LM := PySem.W.exm_one (M := model X.prog X.w) (J3.kIn) LT hb1
    have test : ∀ {Q : Value → Shared → Prop} {E : Value → Shared → Prop}, Q c { s' with heap := h3 } → wpAny (model X.prog X.w) (X.A.mark (some (.ref a))) (eval (.Name x np) X.env) Q E { s' with heap := h3 } := fun {Q E} q => by
      obtain ⟨hg, hdbg, hm | ⟨hm, hv, hnn⟩⟩ := hc
      · exact ld_glob (X := X.suite a ((a, oe3) :: (X.pn ++ pins))) S3 hg hm q hdbg
      · exact ld_blt (X := X.suite a ((a, oe3) :: (X.pn ++ pins))) S3 hg hm hv q hnn hdbg
    refine test (LM.here ?_)
    cases b with
    | true =>
      refine codeAny_handlers_suite_as ?_
      refine HandSPX.lands_againZ fl3 fun h4 fl4 up4 => ?_
      have J4 : Inv X pins σ' H' { s' with heap := h4 } := J.landed nb fl4.1 ((up.trans up3).trans up4) os ag
      obtain ⟨oe4, vs4, he4, hz4, hd4⟩ := fl4.there
      have S4 := J4.suite he4 hd4 na nL nF
      refine store_ok (X := X.suite a ((a, oe4) :: (X.pn ++ pins))) (v := .ref a) S4 hN hi hloc rfl (fun s5 S5 => ?_) (.inr hln)
      refine wpAny_mono ((hsu a oe4 cls d (X.pn ++ pins) hz4 ⟨_, hd4⟩).run [] s5 _ H' _ S5 (hyes rfl a na)) (fun f s6 hsp => ?_) (fun _ _ z => False.elim z)
      have end_ : ∀ {σ6 : S0} {H6 : Hp} {Q : Shared → Prop}, Inv (X.suite a ((a, oe4) :: (X.pn ++ pins))) [] σ6 H6 s6 → (∀ s7, Inv X ((a, oe4) :: pins) (σ6.set i none) H6 s7 → Q s7) →
          wpAny (model X.prog X.w) X.A (do bindName X.env n .none; unbindBehindTheSuite X.env n pos') (fun _ s7 => Q s7) X.xe s6 := fun {σ6 H6 Q} S6 hq => gone_ok (unsuiteK S6 ok) hN hi hln hq
      cases f with
      | next =>
        obtain ⟨σ6, H6, S6, q6⟩ := hsp
        exact end_ S6 fun s7 J7 => ⟨_, _, keepK J7 hz4 ⟨_, hd4⟩ n0 nP, q6⟩
      | brk =>
        obtain ⟨σ6, H6, S6, q6⟩ := hsp
        exact end_ S6 fun s7 J7 => ⟨_, _, unpinK J7, q6⟩
      | cont =>
        obtain ⟨σ6, H6, S6, q6⟩ := hsp
        exact end_ S6 fun s7 J7 => ⟨_, _, unpinK J7, q6⟩
      | ret u =>
        obtain ⟨v6, σ6, H6, S6, r6, q6⟩ := hsp
        exact end_ S6 fun s7 J7 => ⟨_, _, _, unpinK J7, r6, q6⟩
    | false =>
      show wpAny _ X.A (handleBy (.ref a) X.env []) _ _ _
      refine wpAny_handleBy_nil ?_
      obtain ⟨k1, k2, k3, oe, vs, T, oT, ts', he, hz, hd, h1, hr⟩ := id fl3
      unfold PySem.passOn
      refine wpAny_bind (wpAny_field he hd h1 ?_)
      rw [if_neg (show ¬ ((Value.ref T == Value.none) = true) from by simp)]
      have fin : wpAny (model X.prog X.w) X.A (setFlight (.ref a) X.env.frame) (fun _ s4 => wpAny (model X.prog X.w) X.A (throw (.ref a) : Sem Flow) (SP X pins D) X.xe s4) X.xe { s' with heap := h3 } := by
        rw [hf]
        refine HandSPX.setFlight_upZ fl3 fun h4 hh4 up4 => wpAny_throw (tk _ _ ?_)
        exact ⟨a, B, sI, pins, σ', H', cls, d, rfl, J, nb, (up.trans up3).trans up4, .inr (.inr (by rw [hs]; exact hh4)), na, os, ag, hno rfl⟩
      first
        | exact wpAny_bind (wpAny_pure (wpAny_bind fin))
        | exact wpAny_bind fin
  · cases f with
    | next =>
      obtain ⟨σ', H', J', q⟩ := hsp
      exact wpAny_execs_nil ⟨σ', H', J'.ofTry ok, q⟩
    | brk =>
      obtain ⟨σ', H', J', q⟩ := hsp
      exact ⟨σ', H', J'.ofTry ok, q⟩
    | cont =>
      obtain ⟨σ', H', J', q⟩ := hsp
      exact ⟨σ', H', J'.ofTry ok, q⟩
    | ret u =>
      obtain ⟨v, σ', H', J', r, q⟩ := hsp
      exact ⟨v, σ', H', J'.ofTry ok, r, q⟩
end
end Rd

set_option Elab.async false
set_option linter.all false
set_option maxRecDepth 100000
set_option maxHeartbeats 4000000
namespace Rd
open PySem PySem.Spec PyProof.Rows L2
/-! isinstance and the fields of a kept exception -/
structure KxC (K : PySem.W.Frag) (D : Addr) : Prop where
  hcl : (PySem.W.clsIn K D).isSome = true
  hg : PySem.W.findIn K (.ref D) "__getattribute__" = some (some (.builtin "BaseException.__getattribute__"))
  hk : PySem.W.findIn K (.ref D) "__getattr__" = some none
  hs : PySem.W.subIn K (.ref D) (.type "BaseException") = some true
  hd : PySem.W.hasDictIn K D = true
  ha : PySem.W.findIn K (.ref D) "__class__" = some (some (.builtin "object.__class__"))
  hn : PySem.W.specialIn K (.builtin "object.__class__") "__get__" = some (some (.builtin "getset_descriptor.__get__"))
  ht : PySem.W.takesIn K (.builtin "object.__class__") = some true
  hm : PySem.W.mroIn K D (.type "object") = some true
/-- at a: a kept exception of the class at D with these fields -/
def ExAt (H : Hp) (a D : Addr) (fs : List (Str × V)) : Prop := ∃ dd, H a = some (excK a (.ref D) (some dd)) ∧ H dd = some (.xd fs)
section
variable {X : Cx} {pins : List (Addr × Obj)} {σ : S0} {H : Hp} {s : Shared} {a D : Addr} {fs : List (Str × V)}
theorem exAt_inst (I : Inv X pins σ H s) (h : ExAt H a D fs) : ∃ oe od mA dd, PySem.W.InstAt s.heap a oe D (some od) ∧ s.heap.get? dd = some od ∧ oe.dict = some dd ∧ s.heap.Ns1 dd mA ∧ ∀ f, RelO (fs.lookup f) (mA f) := by
  obtain ⟨dd, h1, h2⟩ := h
  have x : ObjOk X.prog X.w H s.heap a (.ext fun h => ∃ oe, h.get? a = some oe ∧ Zc (.ref D) (some dd) oe ∧ ∃ vs, oe.data = .fields vs) := I.hok a _ h1
  obtain ⟨⟨oe, e1, e2, vs, e3⟩, _⟩ := x
  have y : ObjOk X.prog X.w H s.heap dd (.xd fs) := I.hok dd _ h2
  obtain ⟨mA, hns, hr⟩ := y
  obtain ⟨od, es, ep, ho, hq⟩ := id hns
  exact ⟨oe, od, mA, dd, ⟨e1, e2.1, by unfold PySem.W.notCls; rw [e3] <;> rfl, by rw [e2.2]; exact ho⟩, ho, e2.2, hns, hr⟩
def rIsEx (K : PySem.W.Frag) : List V → Hp → VK → Prop := fun xs H Q => ∃ (a D : Addr) (fs : List (Str × V)) (c : V) (cv : Value) (b : Bool), xs = [.ref a, c] ∧ ExAt H a D fs ∧ KxC K D ∧ (∀ u, RelV c u → u = cv) ∧ PySem.W.kitOne K (.ref D) cv = some b ∧ Q (.bl b) H
theorem c_isEx : CallR X (.builtin "isinstance") (rIsEx X.K) := by
  intro pins s σ H xs us Q I r h
  obtain ⟨a, D, fs, c, cv, b, rfl, hx, C, hcv, e, q⟩ := h
  cases r with
  | cons rx rr =>
    cases rr with
    | cons rt rr =>
      cases rr
      cases rx
      have ec := hcv _ rt
      subst ec
      obtain ⟨oe, od, _, _, J, _⟩ := exAt_inst I hx
      exact PySem.W.kia_one (PySem.W.kitx_exc C.hcl C.hg C.hk C.hs C.ha C.hn C.ht C.hm) I.kIn J e (fun z => nomatch z) fun tk => ⟨.bl b, H, I.kept (t' := tk) fun _ _ z => z, rfl, q⟩
def rIsExT (K : PySem.W.Frag) : List V → Hp → VK → Prop := fun xs H Q => ∃ (a D tp : Addr) (fs : List (Str × V)) (cs : List V) (ws : List Value) (b : Bool), xs = [.ref a, .ref tp] ∧ ExAt H a D fs ∧ KxC K D ∧ H tp = some (.tup cs) ∧ (∀ us, Vals cs us → us = ws) ∧ PySem.W.kitAny K (.ref D) ws = some b ∧ Q (.bl b) H
theorem c_isExT : CallR X (.builtin "isinstance") (rIsExT X.K) := by
  intro pins s σ H xs us Q I r h
  obtain ⟨a, D, tp, fs, cs, ws, b, rfl, hx, C, hT, hws, e, q⟩ := h
  obtain ⟨u1, u2, rfl, r1, r2⟩ := vals2 r
  cases (show u1 = Value.ref a from r1)
  cases (show u2 = Value.ref tp from r2)
  obtain ⟨oe, od, _, _, J, _⟩ := exAt_inst I hx
  obtain ⟨_, its, rv, o, h1, h2, n, h3⟩ := (show ObjOk X.prog X.w H s.heap tp (.tup cs) from I.hok tp _ hT)
  have e3 := hws _ rv
  subst e3
  obtain ⟨oc, od', dt, sl⟩ := o
  simp only at h2 h3
  subst h2 h3
  exact PySem.W.kia_tup (PySem.W.kitx_exc C.hcl C.hg C.hk C.hs C.ha C.hn C.ht C.hm) I.kIn J h1 e (fun z => nomatch z) fun tk => ⟨.bl b, H, I.tok tk, rfl, q⟩
/-- e.f, e a kept exception -/
def tXk (K : PySem.W.Frag) (f : Str) (te : TE) : TE := fun σ H Q => te σ H fun x H1 => ∃ (a D : Addr) (fs : List (Str × V)) (v : V), x = .ref a ∧ ExAt H1 a D fs ∧ KxC K D ∧ PySem.W.findIn K (.ref D) f = some none ∧ fs.lookup f = some v ∧ Q v H1
theorem pe_xk {e : Expr} {te : TE} {pos : Pos} {n : Str} (he : PE X e te) (hb : attributeBase e n X.env (eval e X.env) = eval e X.env := by rfl) : PE X (.Attribute e n pos) (tXk X.K n te) := by
  refine ⟨fun pins s σ H Q I h => ?_⟩
  refine attr_of hb (thn (he.run pins s σ H _ I h) fun u s1 hh => ?_)
  obtain ⟨x, H1, I1, rx, a, D, fs, v, ex, hx, T, hno, l, q⟩ := hh
  subst ex
  obtain rfl : u = Value.ref a := rx
  obtain ⟨oe, od, mA, dd, J, ho, _, hns, hr⟩ := exAt_inst I1 hx
  obtain ⟨od', ho', hl⟩ := lookIn_ns hns
  rw [ho] at ho'
  cases ho'
  obtain ⟨u, hu, ru⟩ := RelO.some_of (v := v) (o := mA n) (by rw [← l]; exact hr n)
  exact HandSPX.exc_get I1.kIn J T.hg T.hk T.hs (PySem.W.findObj_own T.hd hno rfl (by rw [hl, hu])) (handed_of ru) ⟨v, H1, I1.tok _, ru, q⟩
end
end Rd

set_option Elab.async false
set_option linter.all false
set_option maxRecDepth 100000
set_option maxHeartbeats 4000000
namespace PySem.W
open PySem PySem.Spec PySem.Calls PyProof.Rows
section
variable {prog : Program} {w : World} {A : Around} {E : Value → Shared → Prop} {s : Shared} {K : Frag} {x C L f : Addr} {h₀ : Heap} {m : Str → Option Value} {ox : Obj} {od : Option Obj} {name : Str} {b tb : Value}
theorem rd_ifBound_B {M : Model} {id : String} {args : List Value} {Q : Option Value → Shared → Prop} (X : K.In s.heap) (I : InstAt s.heap x ox C od) (hs : findIn K (.ref C) name = some (some (.builtin id))) (hb : ∀ self, bindSpecial (.builtin id) self = pure (.builtin id, [self]))
    (h : wpAny M A (call (.builtin id) (.ref x :: args)) (fun v => Q (some v)) E s) : wpAny M A (callSpecialIfBound? (.ref x) name args) Q E s := by
  simp only [callSpecialIfBound?, bindSpecialIfBound?]
  refine wpAny_holding (wpAny_bind (wpAny_bind (wpAny_bind (I.type.here ((looks_findIn X hs).here ?_)))))
  simp only [hb]
  refine wpAny_bind (wpAny_askSetting (wpAny_ite ?_))
  have fin : wpAny M A (call (.builtin id) ([.ref x] ++ args) >>= fun v => pure (some v)) Q E s :=
    wpAny_bind (wpAny_mono h (fun v s' h' => wpAny_pure h') fun _ _ h' => h')
  split
  · exact wpAny_bind (wpAny_pure (wpAny_pure fin))
  · exact wpAny_tryCatch (wpAny_bind (wpAny_pure (wpAny_pure fin)))
/-- object.__ne__ over an own __eq__ -/
theorem rd_objNe (X : K.In s.heap) (I : InstAt s.heap x ox C od) (hu : A.units < cLine) (hs : findIn K (.ref C) "__eq__" = some (some (.ref f))) (hf : isFn K (.ref f) = true) {Q : Fin → Shared → Prop}
    (hcall : wpAny (model prog w) A (call (.ref f) [.ref x, b]) (fun v s' => ∃ r, v = .bool r ∧ Q (.done (.ret (.bool (!r)))) s') E s) :
    wpAny (model prog w) A (Builtin.«object.__ne__» ⟨[.ref x, b], []⟩) Q E s := by
  unfold Builtin.«object.__ne__»
  repeat (first
    | with_reducible refine wpAny_cRoomFor hu ?_
    | (refine wpAny_bind (m := callSpecialIfBound? (.ref x) (Str.ofString "__eq__") [b])
        (ifBound_K X I hs hf (wpAny_mono hcall (fun r s' hr => by
          obtain ⟨b, rfl, hq⟩ := hr
          repeat (first | exact hq | exact wpAny_pure hq | exact wpAny_truthy_bool hq | (refine wpAny_bind (m := truthy (.bool _)) (wpAny_truthy_bool ?_)) | wp_step)) fun _ _ e => e)))
    | wp_step)
theorem rd_cmp_ne (hu : A.units + 1 < cLine) (X : K.In s.heap) (I : InstAt s.heap x ox C od) (hb : Looks (model prog w) s.heap (typeOf b) tb) (hn : notFirst K C tb = true) (hm : mroIn K C (.type "object") = some true)
    (hne : findIn K (.ref C) "__ne__" = some (some (.builtin "object.__ne__"))) (hs : findIn K (.ref C) "__eq__" = some (some (.ref f))) (hf : isFn K (.ref f) = true) {Q : Value → Shared → Prop}
    (h : wpAny (model prog w) A.in1 (call (.ref f) [.ref x, b]) (fun v s' => ∃ r, v = .bool r ∧ Q (.bool (!r)) s') E s) : wpAny (model prog w) A (compareOp .NotEq (.ref x) b) Q E s := by
  have sub : W.Looks (model prog w) s.heap (isInstance (.ref x) (.type "object")) true := I.type.andThen (W.looks_mroIn X hm)
  have one : wpAny (model prog w) A (tryCompare (.ref x) (cmpInfo .NotEq).2.1 b) (fun r s' => ∃ v, r = some v ∧ Q v s') E s := by
    rw [cmpInfo_NotEq]
    unfold tryCompare
    refine wpAny_bind (rd_ifBound_B X I hne F.cmp_object.ne.bind ?_)
    refine wpAny_call (codeAny_call_builtin F.cmp_object.ne.plain F.cmpEntry_ne ?_)
    refine @check_slot (model prog w) _ _ s "object.__ne__" "object" "__ne__" (.ref x) [b] [] _ F.cmpKind_ne F.cmpSplit_ne sub (F.cmpArgs_ne (.ref x) b) ?_
    refine rd_objNe (A := A.in1) X I hu hs hf (wpAny_mono h (fun v s' hv => ?_) fun _ _ e => e)
    obtain ⟨r, rfl, hq⟩ := hv
    first
      | exact ⟨r, rfl, wpAny_pure ⟨_, rfl, hq⟩⟩
      | exact ⟨r, rfl, ⟨_, rfl, hq⟩⟩
      | exact ⟨r, rfl, wpAny_pure (wpAny_pure ⟨_, rfl, hq⟩)⟩
  unfold compareOp richCompare
  simp only [oneThing_ref]
  refine wpAny_holding (wpAny_bind (wpAny_cRoomFor (Nat.lt_of_succ_lt hu) ?_))
  refine wpAny_bind (I.type.here (wpAny_bind (hb.here ?_)))
  split
  · rename_i q
    have e : subIn K tb (.ref C) = some false := by
      rcases Bool.or_eq_true_iff.mp hn with e | e
      · rw [beq_iff_eq.mp e] at q; simp at q
      · exact beq_iff_eq.mp e
    refine wpAny_bind ((looks_subIn X e).here ?_)
    simp only [Bool.false_eq_true, if_false]
    refine wpAny_bind (wpAny_mono one (fun r s' z => ?_) fun _ _ e => e)
    obtain ⟨v, rfl, hq⟩ := z
    exact wpAny_pure hq
  · refine wpAny_bind (wpAny_pure ?_)
    simp only [Bool.false_eq_true, if_false]
    refine wpAny_bind (wpAny_mono one (fun r s' z => ?_) fun _ _ e => e)
    obtain ⟨v, rfl, hq⟩ := z
    exact wpAny_pure hq
end
end PySem.W
namespace Rd
open PySem PySem.Spec PyProof.Rows L2
/-- a class with an own __eq__ and no own __ne__ -/
structure EqC (P : Program) (w : World) (K : PySem.W.Frag) (mg : Str → Option Value) (base : Heap) (k : Nat) (C : Addr) (sp : Sp) : Prop where
  eq : ∃ (g : Addr) (fd : FuncData) (ps : List Str), PySem.W.findIn K (.ref C) "__eq__" = some (some (.ref g)) ∧ PySem.W.isFn K (.ref g) = true ∧ FnOk P w K mg base (L2.CX P w) k g fd ps sp ∧ Binds K fd ps []
  ne : PySem.W.findIn K (.ref C) "__ne__" = some (some (.builtin "object.__ne__"))
  ob : PySem.W.mroIn K C (.type "object") = some true
/-- the other's type -/
inductive TyC (K : PySem.W.Frag) (H : Hp) : V → Value → Prop where
  | ty {x : V} {t : Value} (h : TyX K H x t) : TyC K H x t
  | ins {a C dx : Addr} {fs : List (Str × V)} (h : H a = some (.ins C dx fs)) : TyC K H (.ref a) (.ref C)
def rOwnEq (K : PySem.W.Frag) (C : Addr) (sp : Sp) : R2 := fun x y H Q => ∃ a dx fs t, x = .ref a ∧ H a = some (.ins C dx fs) ∧ TyC K H y t ∧ PySem.W.notFirst K C t = true ∧ sp [x, y] H (fun v H' => ∃ r, v = .bl r ∧ Q (.bl r) H') E0
def rOwnNe (K : PySem.W.Frag) (C : Addr) (sp : Sp) : R2 := fun x y H Q => ∃ a dx fs t, x = .ref a ∧ H a = some (.ins C dx fs) ∧ TyC K H y t ∧ PySem.W.notFirst K C t = true ∧ sp [x, y] H (fun v H' => ∃ r, v = .bl r ∧ Q (.bl (!r)) H') E0
section
variable {X : Cx} {pins : List (Addr × Obj)} {σ : S0} {H : Hp} {s : Shared} {k j : Nat} {C : Addr} {sp : Sp}
theorem tyC_looks {y : V} {u t : Value} (I : Inv X pins σ H s) (ry : RelV y u) (h : TyC X.K H y t) : PySem.W.Looks (model X.prog X.w) s.heap (typeOf u) t := by
  cases h with
  | ty h =>
    obtain ⟨P, Z, p, _⟩ := kit_of I ry h
    exact Z.ty _ _ I.kIn p
  | @ins a C dx fs h =>
    obtain rfl : u = Value.ref a := ry
    obtain ⟨mA, M, _⟩ := ins_get I.hok h
    obtain ⟨od, J, _⟩ := M.look
    exact J.type
theorem op_ownEq (c : EqC X.prog X.w X.K X.mg X.base k C sp) (hr : Room j X.A) (hk : k ≤ j) : OpR X (compareOp .Eq) (rOwnEq X.K C sp) := by
  intro pins s σ H x y v u Q I rx ry h
  obtain ⟨a, dx, fs, t, rfl, ha, ht, hn, q⟩ := h
  cases (show v = Value.ref a from rx)
  obtain ⟨g, fd, ps, hg, hf, F, b⟩ := c.eq
  obtain ⟨mA, M, _⟩ := ins_get I.hok ha
  obtain ⟨od, J, _⟩ := M.look
  obtain ⟨m, hF⟩ := I.fr
  show wpAny _ _ (richCompare .Eq (.ref a) u) _ _ _
  refine PySem.W.cmp_K (op := .Eq) (tb := t) hr.units0 hF I.ok.mod.kin J (tyC_looks I ry ht) hn hg hf ?_
  refine wpAny_mono (run_fn (us := [.ref a, u]) (vs := [.ref a, y]) F (hr.mono hk) b .nil passL I (.cons rfl (.cons ry .nil)) q) (fun w s' z => ?_) fun _ _ x => x
  obtain ⟨z', H', I', rz, r, ez, qz⟩ := z
  subst ez
  cases (show w = Value.bool r from rz)
  exact ⟨.bl r, H', I', rfl, qz⟩
theorem op_ownNe (c : EqC X.prog X.w X.K X.mg X.base k C sp) (hr : Room j X.A) (hk : k + 1 ≤ j) : OpR X (compareOp .NotEq) (rOwnNe X.K C sp) := by
  intro pins s σ H x y v u Q I rx ry h
  obtain ⟨a, dx, fs, t, rfl, ha, ht, hn, q⟩ := h
  cases (show v = Value.ref a from rx)
  obtain ⟨g, fd, ps, hg, hf, F, b⟩ := c.eq
  obtain ⟨mA, M, _⟩ := ins_get I.hok ha
  obtain ⟨od, J, _⟩ := M.look
  have hr1 : Room k X.A.in1 := (hr.mono hk).in1
  refine PySem.W.rd_cmp_ne (tb := t) (by have := hr.units; omega) I.kIn J (tyC_looks I ry ht) hn c.ob c.ne hg hf ?_
  have r2 : Vals [V.ref a, y] [Value.ref a, u] := .cons rfl (.cons ry .nil)
  have hl : [Value.ref a, u].length = ps.length := by rw [← r2.length]; exact F.len _ _ _ _ q
  have bb := b s [Value.ref a, u] I.kIn (by rw [List.append_nil]; exact hl)
  rw [List.append_nil] at bb
  refine wpAny_call (codeAny_mono (F.run X.A.in1 X.stack s H ⟨[.ref a, u], []⟩ [.ref a, u] [.ref a, y] _ _ hr1 I.env0.in1 bb r2 q) fun r s' hq => ?_)
  cases r with
  | error e => exact passL pins σ H s e s' I hq
  | ok fl =>
    cases fl with
    | ret u' =>
      obtain ⟨z', H', I', rz, r, ez, qz⟩ := I.after hq
      subst ez
      cases (show u' = Value.bool r from rz)
      exact ⟨r, rfl, ⟨.bl (!r), H', I', rfl, qz⟩⟩
    | next => exact False.elim hq
    | brk => exact False.elim hq
    | cont => exact False.elim hq
end
end Rd

set_option Elab.async false
set_option linter.all false
set_option maxRecDepth 100000
set_option maxHeartbeats 4000000
/-! sorted and min of lists of tuples of ints of any lengths, empty ones too -/
namespace PySem.SeqAt
open PySem PyProof
section
variable {A : Around} {s : Shared}
theorem rd_call_tuple_lt {prog : Program} {w : World} {E : Value → Shared → Prop} {Q : Value → Shared → Prop} {l b : Addr} {items items2 : Array Value} {e r : Nat → Bool} (hl : s.heap.IsTuple l items) (hb : s.heap.IsTuple b items2)
    (he : ∀ j (h1 : j < items.size) (h2 : j < items2.size), EqAt A.in1 s items[j] items2[j] (e j)) (hr : ∀ j (h1 : j < items.size) (h2 : j < items2.size), e j = false → RcLt A.in1 s items[j] items2[j] (r j))
    (h : Q (.bool (firstLt e r (decide (items.size < items2.size)) (List.range (min items.size items2.size)))) s) : wpAny (model prog w) A (call (.builtin "tuple.__lt__") [.ref l, .ref b]) Q E s := by
  obtain ⟨⟨cls, dd, data, sl⟩, ho, hc, n, hd⟩ := id hl
  obtain ⟨⟨cls2, dd2, data2, sl2⟩, ho2, hc2, n2, hd2⟩ := id hb
  simp only at hc hd hc2 hd2
  subst hc hd hc2 hd2
  exact call_meets F.slot_tuple_lt ⟨_, ho, rfl⟩ F.entry_tuple_lt (F.args_tuple_lt_2 _ _) (tuple_ltAt l b items items2 n n2 dd dd2 sl sl2 e r) ⟨ho, ho2, he, hr, h⟩
end
end PySem.SeqAt
namespace PySem.W
open PySem PySem.Calls PyProof.Rows PySem.SeqAt
def tI (l : List Int) : PyData := .tuple (l.map .int)
theorem alike_tI (l m : List Int) : alike (tI l) (tI m) = true := by
  show alike (.tuple (l.map .int)) (.tuple (m.map .int)) = true
  simp [alike, alike_ints]
section
variable {prog : Program} {w : World} {A : Around} {E : Value → Shared → Prop} {s : Shared} {M : Model}
theorem oneLt_tuple {f : Bool} {xs ys : List PyData} {a b : Value} {as bs : List Addr} {Q : Bool → Shared → Prop} (ra : Reads s.heap a (.tuple xs) as) (rb : Reads s.heap b (.tuple ys) bs) (h : alike (.tuple xs) (.tuple ys) = true)
    (hu : A.units + min (PyData.tuple xs).depth (PyData.tuple ys).depth < cLine) (hq : Q (dataLt (.tuple xs) (.tuple ys)) s) : wpAny (model prog w) A (oneLt' f a b) Q E s := by
  cases f with
  | false => exact oneLt_alike (fun z => by cases z) ra rb h (by intro z; cases z) hu hq
  | true =>
    have hal : alikeAll xs ys = true := by simpa [alike] using h
    cases ra with
    | @tuple l o vs n _ as₁ h1 h2 h3 h4 =>
      cases rb with
      | @tuple l' o' vs' n' _ bs₁ k1 k2 k3 k4 =>
        have n1 : vs.size = xs.length := by simpa using ReadsAll.length _ _ _ h4
        have n2 : vs'.size = ys.length := by simpa using ReadsAll.length _ _ _ k4
        rw [dataLt_tuple, ← firstLt_toks xs ys hal, ← n1, ← n2] at hq
        rw [oneLt'_eq]
        simp only [if_true]
        refine wpAny_bind (wpAny_cRoomFor (room_here hu) ?_)
        refine wpAny_bind (wpAny_callSpecialIfBound?_slot (T := "tuple") ⟨_, h1, h2⟩ F.slot_tuple_lt (rd_call_tuple_lt (e := pairEq xs ys) (r := fun j => dataLt (xs.getD j .none) (ys.getD j .none)) ⟨_, h1, h2, _, h3⟩ ⟨_, k1, k2, _, k3⟩ (fun j j1 j2 => ?_) (fun j j1 j2 hj => ?_) ?_))
        · have := eqAt_alikeAll xs ys A.in1 s vs.toList vs'.toList _ _ h4 k4 hal (room_in hu) j (by simpa using j1) (by simpa using j2)
          simpa using this
        · have := rcLt_alikeAll xs ys A.in1 s vs.toList vs'.toList _ _ h4 k4 hal (room_in hu) j (by simpa using j1) (by simpa using j2) hj
          simpa using this
        · exact wpAny_truthy_bool hq
theorem keyLt'_general (x y : Value) : keyLt' general' x y = oneLt' false x y := rfl
theorem mapM_mix {f : Value → Sem (Option Value)} {g : Value → Option Value} : ∀ (vs : List Value) {Q : List (Option Value) → Shared → Prop}, (∀ v ∈ vs, ∀ Q' : Option Value → Shared → Prop, Q' (g v) s → wpAny M A (f v) Q' E s) → Q (vs.map g) s → wpAny M A (vs.mapM f) Q E s
  | [], Q, _, q => wpAny_pure q
  | v :: vs, Q, h, q => by
    rw [List.mapM_cons]
    refine wpAny_bind (h v List.mem_cons_self _ ?_)
    refine wpAny_bind (mapM_mix vs (fun u hu => h u (List.mem_cons_of_mem _ hu)) ?_)
    exact wpAny_pure q
/-- the first item of a key -/
noncomputable def fst0 (h : Heap) (v : Value) : Option Value := open Classical in if q : ∃ f, ∃ (a : Addr) (o : Obj) (xs : Array Value) (n : Nat), v = .ref a ∧ h.get? a = some o ∧ o.data = .seq xs n ∧ xs[0]? = some f then some q.choose else none
theorem fst0_some {h : Heap} {a : Addr} {o : Obj} {xs : Array Value} {n : Nat} (ho : h.get? a = some o) (hd : o.data = .seq xs n) : fst0 h (.ref a) = xs[0]? := by
  unfold fst0
  split
  · rename_i q
    obtain ⟨a', o', xs', n', e1, e2, e3, e4⟩ := q.choose_spec
    cases e1
    rw [ho] at e2; cases e2
    rw [hd] at e3; cases e3
    exact e4.symm
  · rename_i q
    cases e : xs[0]? with
    | none => rfl
    | some f => exact absurd ⟨f, a, o, xs, n, rfl, ho, hd, e⟩ q
theorem first_tup {a : Addr} {o : Obj} {xs : Array Value} {n : Nat} {Q : Option Value → Shared → Prop} (ho : s.heap.get? a = some o) (hc : o.cls = .type "tuple") (hd : o.data = .seq xs n) (q : Q (fst0 s.heap (.ref a)) s) : wpAny M A (firstOfTuple' (.ref a)) Q E s := by
  rw [fst0_some ho hd] at q
  rw [kas_first_eq]
  refine wpAny_bind ((Looks.andThen (Looks.ld ho) .now : Looks M s.heap (typeOf (Value.ref a)) o.cls).here ?_)
  rw [hc, if_neg (by first | decide | simp)]
  exact wpAny_bind (listItems_at ho hd (wpAny_pure q))
theorem reads_tup {h : Heap} {v : Value} {ds : List PyData} {as : List Addr} (r : Reads h v (.tuple ds) as) : ∃ (a : Addr) (o : Obj) (xs : Array Value) (n : Nat), v = .ref a ∧ h.get? a = some o ∧ o.cls = .type "tuple" ∧ o.data = .seq xs n ∧ xs.size = ds.length := by
  cases r with
  | @tuple a o xs n _ _ h1 h2 h3 h4 => exact ⟨a, o, xs, n, rfl, h1, h2, h3, by simpa using ReadsAll.length _ _ _ h4⟩
theorem tI_len (l : List Int) : (l.map PyData.int).length = l.length := List.length_map _
theorem fst0_iff {h : Heap} {v : Value} {l : List Int} {as : List Addr} (r : Reads h v (tI l) as) : (fst0 h v).isSome = true ↔ l ≠ [] := by
  obtain ⟨a, o, xs, n, rfl, h1, h2, h3, h4⟩ := reads_tup r
  rw [fst0_some h1 h3, tI_len] at *
  cases l with
  | nil =>
    have : xs[0]? = none := by rw [Array.getElem?_eq_none_iff, h4]; exact Nat.zero_le _
    rw [this]; simp
  | cons x l =>
    have hx : 0 < xs.size := by rw [h4]; exact Nat.succ_pos _
    rw [Array.getElem?_eq_getElem hx]; simp
theorem each_right {α β : Type} {R : α → β → Prop} : ∀ {as : List α} {bs : List β}, EachIs R as bs → ∀ b ∈ bs, ∃ a ∈ as, R a b
  | _, _, .nil, b, h => absurd h (by simp)
  | _, _, .cons r t, b, h => by
    rcases List.mem_cons.mp h with rfl | h
    · exact ⟨_, List.mem_cons_self, r⟩
    · obtain ⟨a, h1, h2⟩ := each_right t b h
      exact ⟨a, List.mem_cons_of_mem _ h1, h2⟩
/-- the kind of keys that are tuples, one of them empty -/
theorem mix_kind {vs : List Value} {ls : List (List Int)} (e : EachIs (fun v l => ∃ as, Reads s.heap v (tI l) as) vs ls) (he : ∃ l ∈ ls, l = []) :
    ∃ kd : SortKind, (kd = oneType' ∨ kd = general') ∧ ∀ (E : Value → Shared → Prop) {Q : SortKind → Shared → Prop}, Q kd s → wpAny M A (keyKind' vs.toArray) Q E s := by
  have hall : ((vs.map (fst0 s.heap)).toArray.all (fun x => x.isSome)) = false := by
    obtain ⟨l, hl, rfl⟩ := he
    obtain ⟨v, hv, as, r⟩ := each_right e _ hl
    rw [List.all_toArray, List.all_map, Bool.eq_false_iff]
    intro z
    exact (fst0_iff r).mp (List.all_eq_true.mp z v hv) rfl
  have first : ∀ (E : Value → Shared → Prop) (v : Value), v ∈ vs → ∀ Q' : Option Value → Shared → Prop, Q' (fst0 s.heap v) s → wpAny M A (firstOfTuple' v) Q' E s := fun E v hv Q' hq => by
    obtain ⟨l, hl, as, r⟩ := e.left v hv
    obtain ⟨a, o, xs, n, rfl, h1, h2, h3, h4⟩ := reads_tup r
    exact first_tup h1 h2 h3 hq
  have e1 : ((vs.map fun _ => Value.type "tuple").toArray.all fun x => x == Value.type "tuple") = true := by
    simp only [List.all_toArray, List.all_map, List.all_eq_true]
    intro _ _
    exact beq_self_eq_true (Value.type "tuple")
  have e2 : (vs.map fun _ => Value.type "tuple").toArray[0]? = some (Value.type "tuple") := by
    obtain ⟨l, hl, rfl⟩ := he
    obtain ⟨v, hv, _⟩ := each_right e _ hl
    cases vs with
    | nil => cases hv
    | cons _ _ => simp
  by_cases hb : ((vs.map (fst0 s.heap)).toArray[0]?.bind id).isSome = true
  · refine ⟨general', .inr rfl, fun E Q hq => ?_⟩
    rw [keyKind'_eq, List.mapM_toArray, map_eq_pure_bind]
    refine wpAny_bind (wpAny_bind (mapM_mix (g := fst0 s.heap) vs (first E) (wpAny_pure ?_)))
    rw [hall, if_neg Bool.false_ne_true, if_pos hb]
    exact wpAny_pure hq
  · refine ⟨oneType', .inl rfl, fun E Q hq => ?_⟩
    rw [keyKind'_eq, List.mapM_toArray, map_eq_pure_bind]
    refine wpAny_bind (wpAny_bind (mapM_mix (g := fst0 s.heap) vs (first E) (wpAny_pure ?_)))
    rw [hall, if_neg Bool.false_ne_true, if_neg hb]
    rw [oneTypeOnly'_eq, List.mapM_toArray, map_eq_pure_bind]
    refine wpAny_bind (wpAny_bind (wpAny_bind (kas_mapM (r := Value.type "tuple") _ (fun v hv Q' hq => ?_) (wpAny_pure ?_))))
    · obtain ⟨l, hl, as, r⟩ := e.left v hv
      exact (looks_reads r).here hq
    · rw [e2]
      simp only [e1, if_true]
      exact wpAny_pure (wpAny_pure hq)
theorem dep_tI (l : List Int) : (tI l).depth = 1 := by
  show PyData.depthAll (l.map .int) + 1 = 1
  rw [depth_ints]
theorem allAlike_tI (ls : List (List Int)) : AllAlike (ls.map tI) := AllAlike.of alike_tI
/-- tuples of ints can be sorted, empty ones among them too -/
theorem sortsAt_tI {vs : List Value} {ls : List (List Int)} (e : EachIs (fun v l => ∃ as, Reads s.heap v (tI l) as) vs ls) (hu : A.units + 1 < cLine) : SortsAt prog w A s (dataKind s.heap (ls.map tI)) vs := by
  have hu' : ∀ d, d ∈ ls.map tI → A.units + d.depth < cLine := fun d hd => by
    obtain ⟨l, _, rfl⟩ := List.mem_map.mp hd
    rw [dep_tI]; exact hu
  have e' : EachIs (fun v d => ∃ as, Reads s.heap v d as) vs (ls.map tI) := each_map (R := fun v d => ∃ as, Reads s.heap v d as) tI e
  by_cases hall : ∃ l ∈ ls, l = []
  · have lt : ∀ f : Bool, H.LtAt prog w A s (dataKind s.heap (ls.map tI)) general' ∧ H.LtAt prog w A s (dataKind s.heap (ls.map tI)) oneType' := fun _ => by
      have go : ∀ (f : Bool) (E : Value → Shared → Prop) (x y : Value) (a b : List (Int ⊕ List Nat)) (Q : Bool → Shared → Prop), (dataKind s.heap (ls.map tI)).keyOf x = some a → (dataKind s.heap (ls.map tI)).keyOf y = some b → Q (PyProof.Rows.lexLt itemOrd a b) s → wpAny (model prog w) A (oneLt' f x y) Q E s := by
        intro f E x y a b Q ha hb hq
        obtain ⟨d, as, hd, ra, rfl⟩ := dataKind_inv ha
        obtain ⟨d', as', hd', rb, rfl⟩ := dataKind_inv hb
        obtain ⟨l, _, rfl⟩ := List.mem_map.mp hd
        obtain ⟨m, _, rfl⟩ := List.mem_map.mp hd'
        refine oneLt_tuple ra rb (alike_tI l m) ?_ hq
        have h1 : (PyData.tuple (l.map .int)).depth = 1 := dep_tI l
        have h2 : (PyData.tuple (m.map .int)).depth = 1 := dep_tI m
        rw [h1, h2]; exact hu
      exact ⟨fun E x y a b Q ha hb hq => by rw [keyLt'_general]; exact go false E x y a b Q ha hb hq, fun E x y a b Q ha hb hq => by rw [keyLt'_oneType]; exact go true E x y a b Q ha hb hq⟩
    refine ⟨fun v hv => ?_, ?_⟩
    · obtain ⟨d, hd, as, r⟩ := e'.left v hv
      exact ⟨_, dataKind_some (allAlike_tI ls) hd r⟩
    · obtain ⟨kd, hkd, hk⟩ := mix_kind (M := model prog w) (A := A) e hall
      rcases hkd with rfl | rfl
      · exact ⟨_, (lt true).2, fun _ => hk⟩
      · exact ⟨_, (lt true).1, fun _ => hk⟩
  · refine SortsAt.data e' (allAlike_tI ls) (.inl fun d hd => ?_) hu'
    obtain ⟨l, hl, rfl⟩ := List.mem_map.mp hd
    cases l with
    | nil => exact absurd ⟨_, hl, rfl⟩ hall
    | cons x r => exact ⟨_, _, rfl⟩
theorem each_mapA {α β γ : Type} {R : α → γ → Prop} (f : β → γ) : ∀ {vs : List α} {bs : List β}, EachIs (fun v b => R v (f b)) vs bs → EachIs R vs (bs.map f)
  | _, _, .nil => .nil
  | _, _, .cons h1 t => .cons h1 (each_mapA f t)
theorem sorted_tI {β : Type} {R : Value → β → Prop} {bs : List β} {f : β → List Int} {vs : List Value} {l : Addr} {Q : Value → Shared → Prop} (hl : s.heap.IsList l vs.toArray) (e : EachIs R vs bs) (er : EachIs (fun v b => ∃ as, Reads s.heap v (tI (f b)) as) vs bs) (hL : bs.length ≤ sizeLine)
    (hu : A.units + 3 < cLine) (h : ∀ out, out.length = bs.length → EachIs R out (bs.mergeSort (dataLe false fun b => tI (f b))) → Q (.ref (s.heap.objs.size + 1)) { s with heap := sortedAll s.heap vs (List.toArray out) }) :
    wpAny (model prog w) A (call (.builtin "sorted") [.ref l]) Q E s := by
  have er' : EachIs (fun v b => ∃ as, Reads (sortingHeap (copyHeap s.heap vs) (s.heap.objs.size + 1) vs) v (tI (f b)) as) vs bs := er.mono fun _ _ ⟨as, r⟩ => ⟨as, PyProof.Rows.Reads.keeps (fun _ _ => sorting_copy_old) r⟩
  have er2 : EachIs (fun v l => ∃ as, Reads (sortingHeap (copyHeap s.heap vs) (s.heap.objs.size + 1) vs) v (tI l) as) vs (bs.map f) := each_mapA f er'
  have S := sortsAt_tI (prog := prog) (w := w) (A := A.in1.in1) (s := { s with heap := sortingHeap (copyHeap s.heap vs) (s.heap.objs.size + 1) vs }) er2 (by show A.units + 1 + 1 + 1 < _; omega)
  have em : (bs.map f).map tI = bs.map fun b => tI (f b) := by rw [List.map_map]; rfl
  rw [em] at S
  exact sorted_vals hl S (by rw [e.length]; exact hL) (h _ (by rw [sortVals_length false rfl]; exact e.length) (sortVals_data (enc := fun b => tI (f b)) false e er' (AllAlike.of fun b b' => alike_tI _ _)))
end
end PySem.W
namespace Rd
open PySem PySem.Spec PyProof.Rows L2 PySem.W
/-- sorted(xs), xs a list of tuples of ints -/
def rSortedT (K : PySem.W.Frag) : List V → Hp → VK → Prop := fun xs H Q => ∃ (a : Addr) (vs : List V) (ls : List (List Int)), xs = [.ref a] ∧ SqL K H a vs ∧ DpAll K H vs (ls.map tI) ∧
  ∀ p ws, H p = none → ws.length = ls.length → DpAll K H ws ((ls.mergeSort fun x y => decide (x ≤ y)).map tI) → Q (.ref p) (upd H p (.lst ws))
theorem le_tI : dataLe false tI = fun x y => decide (x ≤ y) := by
  funext p q
  show (!dataLt (.tuple (q.map .int)) (.tuple (p.map .int))) = _
  rw [dataLt_tuple]
  show (!rowLt (q.map .int) (p.map .int)) = _
  rw [dataLt_ints]
  by_cases h : q < p
  · rw [decide_eq_true h, decide_eq_false]; · rfl
    exact fun z => List.not_le.mpr h z
  · rw [decide_eq_false h, decide_eq_true]; · rfl
    exact List.not_lt.mp h
theorem dpAll_each {K : PySem.W.Frag} {H : Hp} {α : Type} {f : α → PyData} : ∀ {vs : List V} {us : List Value} {ls : List α}, DpAll K H vs (ls.map f) → Vals vs us → EachIs (fun u l => ∃ v, RelV v u ∧ Dp K H v (f l)) us ls
  | _, _, [], d, r => by
    have d' : DpAll K H _ [] := d
    cases d'; cases r; exact .nil
  | _, _, l :: ls, d, r => by
    have d' : DpAll K H _ (f l :: ls.map f) := d
    cases d' with
    | cons d1 d2 =>
      cases r with
      | cons r1 r2 => exact .cons ⟨_, r1, d1⟩ (dpAll_each d2 r2)
theorem each_dpAll {K : PySem.W.Frag} {H : Hp} {α : Type} {f : α → PyData} : ∀ {us : List Value} {ls : List α}, EachIs (fun u l => ∃ v, RelV v u ∧ Dp K H v (f l)) us ls → ∃ vs, Vals vs us ∧ DpAll K H vs (ls.map f) ∧ vs.length = ls.length
  | _, _, .nil => ⟨[], .nil, .nil, rfl⟩
  | _, _, .cons ⟨v, r, d⟩ t => by
    obtain ⟨vs, h1, h2, h3⟩ := each_dpAll t
    exact ⟨v :: vs, .cons r h1, .cons d h2, by rw [List.length_cons, List.length_cons, h3]⟩
theorem dpAll_len {K : PySem.W.Frag} {H : Hp} : ∀ {vs : List V} {ds : List PyData}, DpAll K H vs ds → vs.length = ds.length
  | _, _, .nil => rfl
  | _, _, .cons _ t => by rw [List.length_cons, List.length_cons, dpAll_len t]
section
variable {X : Cx} {j : Nat}
theorem cr_sortedT (hr : Room j X.A) : CallR X (.builtin "sorted") (rSortedT X.K) := by
  intro pins s σ H vs us Q I r h
  obtain ⟨a, xs, ls, rfl, hs, hd, q⟩ := h
  obtain ⟨its, rv, hl, hz⟩ := I.list hs
  rw [Vals.ref1 r]
  have e := dpAll_each hd rv
  have hlen : xs.length = ls.length := by rw [dpAll_len hd, List.length_map]
  refine sorted_tI (f := fun l => l) hl.isList e (e.mono fun u l ⟨v, r1, d1⟩ => Dp.reads I _ _ _ d1 r1) (by rw [← hlen]; exact hz) (by have := hr.units; omega) fun out h1 h2 => ?_
  have em : (dataLe false fun l => tI l) = fun x y => decide (x ≤ y) := le_tI
  rw [em] at h2
  obtain ⟨ws, k1, k2, k3⟩ := each_dpAll h2
  obtain ⟨ep, he'⟩ := PyProof.Rows.sortedAll_at s.heap its out.toArray
  have hwl : ws.length = ls.length := by rw [k3, List.length_mergeSort]
  exact ⟨.ref _, upd H (s.heap.objs.size + 1) (.lst ws), I.laid (t' := s.toks) (fun _ _ => PyProof.Rows.sortedAll_old) (Nat.le_succ _) ⟨by rw [hwl, ← hlen]; exact hz, out, ep, k1, he'⟩, rfl, q _ _ (I.hok.fresh (Nat.le_succ _)) hwl k2⟩
/-- min(xs), xs a list of tuples of ints -/
def leastI (l : List Int) (ls : List (List Int)) : List Int := ls.foldl (fun a y => if y < a then y else a) l
def rMinT (K : PySem.W.Frag) : List V → Hp → VK → Prop := fun xs H Q => ∃ (a : Addr) (vs : List V) (l : List Int) (ls : List (List Int)), xs = [.ref a] ∧ SqL K H a vs ∧ DpAll K H vs ((l :: ls).map tI) ∧
  ∀ v ∈ vs, Dp K H v (tI (leastI l ls)) → Q v H
theorem minD_tI (l : List Int) (ls : List (List Int)) : minD (tI l) (ls.map tI) = tI (leastI l ls) := by
  induction ls generalizing l with
  | nil => rfl
  | cons m ls ih =>
    show minD (if dataLt (tI m) (tI l) = true then tI m else tI l) (ls.map tI) = tI (leastI (if m < l then m else l) ls)
    have e : dataLt (tI m) (tI l) = decide (m < l) := by
      show dataLt (.tuple (m.map .int)) (.tuple (l.map .int)) = _
      rw [dataLt_tuple]
      exact dataLt_ints m l
    rw [e]
    by_cases h : m < l
    · rw [if_pos (decide_eq_true h), if_pos h, ih]
    · rw [if_neg (by rw [decide_eq_false h]; decide), if_neg h, ih]
theorem dpAll_at {K : PySem.W.Frag} {H : Hp} : ∀ {vs : List V} {ds : List PyData} {us : List Value} (i : Nat) {u : Value}, DpAll K H vs ds → Vals vs us → us[i]? = some u → ∃ v d, v ∈ vs ∧ d ∈ ds ∧ RelV v u ∧ Dp K H v d
  | _, _, _, i, u, .nil, .nil, h => by simp at h
  | _, _, _, 0, u, .cons d1 d2, .cons r1 r2, h => by
    rw [List.getElem?_cons_zero] at h
    cases h
    exact ⟨_, _, List.mem_cons_self, List.mem_cons_self, r1, d1⟩
  | _, _, _, i + 1, u, .cons d1 d2, .cons r1 r2, h => by
    rw [List.getElem?_cons_succ] at h
    obtain ⟨v, d, h1, h2, h3, h4⟩ := dpAll_at i d2 r2 h
    exact ⟨v, d, List.mem_cons_of_mem _ h1, List.mem_cons_of_mem _ h2, h3, h4⟩
theorem cr_minT (hr : Room j X.A) : CallR X (.builtin "min") (rMinT X.K) := by
  intro pins s σ H vs us Q I r h
  obtain ⟨a, xs, l, ls, rfl, hs, hd, q⟩ := h
  obtain ⟨its, rv, hl, hz⟩ := I.list hs
  rw [Vals.ref1 r]
  obtain ⟨as, hR⟩ := Dp.readsAll I _ _ _ hd rv
  have hR' : ReadsAll s.heap its.toArray.toList (tI l :: ls.map tI) as := hR
  have hal : AlikeAll (tI l :: ls.map tI) := ⟨allAlike_tI (l :: ls), fun x hx z => by
    obtain ⟨m, _, rfl⟩ := List.mem_map.mp (show x ∈ (l :: ls).map tI from hx)
    cases z⟩
  have hdep : ∀ ls : List (List Int), PyData.depthAll (ls.map tI) ≤ 1 := by
    intro ls
    induction ls with
    | nil => exact Nat.zero_le _
    | cons m ls ih =>
      show max (tI m).depth (PyData.depthAll (ls.map tI)) ≤ 1
      rw [dep_tI]; omega
  refine min_list_data (A := X.A) hr.hd hl.isList hR' hal (by have := hr.units; have := hdep (l :: ls); have h3 : PyData.depthAll (tI l :: ls.map tI) ≤ 1 := this; omega) fun i v h' tk bs hi hv hk => ?_
  rw [minD_tI] at hv
  obtain ⟨x, d, hx, hd', rx, dx⟩ := dpAll_at i hd rv (by simpa using hi)
  obtain ⟨as', ra⟩ := Dp.reads I _ _ _ dx rx
  obtain ⟨m, _, rfl⟩ := List.mem_map.mp hd'
  have em := alike_unique _ _ _ _ _ (alike_tI m (leastI l ls)) (reads_keeps hk ra) hv
  rw [em] at dx
  exact ⟨x, H, I.kept (t' := tk) hk, rx, q x hx dx⟩
end
end Rd

set_option Elab.async false
set_option linter.all false
set_option maxRecDepth 100000
set_option maxHeartbeats 4000000
/-! t[::-1], t a tuple -/
namespace PySem.W
theorem rd_filterMap_congr {α β : Type} {f g : α → Option β} : ∀ {l : List α}, (∀ m ∈ l, f m = g m) → l.filterMap f = l.filterMap g
  | [], _ => rfl
  | a :: l, h => by
    rw [List.filterMap_cons, List.filterMap_cons, h a List.mem_cons_self, rd_filterMap_congr fun m hm => h m (List.mem_cons_of_mem _ hm)]
end PySem.W
namespace HT
open PySem PyProof.Rows
section
variable {prog : Program} {w : World} {A : Around} {E : Value → Shared → Prop} {s : Shared}
theorem rd_places (n : Nat) : Builtin.Slice.slicePlaces ((n : Int) - 1) (-1) (-1) = n := by
  unfold Builtin.Slice.slicePlaces
  have h1 : ¬ ((-1 : Int) > 0) := by omega
  simp only [h1, if_false]
  split
  · have e : ((n : Int) - 1 - -1 - 1) / (- -1) = (n : Int) - 1 := by
      rw [show (- -1 : Int) = 1 by decide, Int.ediv_one]; omega
    rw [e]; omega
  · omega
theorem rd_applied {sl : Addr} {vl vu vs : Value} {n : Nat} {Q : Int × Int × Nat → Shared → Prop} (hs : s.heap.IsSliceOf sl vl vu vs) (pl : IsPart vl none) (pu : IsPart vu none) (ps : IsPart vs (some (-1)))
    (h : Q ((n : Int) - 1, -1, n) s) : wpAny (model prog w) A (Builtin.Slice.sliceApplied (.ref sl) (pure (n : Int))) Q E s := by
  obtain ⟨os, hos, hcs, hds⟩ := id hs
  unfold Builtin.Slice.sliceApplied Builtin.Slice.sliceFields
  refine wpAny_bind (wpAny_bind (wpAny_field hos hds (x := vl) rfl (wpAny_bind (wpAny_field hos hds (x := vu) rfl (wpAny_bind (wpAny_field hos hds (x := vs) rfl (wpAny_pure ?_)))))))
  refine wpAny_bind (slicePart_ ps ?_)
  show wpAny _ _ (if ((-1 : Int) == 0) = true then _ else _) _ _ s
  rw [if_neg (by decide)]
  refine wpAny_bind (slicePart_ pl (wpAny_bind (slicePart_ pu (wpAny_bind (wpAny_pure ?_)))))
  show wpAny _ _ (pure ((n : Int) - 1, (-1 : Int), Builtin.Slice.slicePlaces ((n : Int) - 1) (-1) (-1))) _ _ s
  rw [rd_places]
  exact wpAny_pure h
theorem rd_pick (xs : Array Value) : ((List.range xs.size).filterMap fun (m : Nat) => xs[(((xs.size : Int) - 1) + (m : Int) * (-1)).toNat]?).toArray = xs.toList.reverse.toArray := by
  have e : ((List.range xs.size).filterMap fun (m : Nat) => xs[(((xs.size : Int) - 1) + (m : Int) * (-1)).toNat]?) = ((List.range xs.size).map fun k => xs.size - 1 - k).filterMap (xs[·]?) := by
    rw [List.filterMap_map]
    refine PySem.W.rd_filterMap_congr fun m hm => ?_
    have : (((xs.size : Int) - 1) + (m : Int) * (-1)).toNat = xs.size - 1 - m := by omega
    rw [this]; rfl
  rw [e, PySem.W.krv_range, List.filterMap_reverse, PySem.W.krv_all]
theorem getItem_tuple_rev {t sl : Addr} {items : Array Value} {vl vu vs : Value} {Q : Value → Shared → Prop} (ht : IsTup s.heap t items) (hs : s.heap.IsSliceOf sl vl vu vs) (pl : IsPart vl none) (pu : IsPart vu none) (ps : IsPart vs (some (-1)))
    (h : Q (.ref s.heap.objs.size) { s with heap := s.heap.push { cls := .type "tuple", data := .seq items.toList.reverse.toArray } })
    (hsz : items.size ≤ sizeLine) : wpAny (model prog w) A (getItem (.ref t) (.ref sl)) Q E s := by
  have htake : sizeOk (.seq items.toList.reverse.toArray) := by
    show items.toList.reverse.toArray.size ≤ sizeLine
    rw [List.size_toArray, List.length_reverse, Array.length_toList]
    exact hsz
  obtain ⟨os, hos, hcs, hds⟩ := id hs
  have hTs : s.TypeIs (.ref sl) "slice" := ⟨os, hos, hcs⟩
  unfold getItem
  try with_reducible refine wpAny_holding ?_
  first | refine wpAny_bind (wpAny_pure ?_) | skip
  refine wpAny_bind (wpAny_sequenceKey ht.typeIs (by decide) ?_)
  refine wpAny_bind (wpAny_callSpecial?_slot (name := Str.ofString "__getitem__") ht.typeIs PyProof.Rows.slot_tuple_getitem
    (wpAny_call_entry PyProof.Rows.slot_tuple_getitem ht.typeIs entry_tuple_getitem ?_ (args_tuple_getitem _ _)))
  show wpAny _ _ (Builtin.Tuple.tupleItemsOf (.ref t) >>= _) _ _ s
  refine wpAny_bind (tupleItemsOf_ ht ?_)
  refine wpAny_bind (wpAny_typeOf hTs ?_)
  rw [if_pos (by decide)]
  refine wpAny_bind (rd_applied hs pl pu ps ?_)
  have hno : ¬ ((((items.size : Int) - 1) == 0 && (-1 : Int) == 1 && items.size == items.size) = true) := by simp
  show wpAny _ _ (if (((items.size : Int) - 1) == 0 && (-1 : Int) == 1 && items.size == items.size) = true then _ else _) _ _ s
  rw [if_neg hno, rd_pick]
  first
    | exact wpAny_bind (m := Builtin.Tuple.tupleExact _) (wpAny_newObj_type (wpAny_pure ⟨_, rfl, wpAny_pure h⟩) htake)
    | exact wpAny_bind (m := Builtin.Tuple.tupleExact _) (wpAny_newObj_type (wpAny_bind (wpAny_pure (wpAny_pure ⟨_, rfl, wpAny_pure h⟩))) htake)
    | exact wpAny_bind (wpAny_bind (m := Builtin.Tuple.tupleExact _) (wpAny_newObj_type (wpAny_pure (wpAny_pure ⟨_, rfl, wpAny_pure h⟩)) htake))
    | exact wpAny_bind (wpAny_bind (m := Builtin.Tuple.tupleExact _) (wpAny_newObj_type (wpAny_pure ⟨_, rfl, wpAny_pure h⟩) htake))
end
end HT
namespace Rd
open PySem PySem.Spec PyProof.Rows L2
section
variable {X : Cx}
def tRevT (K : PySem.W.Frag) (te : TE) : TE := fun σ H Q => te σ H fun x H1 => ∃ a xs, x = .ref a ∧ SqT K H1 a xs ∧ ∀ p, H1 p = none → Q (.ref p) (upd H1 p (.tup xs.reverse))
theorem pe_revT {e : Expr} {te : TE} {k : Nat} {p1 p2 p3 pos : Pos} (he : PE X e te) : PE X (.Subscript e (.Slice none none (some (.UnaryOp .USub (.Constant (.int 1) k p1) p2)) p3) pos) (tRevT X.K te) := by
  refine ⟨fun pins s σ H Q I h => ?_⟩
  refine Subscript_ (thn (he.run pins s σ H _ I h) fun v s1 ⟨x, H1, I1, r1, q1⟩ => ?_)
  obtain ⟨a, xs, ex, hx, q⟩ := q1
  subst ex
  cases r1
  have hst : PO X (some (.UnaryOp .USub (.Constant (.int 1) k p1) p2)) (tPart (tUn (rU fun i => .int (-i)) (tC (.int 1)))) := po_some (pe_un un_neg pe_int)
  refine wpAny_Slice (thn (po_none.run pins s1 σ H1 (fun o H2 => o = none ∧ H2 = H1) I1 ⟨rfl, rfl⟩) fun vl s2 ⟨l, H2, I2, pl, el, e2⟩ => ?_)
  subst el e2
  refine thn (po_none.run pins s2 σ H2 (fun o H3 => o = none ∧ H3 = H2) I2 ⟨rfl, rfl⟩) fun vu s3 ⟨u, H3, I3, pu, eu, e3⟩ => ?_
  subst eu e3
  refine thn (hst.run pins s3 σ H3 (fun o H4 => o = some (-1) ∧ H4 = H3) I3 ⟨1, rfl, -1, rfl, rfl, rfl⟩) fun vs s4 ⟨o, H4, I4, ps, eo, e4⟩ => ?_
  subst eo e4
  have I5 : Inv X pins σ H4 { s4 with heap := s4.heap.push { cls := .type "slice", data := .fields #[vl, vu, vs] } } := I4.kept (t' := s4.toks) fun b ob q => Heap.get?_push_of_some _ q
  obtain ⟨its, r, ht, hz⟩ := I5.tuple hx
  have hlen := r.length
  show wpAny (model X.prog X.w) X.A (subscriptTail e (.Slice none none (some (.UnaryOp .USub (.Constant (.int 1) k p1) p2)) p3) (.ref a) (.ref s4.heap.objs.size)) (EP X pins σ Q) X.xe { s4 with heap := s4.heap.push { cls := .type "slice", data := .fields #[vl, vu, vs] } }
  refine tail_any (ops := [.ref a, .ref s4.heap.objs.size]) ht.typeIs (PyProof.Rows.slot_tuple_getitem.lookup) ?_ (by with_unfolding_all rfl)
  refine HT.getItem_tuple_rev ht (Heap.IsSliceOf.new _ vl vu vs) pl pu ps ?_ (by rw [List.size_toArray]; omega)
  refine ⟨.ref _, _, I5.laid (t' := s4.toks) (o := .tup xs.reverse) (fun b ob q => Heap.get?_push_of_some _ q) (Nat.le_refl _) ?_, rfl, q _ (I5.hok.fresh (Nat.le_refl _))⟩
  exact ⟨by rw [List.length_reverse]; exact hz, _, r.reverse, _, Heap.get?_push_size _ rfl, rfl, _, rfl⟩
/-- list.count over data -/
def rCntD (K : PySem.W.Frag) : V → List V → Hp → VK → Prop := fun x xs H Q => ∃ (p : Addr) (ys : List V) (y : V) (ds : List PyData) (d : PyData), x = .ref p ∧ xs = [y] ∧ SqL K H p ys ∧ DpAll K H ys ds ∧ Dp K H y d ∧ PySem.PyData.plainAll ds = true ∧ d.plain = true ∧ PyData.depthAll ds ≤ 10 ∧ Q (.int ((ds.countP fun z => PyData.eqv z d : Nat) : Int)) H
theorem mt_lcountD {j : Nat} (hr : Room j X.A) : MtR X "list.count" (rCntD X.K) := by
  intro pins s σ H x xs v us Q I rx rxs h
  obtain ⟨p, ys, y, ds, d, rfl, rfl, hs, hd, hy, h1, h2, h3, q⟩ := h
  cases rx
  obtain ⟨u, rfl, ru⟩ := rxs.one
  obtain ⟨its, rv, hl, hz⟩ := I.list hs
  obtain ⟨as, hR⟩ := Dp.readsAll I _ _ _ hd rv
  obtain ⟨bs, hB⟩ := Dp.reads I _ _ _ hy ru
  have hR' : Reads s.heap u d bs := hB
  exact PySem.SeqAt.count_list_data hl.isList (by simpa using hR) hR' h1 h2 (by have := hr.units; omega) ⟨.int _, H, I.tok _, ⟨s.toks, rfl⟩, q⟩
end
end Rd

set_option Elab.async false
set_option linter.all false
set_option maxRecDepth 100000
set_option maxHeartbeats 4000000
/-! more named values -/
namespace Rd
open PySem PySem.Spec PyProof.Rows L2
section
variable {X : Cx} {K : PySem.W.Frag} {H : Hp} {Q : VK} {σ : S0}
theorem r_isi {x c : V} {t u : Value} {b : Bool} (hc : ClsV c u) (ht : TyX K H x t) (hk : PySem.W.kitOne K t u = some b) (q : Q (.bl b) H) : rIsi K [x, c] H Q := ⟨x, c, t, u, b, rfl, hc, ht, hk, q⟩
theorem r_isiT {x : V} {tp : Addr} {cs : List V} {t : Value} {us : List Value} {b : Bool} (hT : H tp = some (.tup cs)) (hc : Paired ClsV cs us) (ht : TyX K H x t) (hk : PySem.W.kitAny K t us = some b) (q : Q (.bl b) H) : rIsiT K [x, .ref tp] H Q := ⟨x, tp, cs, t, us, b, rfl, hT, hc, ht, hk, q⟩
/-- a list or a tuple -/
def Sq (K : PySem.W.Frag) (H : Hp) (a : Addr) (xs : List V) : Prop := H a = some (.lst xs) ∨ H a = some (.tup xs)
theorem Sq.both {a : Addr} {xs : List V} (h : Sq K H a xs) : SqL K H a xs ∨ SqT K H a xs := h.elim (fun h => .inl (sqL_of h)) fun h => .inr (sqT_of h)
theorem Sq.ty {a : Addr} {xs : List V} (h : Sq K H a xs) : TyX K H (.ref a) (.type "list") ∨ TyX K H (.ref a) (.type "tuple") := h.elim (fun h => .inl (.base (.lst h))) fun h => .inr (.base (.tup h))
theorem isLT {t : Value} (h : t = .type "list" ∨ t = .type "tuple") : PySem.W.kitAny K t [.type "list", .type "tuple"] = some true := by
  rcases h with rfl | rfl
  · rfl
  · exact kitAny_cons (b := false) (kit_ty (by decide +kernel)) (fun _ => kitAny_cons (b := true) (kit_ty (by decide +kernel)) (fun z => by cases z) fun _ => rfl) fun z => by cases z
def rTupOf (K : PySem.W.Frag) : List V → Hp → VK → Prop := fun xs H Q => ∃ p ys, xs = [.ref p] ∧ ((SqL K H p ys ∧ ∀ l, H l = none → Q (.ref l) (upd H l (.tup ys))) ∨ (SqT K H p ys ∧ Q (.ref p) H))
theorem c_tupOf : CallR X (.type "tuple") (rTupOf X.K) := call_tuple_of
theorem r_tupL {p : Addr} {ys : List V} (h : SqL K H p ys) (q : ∀ l, H l = none → Q (.ref l) (upd H l (.tup ys))) : rTupOf K [.ref p] H Q := ⟨p, ys, rfl, .inl ⟨h, q⟩⟩
theorem r_tupT {p : Addr} {ys : List V} (h : SqT K H p ys) (q : Q (.ref p) H) : rTupOf K [.ref p] H Q := ⟨p, ys, rfl, .inr ⟨h, q⟩⟩
theorem r_tupSq {p : Addr} {ys : List V} (h : Sq K H p ys) (q : ∀ l H', H' l = some (.tup ys) → Kp [] H H' → Q (.ref l) H') : rTupOf K [.ref p] H Q := by
  rcases h with h | h
  · exact r_tupL (sqL_of h) fun l nl => q l _ upd_same ((Kp.refl _ _).new nl)
  · exact r_tupT (sqT_of h) (q p H h (Kp.refl _ _))
end
theorem bt_int : bootBuiltins "int" = some (.type "int") := by decide +kernel
theorem bt_bool : bootBuiltins "bool" = some (.type "bool") := by decide +kernel
theorem bt_str : bootBuiltins "str" = some (.type "str") := by decide +kernel
theorem bt_list : bootBuiltins "list" = some (.type "list") := by decide +kernel
theorem bt_tuple : bootBuiltins "tuple" = some (.type "tuple") := by decide +kernel
theorem bt_range : bootBuiltins "range" = some (.type "range") := by decide +kernel
theorem bt_enumerate : bootBuiltins "enumerate" = some (.type "enumerate") := by decide +kernel
theorem bt_dict : bootBuiltins "dict" = some (.type "dict") := by decide +kernel
theorem bt_zip : bootBuiltins "zip" = some (.type "zip") := by decide +kernel
theorem bt_map : bootBuiltins "map" = some (.type "map") := by decide +kernel
theorem bt_reversed : bootBuiltins "reversed" = some (.type "reversed") := by decide +kernel
theorem bt_set : bootBuiltins "set" = some (.type "set") := by decide +kernel
theorem bt_frozenset : bootBuiltins "frozenset" = some (.type "frozenset") := by decide +kernel
theorem bt_isinstance : bootBuiltins "isinstance" = some (.builtin "isinstance") := by decide +kernel
theorem bt_abs : bootBuiltins "abs" = some (.builtin "abs") := by decide +kernel
theorem bt_len : bootBuiltins "len" = some (.builtin "len") := by decide +kernel
theorem bt_max : bootBuiltins "max" = some (.builtin "max") := by decide +kernel
theorem bt_min : bootBuiltins "min" = some (.builtin "min") := by decide +kernel
theorem bt_sorted : bootBuiltins "sorted" = some (.builtin "sorted") := by decide +kernel
theorem bt_sum : bootBuiltins "sum" = some (.builtin "sum") := by decide +kernel
theorem bt_all : bootBuiltins "all" = some (.builtin "all") := by decide +kernel
theorem bt_any : bootBuiltins "any" = some (.builtin "any") := by decide +kernel
theorem bt_repr : bootBuiltins "repr" = some (.builtin "repr") := by decide +kernel
theorem bt_divmod : bootBuiltins "divmod" = some (.builtin "divmod") := by decide +kernel
theorem bt_pow : bootBuiltins "pow" = some (.builtin "pow") := by decide +kernel
section
variable {X : Cx} {K : PySem.W.Frag} {H : Hp} {Q : VK} {σ : S0}
theorem pe_ty {T : String} {x : Str} {pos : Pos} (hg : Gl X x) (hm : X.mg x = none) (hv : bootBuiltins x = some (.type T)) (hn : x ≠ "__name__" := by decide) (hd : (x == ("__debug__" : Str)) = false := by decide) : PE X (.Name x pos) (tC (.ty T)) := pe_bltn hg hm hv rfl hn hd
theorem kitBI : PySem.W.kitOne K (.type "int") (.type "int") = some true := rfl
end
section
variable {P : Program} {w : World} {K : PySem.W.Frag} {mg : Str → Option Value} {base : Heap}
theorem fun_of {x q : Str} {st : Stmt} {f : Addr} {fd : FuncData} (F : FunD K x q (defArgs st) (defBody st) (defScope st) [] [] f fd) : Fun K x q st f fd := by
  obtain ⟨oc, od, dV, kV, doc, pm, an, cdv, ct, osl, e, lk, hcd, hd, _⟩ := F.ex
  rcases hd with ⟨_, rfl⟩ | ⟨h, _⟩
  · exact ⟨⟨oc, od, kV, doc, pm, an, cdv, ct, osl, e, lk, hcd⟩, F.kp⟩
  · exact absurd rfl h
/-- a def by name, all its arguments given by place -/
theorem calx_D {x : Str} {pa : Arguments} {bd : List Stmt} {sc : Scope} {dvs : List V} {f : Addr} {fd : FuncData} {ps : List Str} {k : Nat} {sp : Sp} (F : FunD K x x pa bd sc dvs [] f fd) (hm : mg x = some (.ref f)) (b : Binds K fd ps []) (h : FnOk P w K mg base (L2.CX P w) k f fd ps sp) : CalX P w K mg base k x sp [] :=
  ⟨f, fd, ps, [], h, hm, F.kp, b, .nil⟩
end
end Rd

set_option Elab.async false
set_option linter.all false
set_option maxRecDepth 100000
set_option maxHeartbeats 4000000
/-! isinstance of built-in types, more readings -/
namespace Rd
open PySem PySem.Spec PyProof.Rows L2
theorem kt_NoneType_int {K : PySem.W.Frag} : PySem.W.kitOne K (.type "NoneType") (.type "int") = some false := kit_ty (by decide +kernel)
theorem kt_NoneType_bool {K : PySem.W.Frag} : PySem.W.kitOne K (.type "NoneType") (.type "bool") = some false := kit_ty (by decide +kernel)
theorem kt_NoneType_str {K : PySem.W.Frag} : PySem.W.kitOne K (.type "NoneType") (.type "str") = some false := kit_ty (by decide +kernel)
theorem kt_NoneType_list {K : PySem.W.Frag} : PySem.W.kitOne K (.type "NoneType") (.type "list") = some false := kit_ty (by decide +kernel)
theorem kt_NoneType_tuple {K : PySem.W.Frag} : PySem.W.kitOne K (.type "NoneType") (.type "tuple") = some false := kit_ty (by decide +kernel)
theorem kt_NoneType_dict {K : PySem.W.Frag} : PySem.W.kitOne K (.type "NoneType") (.type "dict") = some false := kit_ty (by decide +kernel)
theorem kt_bool_int {K : PySem.W.Frag} : PySem.W.kitOne K (.type "bool") (.type "int") = some true := kit_ty (by decide +kernel)
theorem kt_bool_bool {K : PySem.W.Frag} : PySem.W.kitOne K (.type "bool") (.type "bool") = some true := kit_ty (by decide +kernel)
theorem kt_bool_str {K : PySem.W.Frag} : PySem.W.kitOne K (.type "bool") (.type "str") = some false := kit_ty (by decide +kernel)
theorem kt_bool_list {K : PySem.W.Frag} : PySem.W.kitOne K (.type "bool") (.type "list") = some false := kit_ty (by decide +kernel)
theorem kt_bool_tuple {K : PySem.W.Frag} : PySem.W.kitOne K (.type "bool") (.type "tuple") = some false := kit_ty (by decide +kernel)
theorem kt_bool_dict {K : PySem.W.Frag} : PySem.W.kitOne K (.type "bool") (.type "dict") = some false := kit_ty (by decide +kernel)
theorem kt_int_int {K : PySem.W.Frag} : PySem.W.kitOne K (.type "int") (.type "int") = some true := kit_ty (by decide +kernel)
theorem kt_int_bool {K : PySem.W.Frag} : PySem.W.kitOne K (.type "int") (.type "bool") = some false := kit_ty (by decide +kernel)
theorem kt_int_str {K : PySem.W.Frag} : PySem.W.kitOne K (.type "int") (.type "str") = some false := kit_ty (by decide +kernel)
theorem kt_int_list {K : PySem.W.Frag} : PySem.W.kitOne K (.type "int") (.type "list") = some false := kit_ty (by decide +kernel)
theorem kt_int_tuple {K : PySem.W.Frag} : PySem.W.kitOne K (.type "int") (.type "tuple") = some false := kit_ty (by decide +kernel)
theorem kt_int_dict {K : PySem.W.Frag} : PySem.W.kitOne K (.type "int") (.type "dict") = some false := kit_ty (by decide +kernel)
theorem kt_str_int {K : PySem.W.Frag} : PySem.W.kitOne K (.type "str") (.type "int") = some false := kit_ty (by decide +kernel)
theorem kt_str_bool {K : PySem.W.Frag} : PySem.W.kitOne K (.type "str") (.type "bool") = some false := kit_ty (by decide +kernel)
theorem kt_str_str {K : PySem.W.Frag} : PySem.W.kitOne K (.type "str") (.type "str") = some true := kit_ty (by decide +kernel)
theorem kt_str_list {K : PySem.W.Frag} : PySem.W.kitOne K (.type "str") (.type "list") = some false := kit_ty (by decide +kernel)
theorem kt_str_tuple {K : PySem.W.Frag} : PySem.W.kitOne K (.type "str") (.type "tuple") = some false := kit_ty (by decide +kernel)
theorem kt_str_dict {K : PySem.W.Frag} : PySem.W.kitOne K (.type "str") (.type "dict") = some false := kit_ty (by decide +kernel)
theorem kt_list_int {K : PySem.W.Frag} : PySem.W.kitOne K (.type "list") (.type "int") = some false := kit_ty (by decide +kernel)
theorem kt_list_bool {K : PySem.W.Frag} : PySem.W.kitOne K (.type "list") (.type "bool") = some false := kit_ty (by decide +kernel)
theorem kt_list_str {K : PySem.W.Frag} : PySem.W.kitOne K (.type "list") (.type "str") = some false := kit_ty (by decide +kernel)
theorem kt_list_list {K : PySem.W.Frag} : PySem.W.kitOne K (.type "list") (.type "list") = some true := kit_ty (by decide +kernel)
theorem kt_list_tuple {K : PySem.W.Frag} : PySem.W.kitOne K (.type "list") (.type "tuple") = some false := kit_ty (by decide +kernel)
theorem kt_list_dict {K : PySem.W.Frag} : PySem.W.kitOne K (.type "list") (.type "dict") = some false := kit_ty (by decide +kernel)
theorem kt_tuple_int {K : PySem.W.Frag} : PySem.W.kitOne K (.type "tuple") (.type "int") = some false := kit_ty (by decide +kernel)
theorem kt_tuple_bool {K : PySem.W.Frag} : PySem.W.kitOne K (.type "tuple") (.type "bool") = some false := kit_ty (by decide +kernel)
theorem kt_tuple_str {K : PySem.W.Frag} : PySem.W.kitOne K (.type "tuple") (.type "str") = some false := kit_ty (by decide +kernel)
theorem kt_tuple_list {K : PySem.W.Frag} : PySem.W.kitOne K (.type "tuple") (.type "list") = some false := kit_ty (by decide +kernel)
theorem kt_tuple_tuple {K : PySem.W.Frag} : PySem.W.kitOne K (.type "tuple") (.type "tuple") = some true := kit_ty (by decide +kernel)
theorem kt_tuple_dict {K : PySem.W.Frag} : PySem.W.kitOne K (.type "tuple") (.type "dict") = some false := kit_ty (by decide +kernel)
theorem kt_dict_int {K : PySem.W.Frag} : PySem.W.kitOne K (.type "dict") (.type "int") = some false := kit_ty (by decide +kernel)
theorem kt_dict_bool {K : PySem.W.Frag} : PySem.W.kitOne K (.type "dict") (.type "bool") = some false := kit_ty (by decide +kernel)
theorem kt_dict_str {K : PySem.W.Frag} : PySem.W.kitOne K (.type "dict") (.type "str") = some false := kit_ty (by decide +kernel)
theorem kt_dict_list {K : PySem.W.Frag} : PySem.W.kitOne K (.type "dict") (.type "list") = some false := kit_ty (by decide +kernel)
theorem kt_dict_tuple {K : PySem.W.Frag} : PySem.W.kitOne K (.type "dict") (.type "tuple") = some false := kit_ty (by decide +kernel)
theorem kt_dict_dict {K : PySem.W.Frag} : PySem.W.kitOne K (.type "dict") (.type "dict") = some true := kit_ty (by decide +kernel)
section
variable {K : PySem.W.Frag} {σ : S0} {H : Hp} {ta tb te tv tc td : TE} {Q : VK} {t u : TS} {nx : S0 → Hp → Prop} {rt : VK} {bk ct : S0 → Hp → Prop} {tt uu : TT} {QB : Bool → Hp → Prop} {aa bb : TA}
theorem r_andV (h : ta σ H fun x H1 => ∃ c, x = .bl c ∧ if c = true then tb σ H1 Q else Q (.bl false) H1) : tAndV ta tb σ H Q := h
theorem r_orV (h : ta σ H fun x H1 => ∃ c, x = .bl c ∧ if c = true then Q (.bl true) H1 else tb σ H1 Q) : tOrV ta tb σ H Q := h
theorem r_notV (h : ta σ H fun x H1 => ∃ c, x = .bl c ∧ Q (.bl (!c)) H1) : tNotV ta σ H Q := h
theorem iteNT {A B : Prop} (h : B) : if (!true) = true then A else B := h
theorem iteNF {A B : Prop} (h : A) : if (!false) = true then A else B := h
theorem r_isN1 {x : V} (hb : x ≠ .non) (q : Q (.bl false) H) : rIsN x .non H Q := ⟨rfl, by rw [decide_eq_false hb]; exact q⟩
theorem r_isN0 (q : Q (.bl true) H) : rIsN .non .non H Q := ⟨rfl, q⟩
theorem r_notN1 {x : V} (hb : x ≠ .non) (q : Q (.bl true) H) : rNotN x .non H Q := ⟨rfl, by rw [decide_eq_false hb]; exact q⟩
theorem r_notN0 (q : Q (.bl false) H) : rNotN .non .non H Q := ⟨rfl, q⟩
theorem r_mk {C : Addr} {fs : List Str} {QX : XK} (h : aa σ H fun vs H1 => rMkX C fs vs H1 QX) : tMkX C fs aa σ H QX := h
end
end Rd

set_option Elab.async false
set_option linter.all false
set_option maxRecDepth 100000
set_option maxHeartbeats 4000000
/-! loops and comprehensions by what is behind -/
namespace Rd
open PySem PySem.Spec PyProof.Rows L2
section
variable {α : Type} {K : PySem.W.Frag} {σ : S0} {H : Hp} {ta te : TE} {Q : VK} {t : TS} {nx : S0 → Hp → Prop} {rt : VK} {bk ct : S0 → Hp → Prop} {aa : TA} {g : TG} {tt : TT} {vs : List Nat}
/-- J walks over l while ok holds; y: what a turn yields -/
structure Wk (J : It) (l : List α) (ok : Hp → Prop) (y : Nat → α → Hp → V → Hp → Prop) : Prop where
  go : ∀ i H, ok H → i < l.length → J.go i H
  stop : ∀ H, ok H → J.stop l.length H
  yld : ∀ i H x H', ok H → J.yld i H x H' → ∀ c, l[i]? = some c → y i c H x H'
def yId (f : α → V) : Nat → α → Hp → V → Hp → Prop := fun _ c H v H' => v = f c ∧ H' = H
theorem getmap {f : α → V} {l : List α} {i : Nat} {c : α} (h : l[i]? = some c) : (l.map f)[i]? = some (f c) := by rw [List.getElem?_map, h]; rfl
theorem wkL (a : Addr) (l : List α) (f : α → V) : Wk (Itl K a) l (fun H => SqL K H a (l.map f)) (yId f) where
  go := fun i H h hi => ⟨_, f l[i], h, getmap (List.getElem?_eq_getElem hi)⟩
  stop := fun H h => ⟨_, h, by rw [List.length_map]; exact Nat.le_refl _⟩
  yld := fun i H x H' h hy c hc => ⟨by have := (hy.2 _ h).symm.trans (getmap hc); exact Option.some.inj this, hy.1⟩
theorem wkT (a : Addr) (l : List α) (f : α → V) : Wk (Itt K a) l (fun H => SqT K H a (l.map f)) (yId f) where
  go := fun i H h hi => ⟨_, f l[i], h, getmap (List.getElem?_eq_getElem hi)⟩
  stop := fun H h => ⟨_, h, by rw [List.length_map]; exact Nat.le_refl _⟩
  yld := fun i H x H' h hy c hc => ⟨by have := (hy.2 _ h).symm.trans (getmap hc); exact Option.some.inj this, hy.1⟩
theorem wkR (lo : Int) (n : Nat) : Wk (Itr lo n) (List.range n) (fun _ => True) (yId fun i : Nat => .int (lo + i)) where
  go := fun i H _ hi => by rw [List.length_range] at hi; exact hi
  stop := fun H _ => by rw [List.length_range]; exact Nat.le_refl _
  yld := fun i H x H' _ hy c hc => by
    obtain ⟨e1, e2⟩ := hy
    obtain ⟨hi, hc⟩ := List.getElem?_eq_some_iff.mp hc
    rw [List.getElem_range] at hc
    subst hc
    exact ⟨e2, e1⟩
theorem wkS (x : Str) : Wk (Its x) x.cps.toList (fun _ => True) (yId fun c : Nat => .str ⟨#[c]⟩) where
  go := fun i H _ hi => by rw [Array.length_toList] at hi; exact hi
  stop := fun H _ => by rw [Array.length_toList]; exact Nat.le_refl _
  yld := fun i H v H' _ hy c hc => by
    obtain ⟨e1, c', e2, e3⟩ := hy
    rw [Array.getElem?_toList] at hc
    rw [hc] at e2; cases e2
    exact ⟨e3, e1⟩
theorem wkE (a : Addr) (l : List α) (f : α → V) : Wk (Ite K a) l (fun H => SqL K H a (l.map f)) (fun i c H v H' => ∃ T, v = .ref T ∧ H T = none ∧ H' = upd H T (.tup [.int (i : Nat), f c])) where
  go := fun i H h hi => ⟨_, f l[i], h, getmap (List.getElem?_eq_getElem hi)⟩
  stop := fun H h => ⟨_, h, by rw [List.length_map]; exact Nat.le_refl _⟩
  yld := fun i H x H' h hy c hc => by
    obtain ⟨T, v, e1, e2, e3, e4⟩ := hy
    have := (e4 _ h).symm.trans (getmap hc)
    cases this
    exact ⟨T, e1, e2, e3⟩
theorem split_at {l : List α} {i : Nat} (h : i < l.length) : l = l.take i ++ l[i] :: l.drop (i + 1) := by
  rw [List.getElem_cons_drop, List.take_append_drop]
theorem take_succ_eq {l : List α} {i : Nat} (h : i < l.length) : l.take (i + 1) = l.take i ++ [l[i]] := by
  rw [List.take_add_one, List.getElem?_eq_getElem h]; rfl
theorem for_wk {J : It} {l : List α} {ok : Hp → Prop} {y : Nat → α → Hp → V → Hp → Prop} (W : Wk J l ok y) (Pv : List α → S0 → Hp → Prop) (h0 : Pv [] σ H) (hok : ∀ pre σ H, Pv pre σ H → ok H)
    (hs : ∀ pre x post σ H v H', l = pre ++ x :: post → Pv pre σ H → y pre.length x H v H' → g v σ H' fun σ2 H2 => t ⟨Pv (pre ++ [x]), rt, nx, Pv (pre ++ [x])⟩ σ2 H2) (hd : ∀ σ H, Pv l σ H → nx σ H) :
    ∃ W : Nat → Nat → S0 → Hp → Prop, (∃ m, W 0 m σ H) ∧ ∀ i m σ H, W i m σ H →
      (J.stop i H ∧ nx σ H) ∨ (J.go i H ∧ ∃ N : S0 → Hp → Prop, (∀ σ' H', N σ' H' → ∃ m', m' < m ∧ W (i + 1) m' σ' H') ∧ ∀ x H', J.yld i H x H' → g x σ H' fun σ2 H2 => t ⟨N, rt, nx, N⟩ σ2 H2) := by
  refine ⟨fun i m σ H => m = l.length - i ∧ i ≤ l.length ∧ Pv (l.take i) σ H, ⟨l.length, by simp, Nat.zero_le _, h0⟩, ?_⟩
  rintro i m σ H ⟨rfl, hi, p⟩
  by_cases hlt : i < l.length
  · refine .inr ⟨W.go i H (hok _ _ _ p) hlt, Pv (l.take (i + 1)), fun σ' H' p' => ⟨l.length - (i + 1), by omega, rfl, hlt, p'⟩, fun x H' hy => ?_⟩
    have h := hs (l.take i) l[i] (l.drop (i + 1)) σ H x H' (split_at hlt) p (by rw [List.length_take, Nat.min_eq_left hi]; exact W.yld i H x H' (hok _ _ _ p) hy _ (List.getElem?_eq_getElem hlt))
    rw [take_succ_eq hlt]
    exact h
  · have e : i = l.length := by omega
    subst e
    rw [List.take_length] at p
    exact .inl ⟨W.stop H (hok _ _ _ p), hd _ _ p⟩
theorem lc_wk {J : It} {l : List α} {ok : Hp → Prop} {y : Nat → α → Hp → V → Hp → Prop} {H1 : Hp} {D : Addr} {Qd : Hp → Prop} (W : Wk J l ok y) (Pv : List α → Hp → Prop) (h0 : Pv [] (upd H1 D (.lst []))) (hok : ∀ pre H, Pv pre H → ok H)
    (hs : ∀ pre x post H v H', l = pre ++ x :: post → Pv pre H → y pre.length x H v H' → g v (wipe σ vs) H' fun σ2 H2 => wipe σ2 vs = wipe σ vs ∧ tt σ2 H2 fun b H3 =>
      if b = true then te σ2 H3 fun z H4 => ∃ acc, H4 D = some (.lst acc) ∧ acc.length < sizeLine ∧ Pv (pre ++ [x]) (upd H4 D (.lst (acc ++ [z]))) else Pv (pre ++ [x]) H3)
    (hd : ∀ H, Pv l H → Qd H) :
    ∃ W : Nat → Nat → Hp → Prop, (∃ m, W 0 m (upd H1 D (.lst []))) ∧ ∀ i m H, W i m H →
      (J.stop i H ∧ Qd H) ∨ (J.go i H ∧ ∃ Nx : Hp → Prop, (∀ H', Nx H' → ∃ m', m' < m ∧ W (i + 1) m' H') ∧ ∀ x H', J.yld i H x H' → g x (wipe σ vs) H' fun σ2 H2 => wipe σ2 vs = wipe σ vs ∧ tt σ2 H2 fun b H3 =>
        if b = true then te σ2 H3 fun y H4 => ∃ acc, H4 D = some (.lst acc) ∧ acc.length < sizeLine ∧ Nx (upd H4 D (.lst (acc ++ [y]))) else Nx H3) := by
  refine ⟨fun i m H => m = l.length - i ∧ i ≤ l.length ∧ Pv (l.take i) H, ⟨l.length, by simp, Nat.zero_le _, h0⟩, ?_⟩
  rintro i m H ⟨rfl, hi, p⟩
  by_cases hlt : i < l.length
  · refine .inr ⟨W.go i H (hok _ _ p) hlt, Pv (l.take (i + 1)), fun H' p' => ⟨l.length - (i + 1), by omega, rfl, hlt, p'⟩, fun x H' hy => ?_⟩
    have h := hs (l.take i) l[i] (l.drop (i + 1)) H x H' (split_at hlt) p (by rw [List.length_take, Nat.min_eq_left hi]; exact W.yld i H x H' (hok _ _ p) hy _ (List.getElem?_eq_getElem hlt))
    rw [take_succ_eq hlt]
    exact h
  · have e : i = l.length := by omega
    subst e
    rw [List.take_length] at p
    exact .inl ⟨W.stop H (hok _ _ p), hd _ p⟩
/-- the inner for of a comprehension with two -/
theorem lc_in {J : It} {l : List α} {ok : Hp → Prop} {y : Nat → α → Hp → V → Hp → Prop} {H1 : Hp} {D : Addr} {Qd : Hp → Prop} (W : Wk J l ok y) (Pv : List α → Hp → Prop) (h0 : Pv [] H1) (hok : ∀ pre H, Pv pre H → ok H)
    (hs : ∀ pre x post H v H', l = pre ++ x :: post → Pv pre H → y pre.length x H v H' → g v (wipe σ vs) H' fun σ2 H2 => wipe σ2 vs = wipe σ vs ∧ tt σ2 H2 fun b H3 =>
      if b = true then te σ2 H3 fun z H4 => ∃ acc, H4 D = some (.lst acc) ∧ acc.length < sizeLine ∧ Pv (pre ++ [x]) (upd H4 D (.lst (acc ++ [z]))) else Pv (pre ++ [x]) H3)
    (hd : ∀ H, Pv l H → Qd H) :
    ∃ W : Nat → Nat → Hp → Prop, (∃ m, W 0 m H1) ∧ ∀ i m H, W i m H →
      (J.stop i H ∧ Qd H) ∨ (J.go i H ∧ ∃ Nx : Hp → Prop, (∀ H', Nx H' → ∃ m', m' < m ∧ W (i + 1) m' H') ∧ ∀ x H', J.yld i H x H' → g x (wipe σ vs) H' fun σ2 H2 => wipe σ2 vs = wipe σ vs ∧ tt σ2 H2 fun b H3 =>
        if b = true then te σ2 H3 fun y H4 => ∃ acc, H4 D = some (.lst acc) ∧ acc.length < sizeLine ∧ Nx (upd H4 D (.lst (acc ++ [y]))) else Nx H3) := by
  refine ⟨fun i m H => m = l.length - i ∧ i ≤ l.length ∧ Pv (l.take i) H, ⟨l.length, by simp, Nat.zero_le _, h0⟩, ?_⟩
  rintro i m H ⟨rfl, hi, p⟩
  by_cases hlt : i < l.length
  · refine .inr ⟨W.go i H (hok _ _ p) hlt, Pv (l.take (i + 1)), fun H' p' => ⟨l.length - (i + 1), by omega, rfl, hlt, p'⟩, fun x H' hy => ?_⟩
    have h := hs (l.take i) l[i] (l.drop (i + 1)) H x H' (split_at hlt) p (by rw [List.length_take, Nat.min_eq_left hi]; exact W.yld i H x H' (hok _ _ p) hy _ (List.getElem?_eq_getElem hlt))
    rw [take_succ_eq hlt]
    exact h
  · have e : i = l.length := by omega
    subst e
    rw [List.take_length] at p
    exact .inl ⟨W.stop H (hok _ _ p), hd _ p⟩
end
/-! what stands behind an iterated term -/
section
variable {α : Type} {K : PySem.W.Frag} {σ : S0} {H : Hp} {nx : S0 → Hp → Prop} {rt : VK} {t : TS} {g : TG} {a : Addr} {tt : TT} {te : TE} {vs : List Nat} {Q : VK}
theorem q_forT (l : List α) (f : α → V) (Pv : List α → S0 → Hp → Prop) (h1 : SqT K H a (l.map f)) (h2 : Pv [] σ H) (hok : ∀ pre σ H, Pv pre σ H → SqT K H a (l.map f))
    (hs : ∀ pre x post σ H, l = pre ++ x :: post → Pv pre σ H → g (f x) σ H fun σ2 H2 => t ⟨Pv (pre ++ [x]), rt, nx, Pv (pre ++ [x])⟩ σ2 H2) (hd : ∀ σ H, Pv l σ H → nx σ H) :
    ∃ b, V.ref a = .ref b ∧ (∃ xs, SqT K H b xs) ∧ ∃ W : Nat → Nat → S0 → Hp → Prop, (∃ m, W 0 m σ H) ∧ ∀ i m σ H, W i m σ H →
      ((Itt K b).stop i H ∧ nx σ H) ∨ ((Itt K b).go i H ∧ ∃ N : S0 → Hp → Prop, (∀ σ' H', N σ' H' → ∃ m', m' < m ∧ W (i + 1) m' σ' H') ∧ ∀ x H', (Itt K b).yld i H x H' → g x σ H' fun σ2 H2 => t ⟨N, rt, nx, N⟩ σ2 H2) :=
  ⟨a, rfl, ⟨_, h1⟩, for_wk (wkT a l f) Pv h2 hok (fun pre x post σ H v H' e p y => by obtain ⟨rfl, rfl⟩ := y; exact hs pre x post σ _ e p) hd⟩
theorem q_forL (l : List α) (f : α → V) (Pv : List α → S0 → Hp → Prop) (h1 : SqL K H a (l.map f)) (h2 : Pv [] σ H) (hok : ∀ pre σ H, Pv pre σ H → SqL K H a (l.map f))
    (hs : ∀ pre x post σ H, l = pre ++ x :: post → Pv pre σ H → g (f x) σ H fun σ2 H2 => t ⟨Pv (pre ++ [x]), rt, nx, Pv (pre ++ [x])⟩ σ2 H2) (hd : ∀ σ H, Pv l σ H → nx σ H) :
    ∃ b, V.ref a = .ref b ∧ (∃ xs, SqL K H b xs) ∧ ∃ W : Nat → Nat → S0 → Hp → Prop, (∃ m, W 0 m σ H) ∧ ∀ i m σ H, W i m σ H →
      ((Itl K b).stop i H ∧ nx σ H) ∨ ((Itl K b).go i H ∧ ∃ N : S0 → Hp → Prop, (∀ σ' H', N σ' H' → ∃ m', m' < m ∧ W (i + 1) m' σ' H') ∧ ∀ x H', (Itl K b).yld i H x H' → g x σ H' fun σ2 H2 => t ⟨N, rt, nx, N⟩ σ2 H2) :=
  ⟨a, rfl, ⟨_, h1⟩, for_wk (wkL a l f) Pv h2 hok (fun pre x post σ H v H' e p y => by obtain ⟨rfl, rfl⟩ := y; exact hs pre x post σ _ e p) hd⟩
theorem q_forR (lo : Int) (n : Nat) (Pv : Nat → S0 → Hp → Prop) (h2 : Pv 0 σ H)
    (hs : ∀ i σ H, i < n → Pv i σ H → g (.int (lo + (i : Nat))) σ H fun σ2 H2 => t ⟨Pv (i + 1), rt, nx, Pv (i + 1)⟩ σ2 H2) (hd : ∀ σ H, Pv n σ H → nx σ H) :
    ∃ W : Nat → Nat → S0 → Hp → Prop, (∃ m, W 0 m σ H) ∧ ∀ i m σ H, W i m σ H →
      ((Itr lo n).stop i H ∧ nx σ H) ∨ ((Itr lo n).go i H ∧ ∃ N : S0 → Hp → Prop, (∀ σ' H', N σ' H' → ∃ m', m' < m ∧ W (i + 1) m' σ' H') ∧ ∀ x H', (Itr lo n).yld i H x H' → g x σ H' fun σ2 H2 => t ⟨N, rt, nx, N⟩ σ2 H2) := by
  refine for_wk (wkR lo n) (fun pre σ H => Pv pre.length σ H) h2 (fun _ _ _ _ => trivial) (fun pre x post σ H v H' e p y => ?_) (fun σ H p => by rw [List.length_range] at p; exact hd σ H p)
  obtain ⟨rfl, rfl⟩ := y
  have hl : pre.length < n := by have := congrArg List.length e; rw [List.length_range, List.length_append, List.length_cons] at this; omega
  have hx : x = pre.length := by
    have h1 : (List.range n)[pre.length]? = some x := by rw [e]; simp
    rw [List.getElem?_range hl] at h1; exact (Option.some.inj h1).symm
  subst hx
  simp only [List.length_append, List.length_cons, List.length_nil]
  exact hs _ σ H' hl p
theorem q_forE (l : List α) (f : α → V) (Pv : List α → S0 → Hp → Prop) (h1 : SqL K H a (l.map f)) (h2 : Pv [] σ H) (hok : ∀ pre σ H, Pv pre σ H → SqL K H a (l.map f))
    (hs : ∀ pre x post σ H T, l = pre ++ x :: post → Pv pre σ H → H T = none → g (.ref T) σ (upd H T (.tup [.int (pre.length : Nat), f x])) fun σ2 H2 => t ⟨Pv (pre ++ [x]), rt, nx, Pv (pre ++ [x])⟩ σ2 H2) (hd : ∀ σ H, Pv l σ H → nx σ H) :
    ∃ b xs, [V.ref a] = [.ref b] ∧ SqL K H b xs ∧ ∃ W : Nat → Nat → S0 → Hp → Prop, (∃ m, W 0 m σ H) ∧ ∀ i m σ H, W i m σ H →
      ((Ite K b).stop i H ∧ nx σ H) ∨ ((Ite K b).go i H ∧ ∃ N : S0 → Hp → Prop, (∀ σ' H', N σ' H' → ∃ m', m' < m ∧ W (i + 1) m' σ' H') ∧ ∀ x H', (Ite K b).yld i H x H' → g x σ H' fun σ2 H2 => t ⟨N, rt, nx, N⟩ σ2 H2) :=
  ⟨a, _, rfl, h1, for_wk (wkE a l f) Pv h2 hok (fun pre x post σ H v H' e p y => by obtain ⟨T, rfl, n, rfl⟩ := y; exact hs pre x post σ H T e p n) hd⟩
/-! comprehensions -/
def LcGo (J : It) (g : TG) (tt : TT) (te : TE) (vs : List Nat) (σ : S0) (H : Hp) (Q : VK) : Prop := ∀ D, H D = none → ∃ W : Nat → Nat → Hp → Prop, (∃ m, W 0 m (upd H D (.lst []))) ∧ ∀ i m H, W i m H →
  (J.stop i H ∧ Q (.ref D) H) ∨ (J.go i H ∧ ∃ Nx : Hp → Prop, (∀ H', Nx H' → ∃ m', m' < m ∧ W (i + 1) m' H') ∧ ∀ x H', J.yld i H x H' → g x (wipe σ vs) H' fun σ2 H2 => wipe σ2 vs = wipe σ vs ∧ tt σ2 H2 fun b H3 =>
    if b = true then te σ2 H3 fun y H4 => ∃ acc, H4 D = some (.lst acc) ∧ acc.length < sizeLine ∧ Nx (upd H4 D (.lst (acc ++ [y]))) else Nx H3)
theorem r_lc {wi : TI} (h : wi σ H fun J H1 => LcGo J g tt te vs σ H1 Q) : tLc wi g tt te vs σ H Q := h
theorem r_yes {QB : Bool → Hp → Prop} (q : QB true H) : tYes σ H QB := q
theorem q_lcL (l : List α) (f : α → V) (Pv : Addr → List α → Hp → Prop) (h1 : SqL K H a (l.map f)) (h0 : ∀ D, H D = none → Pv D [] (upd H D (.lst []))) (hok : ∀ D pre H1, H D = none → Pv D pre H1 → SqL K H1 a (l.map f))
    (hs : ∀ D pre x post H1, H D = none → l = pre ++ x :: post → Pv D pre H1 → g (f x) (wipe σ vs) H1 fun σ2 H2 => wipe σ2 vs = wipe σ vs ∧ tt σ2 H2 fun b H3 =>
      if b = true then te σ2 H3 fun z H4 => ∃ acc, H4 D = some (.lst acc) ∧ acc.length < sizeLine ∧ Pv D (pre ++ [x]) (upd H4 D (.lst (acc ++ [z]))) else Pv D (pre ++ [x]) H3)
    (hd : ∀ D H1, H D = none → Pv D l H1 → Q (.ref D) H1) :
    ∃ b, V.ref a = .ref b ∧ (∃ xs, SqL K H b xs) ∧ LcGo (Itl K b) g tt te vs σ H Q :=
  ⟨a, rfl, ⟨_, h1⟩, fun D nD => lc_wk (wkL a l f) (Pv D) (h0 D nD) (fun pre H1 => hok D pre H1 nD) (fun pre x post H v H' e p y => by obtain ⟨rfl, rfl⟩ := y; exact hs D pre x post _ nD e p) fun H1 => hd D H1 nD⟩
theorem q_lcT (l : List α) (f : α → V) (Pv : Addr → List α → Hp → Prop) (h1 : SqT K H a (l.map f)) (h0 : ∀ D, H D = none → Pv D [] (upd H D (.lst []))) (hok : ∀ D pre H1, H D = none → Pv D pre H1 → SqT K H1 a (l.map f))
    (hs : ∀ D pre x post H1, H D = none → l = pre ++ x :: post → Pv D pre H1 → g (f x) (wipe σ vs) H1 fun σ2 H2 => wipe σ2 vs = wipe σ vs ∧ tt σ2 H2 fun b H3 =>
      if b = true then te σ2 H3 fun z H4 => ∃ acc, H4 D = some (.lst acc) ∧ acc.length < sizeLine ∧ Pv D (pre ++ [x]) (upd H4 D (.lst (acc ++ [z]))) else Pv D (pre ++ [x]) H3)
    (hd : ∀ D H1, H D = none → Pv D l H1 → Q (.ref D) H1) :
    ∃ b, V.ref a = .ref b ∧ (∃ xs, SqT K H b xs) ∧ LcGo (Itt K b) g tt te vs σ H Q :=
  ⟨a, rfl, ⟨_, h1⟩, fun D nD => lc_wk (wkT a l f) (Pv D) (h0 D nD) (fun pre H1 => hok D pre H1 nD) (fun pre x post H v H' e p y => by obtain ⟨rfl, rfl⟩ := y; exact hs D pre x post _ nD e p) fun H1 => hd D H1 nD⟩
theorem range_at {n : Nat} {pre post : List Nat} {x : Nat} (e : List.range n = pre ++ x :: post) : pre.length < n ∧ x = pre.length := by
  have hl : pre.length < n := by have := congrArg List.length e; rw [List.length_range, List.length_append, List.length_cons] at this; omega
  refine ⟨hl, ?_⟩
  have h1 : (List.range n)[pre.length]? = some x := by rw [e]; simp
  rw [List.getElem?_range hl] at h1; exact (Option.some.inj h1).symm
theorem q_lcR {j : Int} (hj : 0 ≤ j) (hj2 : j < 2 ^ 62) (Pv : Addr → Nat → Hp → Prop) (h0 : ∀ D, H D = none → Pv D 0 (upd H D (.lst [])))
    (hs : ∀ D i H1, H D = none → i < j.toNat → Pv D i H1 → g (.int (0 + (i : Nat))) (wipe σ vs) H1 fun σ2 H2 => wipe σ2 vs = wipe σ vs ∧ tt σ2 H2 fun b H3 =>
      if b = true then te σ2 H3 fun z H4 => ∃ acc, H4 D = some (.lst acc) ∧ acc.length < sizeLine ∧ Pv D (i + 1) (upd H4 D (.lst (acc ++ [z]))) else Pv D (i + 1) H3)
    (hd : ∀ D H1, H D = none → Pv D j.toNat H1 → Q (.ref D) H1) :
    ∃ k : Int, [V.int j] = [.int k] ∧ -(2 ^ 62) ≤ k ∧ k < 2 ^ 62 ∧ LcGo (Itr 0 k.toNat) g tt te vs σ H Q := by
  refine ⟨j, rfl, by omega, hj2, fun D nD => lc_wk (wkR 0 j.toNat) (fun pre H => Pv D pre.length H) (h0 D nD) (fun _ _ _ => trivial) (fun pre x post H v H' e p y => ?_) (fun H1 p => by rw [List.length_range] at p; exact hd D H1 nD p)⟩
  obtain ⟨rfl, rfl⟩ := y
  obtain ⟨hl, rfl⟩ := range_at e
  simp only [List.length_append, List.length_cons, List.length_nil]
  exact hs D _ _ nD hl p
theorem q_lcS {x : Str} (Pv : Addr → List Nat → Hp → Prop) (h0 : ∀ D, H D = none → Pv D [] (upd H D (.lst [])))
    (hs : ∀ D pre c post H1, H D = none → x.cps.toList = pre ++ c :: post → Pv D pre H1 → g (.str ⟨#[c]⟩) (wipe σ vs) H1 fun σ2 H2 => wipe σ2 vs = wipe σ vs ∧ tt σ2 H2 fun b H3 =>
      if b = true then te σ2 H3 fun z H4 => ∃ acc, H4 D = some (.lst acc) ∧ acc.length < sizeLine ∧ Pv D (pre ++ [c]) (upd H4 D (.lst (acc ++ [z]))) else Pv D (pre ++ [c]) H3)
    (hd : ∀ D H1, H D = none → Pv D x.cps.toList H1 → Q (.ref D) H1) :
    ∃ y, V.str x = .str y ∧ LcGo (Its y) g tt te vs σ H Q := by
  refine ⟨x, rfl, fun D nD => ?_⟩
  have W := lc_wk (σ := σ) (g := g) (tt := tt) (te := te) (vs := vs) (H1 := H) (D := D) (Qd := fun H1 => Q (.ref D) H1) (wkS x) (Pv D) (h0 D nD) (fun _ _ _ => trivial) (fun pre c post H v H' e p y => by obtain ⟨rfl, rfl⟩ := y; exact hs D pre c post _ nD e p) fun H1 => hd D H1 nD
  exact W
theorem r_iStr {R : It → Hp → Prop} {te : TE} (h : te σ H fun v H1 => ∃ x, v = .str x ∧ R (Its x) H1) : iStr te σ H R := h
theorem r_iEnum {R : It → Hp → Prop} {ta : TA} (h : ta σ H fun vs H1 => ∃ a xs, vs = [.ref a] ∧ SqL K H1 a xs ∧ R (Ite K a) H1) : iEnum K ta σ H R := h
theorem Kp.get {H H' : Hp} {p : Addr} {o : HO} (k : Kp [] H H') (h : H p = some o) : H' p = some o := k p o (by simp) h
theorem Kp.none {S : List Addr} {H H' : Hp} {p : Addr} (k : Kp S H H') (h : H' p = Option.none) (n : p ∉ S := by simp) : H p = Option.none := by
  cases e : H p with
  | none => rfl
  | some o => rw [k p o n e] at h; cases h
theorem dpI_keep {H H' : Hp} (k : Kp [] H H') : ∀ {v : V} {d : PyData}, Dp K H v d → Dp K H' v d := by
  intro v d h
  refine Dp.rec (motive_1 := fun v d _ => Dp K H' v d) (motive_2 := fun vs ds _ => DpAll K H' vs ds) .non (fun b => .bl b) (fun i => .int i) (fun x => .str x) (fun h1 _ h2 => .lst (k.sqL (by simp) h1) h2) (fun h1 _ h2 => .tup (k.sqT (by simp) h1) h2) .nil (fun _ _ h1 h2 => .cons h1 h2) h
theorem dpAll_keep {H H' : Hp} (k : Kp [] H H') : ∀ {vs : List V} {ds : List PyData}, DpAll K H vs ds → DpAll K H' vs ds
  | _, _, .nil => .nil
  | _, _, .cons h t => .cons (dpI_keep k h) (dpAll_keep k t)
end
end Rd

set_option Elab.async false
set_option linter.all false
set_option maxRecDepth 100000
set_option maxHeartbeats 4000000
/-! tuples cut and put together, reversed; comprehensions with two fors -/
namespace Rd
open PySem PySem.Spec PyProof.Rows L2 PySem.W
section
variable {X : Cx} {K : PySem.W.Frag} {σ : S0} {H : Hp} {Q : VK} {te : TE}
def rMax2 : List V → Hp → VK → Prop := fun xs H Q => ∃ i j : Int, xs = [.int i, .int j] ∧ Q (.int (if j > i then j else i)) H
theorem c_max2 (hc : X.calm = true) : CallR X (.builtin "max") rMax2 := call_max2 hc
theorem r_max2 {i j : Int} (q : Q (.int (if j > i then j else i)) H) : rMax2 [.int i, .int j] H Q := ⟨i, j, rfl, q⟩
theorem r_slA {a : Addr} {xs : List V} {lo hi : Option Int} (h : SqT K H a xs) (q : ∀ p H', SqT K H' p (cutV xs lo hi) → Kp [] H H' → Q (.ref p) H') : rSlA K (.ref a) lo hi H Q := by
  refine ⟨a, xs, rfl, h, fun hw => q a H ?_ (Kp.refl _ _), fun _ p np => q p _ (sqT_of upd_same) ((Kp.refl _ _).new np)⟩
  have e : cutV xs lo hi = xs := by
    unfold cutV
    rw [hw.1, hw.2, List.drop_zero, Nat.sub_zero, List.take_length]
  rw [e]; exact h
theorem r_catA {a b : Addr} {xs ys : List V} (ha : SqT K H a xs) (hb : SqT K H b ys) (hz : xs.length + ys.length ≤ sizeLine) (q : ∀ p H', SqT K H' p (xs ++ ys) → Kp [] H H' → Q (.ref p) H') : rCatA K (.ref a) (.ref b) H Q := by
  refine ⟨a, b, xs, ys, rfl, rfl, ha, hb, hz, fun e => q b H ?_ (Kp.refl _ _), fun _ e => q a H ?_ (Kp.refl _ _), fun _ _ p np => q p _ (sqT_of upd_same) ((Kp.refl _ _).new np)⟩
  · rw [e]; exact hb
  · rw [e, List.append_nil]; exact ha
theorem r_revT {a : Addr} {xs : List V} (h : te σ H fun x H1 => x = .ref a ∧ SqT K H1 a xs ∧ ∀ p, H1 p = none → Q (.ref p) (upd H1 p (.tup xs.reverse))) (mono : ∀ (Q Q' : VK), (∀ z H1, Q z H1 → Q' z H1) → te σ H Q → te σ H Q') : tRevT K te σ H Q :=
  mono _ _ (fun z H1 ⟨h1, h2, h3⟩ => ⟨a, xs, h1, h2, h3⟩) h
theorem r_revT' (h : te σ H fun x H1 => ∃ a xs, x = .ref a ∧ SqT K H1 a xs ∧ ∀ p, H1 p = none → Q (.ref p) (upd H1 p (.tup xs.reverse))) : tRevT K te σ H Q := h
end
/-- a list of tuples changes: the tuples' data stay -/
theorem sqT_put {K : PySem.W.Frag} {H : Hp} {D p : Addr} {acc : List V} {o : HO} {xs : List V} (hD : H D = some (.lst acc)) (h : SqT K H p xs) : SqT K (upd H D o) p xs := by
  rcases h with h | h
  · refine .inl ?_
    have ne : p ≠ D := fun e => by
      rcases h with h | ⟨b, h⟩
      · rw [e, hD] at h; cases h
      · rw [e, hD] at h; cases h
    rcases h with h | ⟨b, h⟩
    · exact .inl ((upd_ne ne).trans h)
    · exact .inr ⟨b, (upd_ne ne).trans h⟩
  · exact .inr h
theorem dpInts_any {K : PySem.W.Frag} {H H' : Hp} : ∀ {vs : List V} {l : List Int}, DpAll K H vs (l.map .int) → DpAll K H' vs (l.map .int)
  | _, [], h => by
    have h' : DpAll K H _ [] := h
    cases h'; exact .nil
  | _, i :: l, h => by
    have h' : DpAll K H _ (.int i :: l.map .int) := h
    cases h' with
    | cons h1 h2 => cases h1; exact .cons (.int i) (dpInts_any h2)
theorem dpT_put {K : PySem.W.Frag} {H : Hp} {D : Addr} {acc : List V} {o : HO} (hD : H D = some (.lst acc)) : ∀ {vs : List V} {ls : List (List Int)}, DpAll K H vs (ls.map tI) → DpAll K (upd H D o) vs (ls.map tI)
  | _, [], h => by
    have h' : DpAll K H _ [] := h
    cases h'; exact .nil
  | _, l :: ls, h => by
    have h' : DpAll K H _ (tI l :: ls.map tI) := h
    cases h' with
    | cons h1 h2 =>
      cases h1 with
      | tup s1 s2 => exact .cons (.tup (sqT_put hD s1) (dpInts_any s2)) (dpT_put hD h2)
theorem dp_append {K : PySem.W.Frag} {H : Hp} : ∀ {vs ws : List V} {ds es : List PyData}, DpAll K H vs ds → DpAll K H ws es → DpAll K H (vs ++ ws) (ds ++ es)
  | _, _, _, _, .nil, h => h
  | _, _, _, _, .cons a t, h => .cons a (dp_append t h)
theorem dp_tI {K : PySem.W.Frag} {H : Hp} {p : Addr} {l : List Int} (h : SqT K H p (l.map V.int)) : Dp K H (.ref p) (tI l) := .tup h (dpInts l)
theorem dp_tI_inv {K : PySem.W.Frag} {H : Hp} {v : V} {l : List Int} (h : Dp K H v (tI l)) : ∃ p, v = .ref p ∧ SqT K H p (l.map V.int) := by
  have inv : ∀ {vs : List V} {l : List Int}, DpAll K H vs (l.map .int) → vs = l.map V.int := by
    intro vs l
    induction l generalizing vs with
    | nil => intro h; have h' : DpAll K H vs [] := h; cases h'; rfl
    | cons i l ih =>
      intro h
      have h' : DpAll K H vs (.int i :: l.map .int) := h
      cases h' with
      | cons h1 h2 => cases h1; rw [ih h2]; rfl
  cases h with
  | tup h1 h2 => rw [inv h2] at h1; exact ⟨_, rfl, h1⟩
section
variable {α β : Type} {K : PySem.W.Frag} {σ : S0} {H : Hp} {te : TE} {Q : VK} {g g1 : TG} {tt tt1 : TT} {vs vs1 : List Nat} {wi wi1 : TI} {a : Addr}
def Lc2Go (J : It) (g : TG) (tt : TT) (wi1 : TI) (g1 : TG) (tt1 : TT) (te : TE) (vs vs1 : List Nat) (σ : S0) (H : Hp) (Q : VK) : Prop := ∀ D, H D = none → ∃ W : Nat → Nat → Hp → Prop, (∃ m, W 0 m (upd H D (.lst []))) ∧ ∀ i m H, W i m H →
  (J.stop i H ∧ Q (.ref D) H) ∨ (J.go i H ∧ ∃ Nx : Hp → Prop, (∀ H', Nx H' → ∃ m', m' < m ∧ W (i + 1) m' H') ∧ ∀ x H', J.yld i H x H' → g x (wipe σ vs) H' fun σ2 H2 => wipe σ2 vs = wipe σ vs ∧ tt σ2 H2 fun b H3 =>
    if b = true then wi1 σ2 H3 fun J1 H4 => ∃ W1 : Nat → Nat → Hp → Prop, (∃ m, W1 0 m H4) ∧ ∀ j k H, W1 j k H →
      (J1.stop j H ∧ Nx H) ∨ (J1.go j H ∧ ∃ Nx1 : Hp → Prop, (∀ H', Nx1 H' → ∃ k', k' < k ∧ W1 (j + 1) k' H') ∧ ∀ x H', J1.yld j H x H' → g1 x (wipe σ2 vs1) H' fun σ3 H5 => wipe σ3 vs1 = wipe σ2 vs1 ∧ tt1 σ3 H5 fun b H6 =>
        if b = true then te σ3 H6 fun y H7 => ∃ acc, H7 D = some (.lst acc) ∧ acc.length < sizeLine ∧ Nx1 (upd H7 D (.lst (acc ++ [y]))) else Nx1 H6)
    else Nx H3)
theorem r_lc2 (h : wi σ H fun J H1 => Lc2Go J g tt wi1 g1 tt1 te vs vs1 σ H1 Q) : tLc2 wi g tt wi1 g1 tt1 te vs vs1 σ H Q := h
theorem q_lc2L (l : List α) (f : α → V) (Pv : Addr → List α → Hp → Prop) (h1 : SqL K H a (l.map f)) (h0 : ∀ D, H D = none → Pv D [] (upd H D (.lst []))) (hok : ∀ D pre H1, H D = none → Pv D pre H1 → SqL K H1 a (l.map f))
    (hs : ∀ D pre x post H1, H D = none → l = pre ++ x :: post → Pv D pre H1 → g (f x) (wipe σ vs) H1 fun σ2 H2 => wipe σ2 vs = wipe σ vs ∧ tt σ2 H2 fun b H3 =>
      if b = true then wi1 σ2 H3 fun J1 H4 => ∃ W1 : Nat → Nat → Hp → Prop, (∃ m, W1 0 m H4) ∧ ∀ j k H, W1 j k H →
        (J1.stop j H ∧ Pv D (pre ++ [x]) H) ∨ (J1.go j H ∧ ∃ Nx1 : Hp → Prop, (∀ H', Nx1 H' → ∃ k', k' < k ∧ W1 (j + 1) k' H') ∧ ∀ x H', J1.yld j H x H' → g1 x (wipe σ2 vs1) H' fun σ3 H5 => wipe σ3 vs1 = wipe σ2 vs1 ∧ tt1 σ3 H5 fun b H6 =>
          if b = true then te σ3 H6 fun y H7 => ∃ acc, H7 D = some (.lst acc) ∧ acc.length < sizeLine ∧ Nx1 (upd H7 D (.lst (acc ++ [y]))) else Nx1 H6)
      else Pv D (pre ++ [x]) H3)
    (hd : ∀ D H1, H D = none → Pv D l H1 → Q (.ref D) H1) :
    ∃ b, V.ref a = .ref b ∧ (∃ xs, SqL K H b xs) ∧ Lc2Go (Itl K b) g tt wi1 g1 tt1 te vs vs1 σ H Q := by
  refine ⟨a, rfl, ⟨_, h1⟩, fun D nD => ⟨fun i m H => m = l.length - i ∧ i ≤ l.length ∧ Pv D (l.take i) H, ⟨l.length, by simp, Nat.zero_le _, h0 D nD⟩, ?_⟩⟩
  rintro i m H' ⟨rfl, hi, p⟩
  have W := wkL (K := K) a l f
  by_cases hlt : i < l.length
  · refine .inr ⟨W.go i H' (hok _ _ _ nD p) hlt, Pv D (l.take (i + 1)), fun H' p' => ⟨l.length - (i + 1), by omega, rfl, hlt, p'⟩, fun x H2 hy => ?_⟩
    obtain ⟨rfl, rfl⟩ := W.yld i H' x H2 (hok _ _ _ nD p) hy _ (List.getElem?_eq_getElem hlt)
    rw [take_succ_eq hlt]
    exact hs D (l.take i) l[i] (l.drop (i + 1)) _ nD (split_at hlt) p
  · have e : i = l.length := by omega
    subst e
    rw [List.take_length] at p
    exact .inl ⟨W.stop _ (hok _ _ _ nD p), hd _ _ nD p⟩
/-- the inner one over range(j) -/
theorem q_inR {j : Int} (hj : 0 ≤ j) (hj2 : j < 2 ^ 62) {D : Addr} {Nx : Hp → Prop} (Pv : Nat → Hp → Prop) (h0 : Pv 0 H)
    (hs : ∀ i H1, i < j.toNat → Pv i H1 → g (.int (0 + (i : Nat))) (wipe σ vs) H1 fun σ2 H2 => wipe σ2 vs = wipe σ vs ∧ tt σ2 H2 fun b H3 =>
      if b = true then te σ2 H3 fun z H4 => ∃ acc, H4 D = some (.lst acc) ∧ acc.length < sizeLine ∧ Pv (i + 1) (upd H4 D (.lst (acc ++ [z]))) else Pv (i + 1) H3)
    (hd : ∀ H1, Pv j.toNat H1 → Nx H1) :
    ∃ k : Int, [V.int j] = [.int k] ∧ -(2 ^ 62) ≤ k ∧ k < 2 ^ 62 ∧ ∃ W : Nat → Nat → Hp → Prop, (∃ m, W 0 m H) ∧ ∀ i m H, W i m H →
      ((Itr 0 k.toNat).stop i H ∧ Nx H) ∨ ((Itr 0 k.toNat).go i H ∧ ∃ Nx : Hp → Prop, (∀ H', Nx H' → ∃ m', m' < m ∧ W (i + 1) m' H') ∧ ∀ x H', (Itr 0 k.toNat).yld i H x H' → g x (wipe σ vs) H' fun σ2 H2 => wipe σ2 vs = wipe σ vs ∧ tt σ2 H2 fun b H3 =>
        if b = true then te σ2 H3 fun y H4 => ∃ acc, H4 D = some (.lst acc) ∧ acc.length < sizeLine ∧ Nx (upd H4 D (.lst (acc ++ [y]))) else Nx H3) := by
  refine ⟨j, rfl, by omega, hj2, lc_in (wkR 0 j.toNat) (fun pre H => Pv pre.length H) h0 (fun _ _ _ => trivial) (fun pre x post H v H' e p y => ?_) (fun H1 p => by rw [List.length_range] at p; exact hd H1 p)⟩
  obtain ⟨rfl, rfl⟩ := y
  obtain ⟨hl, rfl⟩ := range_at e
  simp only [List.length_append, List.length_cons, List.length_nil]
  exact hs _ _ hl p
end
/-! rules with the written part named, for the insides of comprehensions -/
section
variable {X : Cx} {K : PySem.W.Frag}
theorem sl_tupA_ (h : X.K = K := by rfl) : SlR X (rSlA K) := by subst h; exact sl_tupA
theorem sl_list_ (h : X.K = K := by rfl) : SlR X (rSlL K) := by subst h; exact sl_list
theorem op_catA_ (h : X.K = K := by rfl) : OpR X (binaryOp .Add) (rCatA K) := by subst h; exact op_catA
theorem ix_list_ (h : X.K = K := by rfl) : IxR X (rIxL K) := by subst h; exact ix_list
theorem c_len_ (h : X.K = K := by rfl) : CallR X (.builtin "len") (rLenQ K) := by subst h; exact c_len
theorem isi_ (h : X.K = K := by rfl) : CallR X (.builtin "isinstance") (rIsi K) := by subst h; exact call_isi
theorem pi_list_ {tg e : Expr} {te : TE} (he : PE X e te) (h : X.K = K := by rfl) : PI X tg e (iList K te) := by subst h; exact pi_list he
end
end Rd

set_option Elab.async false
set_option linter.all false
set_option maxRecDepth 100000
set_option maxHeartbeats 4000000
/-! sorted of a tuple; of ints and of strs, any number -/
namespace PyProof.Rows
open PySem PySem.Calls
section
variable {prog : Program} {w : World} {A : Around} {E : Value → Shared → Prop} {s : Shared}
theorem rd_collect_tup {l : Addr} {vs : List Value} {Q : List Value → Shared → Prop} (hl : s.heap.IsTuple l vs.toArray)
    (h : Q vs { s with heap := (s.heap.push (seqObj "list" #[] 0)).update s.heap.objs.size (Obj.mapSeq (· ++ vs.toArray)) }) (hsz : vs.length ≤ sizeLine := by size_fits) :
    wpAny (model prog w) A (collect (.ref l)) Q E s := by
  obtain ⟨o, ho, hc, n, hd⟩ := id hl
  unfold collect
  refine wpAny_bind (wpAny_runValue (codeAny_builtin entry_proto_collect' ?_))
  show wpAny _ _ (do again (.builtin "list.__iadd__" ⟨[← newList [], .ref l], []⟩)) _ _ s
  refine wpAny_bind (wpAny_newList (wpAny_pure ⟨Code.quiet_builtin _ (by decide +kernel), codeAny_builtin entry_list_iadd' ?_⟩))
  show wpAny _ _ (Builtin.List.listExtendWith (.ref s.heap.objs.size) (.ref l) (.ref s.heap.objs.size)) _ _ { s with heap := s.heap.push (seqObj "list" #[] 0) }
  unfold Builtin.List.listExtendWith
  have ho' : (s.heap.push (seqObj "list" #[] 0)).get? l = some o := Heap.get?_push_of_some _ ho
  refine wpAny_bind (wpAny_typeOf (T := "tuple") ⟨o, ho', hc⟩ ?_)
  have ht : (Value.type "tuple" == Value.type "tuple") = true := by rfl
  rw [if_pos (by rw [ht]; simp)]
  refine wpAny_bind (listItems_at ho' hd ?_)
  refine wpAny_bind (listItems_at (xs := #[]) (n := 0) (Heap.get?_push_size _ rfl) rfl ?_)
  rw [if_neg (by simp)]
  refine wpAny_bind (listUpdate_at (xs := #[]) (n := 0) (Heap.get?_push_size _ rfl) rfl ?_ (Nat.zero_le _) (by show (#[] ++ vs.toArray).size ≤ sizeLine + 1; simp only [Array.size_append, List.size_toArray, List.length_nil]; omega))
  refine wpAny_pure ?_
  show wpAny (model prog w) A (do
      let o ← load s.heap.objs.size
      match o.data with
      | .seq xs _ => pure xs.toList
      | _ => unsupported "internal:collect") Q E { s with heap := (s.heap.push (seqObj "list" #[] 0)).update s.heap.objs.size (Obj.mapSeq (· ++ vs.toArray)) }
  refine wpAny_bind (wpAny_load (get?_update_seq (Heap.get?_push_size _ rfl) _) ?_)
  show wpAny _ _ (pure ((#[] : Array Value) ++ vs.toArray).toList) Q E _
  rw [show ((#[] : Array Value) ++ vs.toArray).toList = vs by simp]
  exact wpAny_pure h
end
end PyProof.Rows
namespace PySem.W
open PySem PySem.Calls PyProof.Rows PySem.SeqAt
section
variable {prog : Program} {w : World} {A : Around} {E : Value → Shared → Prop} {s : Shared} {κ : PyProof.Rows.KeyKind}
theorem rd_sorted_ofT {l : Addr} {vs : List Value} {kw : List (Str × Value)} {Q : Value → Shared → Prop} (hl : s.heap.IsTuple l vs.toArray) (hL : vs.length ≤ sizeLine) (ha1 : argsOk "sorted" ⟨[.ref l], kw⟩) (ha2 : ∀ x, argsOk "list.sort" ⟨[.ref x], kw⟩)
    (body : ∀ E' : Value → Shared → Prop, wpAny (model prog w) A.in1.in1 (Builtin.«list.sort» ⟨[.ref (s.heap.objs.size + 1)], kw⟩) (fun f s' => f = .done (.ret .none) ∧ Q (.ref (s.heap.objs.size + 1)) s') E' { s with heap := copyHeap s.heap vs }) :
    wpAny (model prog w) A (call (.builtin "sorted") [.ref l] kw) Q E s := by
  refine call_function_entry_kw kind_sorted plain_sorted entry_sorted ha1 ?_
  unfold Builtin.«sorted»
  refine wpAny_bind (m := checkCount "sorted" 1 1 _) (wpAny_pure ?_)
  refine wpAny_bind (rd_collect_tup hl ?_ hL)
  refine wpAny_bind (wpAny_newList ?_ hL)
  have hsz : ((s.heap.push (seqObj "list" #[] 0)).update s.heap.objs.size (Obj.mapSeq (· ++ vs.toArray))).objs.size = s.heap.objs.size + 1 := by
    rw [Heap.size_update, size_push']
  show wpAny _ _ _ _ _ { s with heap := copyHeap s.heap vs }
  rw [hsz]
  refine wpAny_bind (wpAny_holding (wpAny_call_entry_kw slot_list_sort ⟨_, copyHeap_at s.heap vs, rfl⟩ entry_list_sort ?body (ha2 _)))
  case body =>
    show wpAny (model prog w) A.in1.in1 (Builtin.«list.sort» ⟨[.ref (s.heap.objs.size + 1)], kw⟩) _ _ _
    refine wpAny_mono (body _) (fun f s' hf => ?_) fun _ _ e => e
    obtain ⟨rfl, hq⟩ := hf
    exact ⟨_, rfl, wpAny_pure ⟨_, rfl, hq⟩⟩
theorem rd_sortedT_vals {l : Addr} {vs : List Value} {Q : Value → Shared → Prop} (hl : s.heap.IsTuple l vs.toArray) (S : SortsAt prog w A.in1.in1 { s with heap := sortingHeap (copyHeap s.heap vs) (s.heap.objs.size + 1) vs } κ vs) (hL : vs.length ≤ sizeLine)
    (h : Q (.ref (s.heap.objs.size + 1)) { s with heap := sortedAll s.heap vs (sortVals κ false vs vs).toArray }) : wpAny (model prog w) A (call (.builtin "sorted") [.ref l]) Q E s :=
  rd_sorted_ofT hl hL (args_sorted1 _) (fun _ => args_list_sort _) fun _ => list_sort_vals (s := { s with heap := copyHeap s.heap vs }) (copyHeap_at s.heap vs) S hL ⟨rfl, h⟩
theorem rd_sortedT_data {β : Type} {R : Value → β → Prop} {enc : β → PyData} {vs : List Value} {bs : List β} {l : Addr} {Q : Value → Shared → Prop} (hl : s.heap.IsTuple l vs.toArray) (e : EachIs R vs bs) (er : EachIs (fun v b => ∃ as, Reads s.heap v (enc b) as) vs bs) (hal : AllAlike (bs.map enc)) (hk : Sortable (bs.map enc)) (hL : bs.length ≤ sizeLine)
    (hu : ∀ b, b ∈ bs → A.units + 2 + (enc b).depth < cLine) (h : ∀ out, out.length = bs.length → EachIs R out (bs.mergeSort (dataLe false enc)) → Q (.ref (s.heap.objs.size + 1)) { s with heap := sortedAll s.heap vs (List.toArray out) }) :
    wpAny (model prog w) A (call (.builtin "sorted") [.ref l]) Q E s := by
  have er' : EachIs (fun v b => ∃ as, Reads (sortingHeap (copyHeap s.heap vs) (s.heap.objs.size + 1) vs) v (enc b) as) vs bs := er.mono fun _ _ ⟨as, r⟩ => ⟨as, PyProof.Rows.Reads.keeps (fun _ _ => sorting_copy_old) r⟩
  exact rd_sortedT_vals hl (SortsAt.data (s := { s with heap := sortingHeap (copyHeap s.heap vs) (s.heap.objs.size + 1) vs }) (each_map (R := fun v d => ∃ as, Reads (sortingHeap (copyHeap s.heap vs) (s.heap.objs.size + 1) vs) v d as) enc er') hal hk (bound_map hu)) (by rw [e.length]; exact hL)
    (h _ (by rw [sortVals_length false rfl]; exact e.length) (sortVals_data false e er' hal))
end
end PySem.W
namespace Rd
open PySem PySem.Spec PyProof.Rows L2 PySem.W
def leI (x y : Int) : Bool := decide (x ≤ y)
def leS (x y : Str) : Bool := !decide (y.cps.toList < x.cps.toList)
/-- sorted(xs), xs a list or a tuple of ints -/
def rSortedN (K : PySem.W.Frag) : List V → Hp → VK → Prop := fun xs H Q => ∃ (a : Addr) (ns : List Int), xs = [.ref a] ∧ (SqL K H a (ns.map V.int) ∨ SqT K H a (ns.map V.int)) ∧ ∀ p, H p = none → Q (.ref p) (upd H p (.lst ((ns.mergeSort leI).map V.int)))
def rSortedW (K : PySem.W.Frag) : List V → Hp → VK → Prop := fun xs H Q => ∃ (a : Addr) (ns : List Str), xs = [.ref a] ∧ (SqL K H a (ns.map V.str) ∨ SqT K H a (ns.map V.str)) ∧ ∀ p, H p = none → Q (.ref p) (upd H p (.lst ((ns.mergeSort leS).map V.str)))
theorem vals_each {α : Type} {f : α → V} : ∀ {us : List Value} {l : List α}, Vals (l.map f) us → EachIs (fun u b => RelV (f b) u) us l
  | _, [], r => by
    have r' : Vals [] _ := r
    cases r'; exact .nil
  | _, x :: l, r => by
    have r' : Vals (f x :: l.map f) _ := r
    cases r' with
    | cons h t => exact .cons h (vals_each t)
theorem each_vals {α : Type} {f : α → V} : ∀ {us : List Value} {l : List α}, EachIs (fun u b => RelV (f b) u) us l → Vals (l.map f) us
  | _, _, .nil => .nil
  | _, _, .cons h t => .cons h (each_vals t)
section
variable {X : Cx} {j : Nat}
theorem cr_sortedN (hr : Room j X.A) : CallR X (.builtin "sorted") (rSortedN X.K) := by
  intro pins s σ H vs us Q I r h
  obtain ⟨a, ns, rfl, hs, q⟩ := h
  rw [Vals.ref1 r]
  have go : ∀ its : List Value, Vals (ns.map V.int) its → EachIs (fun v b => ∃ as, Reads s.heap v (PyData.int b) as) its ns := fun its rv => (vals_each rv).mono fun u b hb => by
    obtain ⟨t, rfl⟩ := hb
    exact ⟨_, .int b t⟩
  have hal : AllAlike (ns.map PyData.int) := AllAlike.of fun b b' => by simp [alike]
  have hk : Sortable (ns.map PyData.int) := Sortable.others fun b => ⟨by simp, by simp⟩
  have em : dataLe false PyData.int = leI := by
    funext x y
    show (!dataLt (.int y) (.int x)) = _
    rw [dataLt_int]
    exact not_lt_int x y
  have fin : ∀ (its : List Value), Vals (ns.map V.int) its → its.length ≤ sizeLine → ∀ out : List Value, out.length = ns.length → EachIs (fun u b => RelV (V.int b) u) out (ns.mergeSort (dataLe false PyData.int)) →
      EP X pins σ Q (.ref (s.heap.objs.size + 1)) { s with heap := sortedAll s.heap its (List.toArray out) } := fun its rv hz out h1 h2 => by
    rw [em] at h2
    obtain ⟨ep, he'⟩ := PyProof.Rows.sortedAll_at s.heap its out.toArray
    have hlen := rv.length
    rw [List.length_map] at hlen
    exact ⟨.ref _, upd H (s.heap.objs.size + 1) (.lst ((ns.mergeSort leI).map V.int)), I.laid (t' := s.toks) (fun _ _ => PyProof.Rows.sortedAll_old) (Nat.le_succ _) ⟨by rw [List.length_map, List.length_mergeSort]; omega, out, ep, each_vals h2, he'⟩, rfl, q _ (I.hok.fresh (Nat.le_succ _))⟩
  rcases hs with hs | hs
  · obtain ⟨its, rv, hl, hz⟩ := I.list hs
    have hlen := rv.length
    rw [List.length_map] at hlen hz
    exact sorted_data (enc := PyData.int) hl.isList (vals_each rv) (go its rv) hal hk hz (fun b _ => by have := hr.units; show _ + 2 + 0 < _; omega) fun out h1 h2 => fin its rv (by omega) out h1 h2
  · obtain ⟨its, rv, hl, hz⟩ := I.tuple hs
    have hlen := rv.length
    rw [List.length_map] at hlen hz
    exact rd_sortedT_data (enc := PyData.int) hl (vals_each rv) (go its rv) hal hk hz (fun b _ => by have := hr.units; show _ + 2 + 0 < _; omega) fun out h1 h2 => fin its rv (by omega) out h1 h2
theorem cr_sortedW (hr : Room j X.A) : CallR X (.builtin "sorted") (rSortedW X.K) := by
  intro pins s σ H vs us Q I r h
  obtain ⟨a, ns, rfl, hs, q⟩ := h
  rw [Vals.ref1 r]
  have go : ∀ its : List Value, Vals (ns.map V.str) its → EachIs (fun v b => ∃ as, Reads s.heap v (PyData.str b) as) its ns := fun its rv => (vals_each rv).mono fun u b hb => by
    obtain ⟨t, rfl⟩ := hb
    exact ⟨_, .str b t⟩
  have hal : AllAlike (ns.map PyData.str) := AllAlike.of fun b b' => by simp [alike]
  have hk : Sortable (ns.map PyData.str) := Sortable.others fun b => ⟨by simp, by simp⟩
  have em : dataLe false PyData.str = leS := by
    funext x y
    show (!dataLt (.str y) (.str x)) = _
    rw [dataLt_str]; rfl
  have fin : ∀ (its : List Value), Vals (ns.map V.str) its → its.length ≤ sizeLine → ∀ out : List Value, out.length = ns.length → EachIs (fun u b => RelV (V.str b) u) out (ns.mergeSort (dataLe false PyData.str)) →
      EP X pins σ Q (.ref (s.heap.objs.size + 1)) { s with heap := sortedAll s.heap its (List.toArray out) } := fun its rv hz out h1 h2 => by
    rw [em] at h2
    obtain ⟨ep, he'⟩ := PyProof.Rows.sortedAll_at s.heap its out.toArray
    have hlen := rv.length
    rw [List.length_map] at hlen
    exact ⟨.ref _, upd H (s.heap.objs.size + 1) (.lst ((ns.mergeSort leS).map V.str)), I.laid (t' := s.toks) (fun _ _ => PyProof.Rows.sortedAll_old) (Nat.le_succ _) ⟨by rw [List.length_map, List.length_mergeSort]; omega, out, ep, each_vals h2, he'⟩, rfl, q _ (I.hok.fresh (Nat.le_succ _))⟩
  rcases hs with hs | hs
  · obtain ⟨its, rv, hl, hz⟩ := I.list hs
    have hlen := rv.length
    rw [List.length_map] at hlen hz
    exact sorted_data (enc := PyData.str) hl.isList (vals_each rv) (go its rv) hal hk hz (fun b _ => by have := hr.units; show _ + 2 + 0 < _; omega) fun out h1 h2 => fin its rv (by omega) out h1 h2
  · obtain ⟨its, rv, hl, hz⟩ := I.tuple hs
    have hlen := rv.length
    rw [List.length_map] at hlen hz
    exact rd_sortedT_data (enc := PyData.str) hl (vals_each rv) (go its rv) hal hk hz (fun b _ => by have := hr.units; show _ + 2 + 0 < _; omega) fun out h1 h2 => fin its rv (by omega) out h1 h2
end
end Rd

set_option Elab.async false
set_option linter.all false
set_option maxRecDepth 100000
set_option maxHeartbeats 4000000
/-! instances that change -/
namespace Rd
open PySem PySem.Spec PyProof.Rows L2 PySem.W
section
variable {K : PySem.W.Frag} {σ : S0} {H H' : Hp} {ta tv : TE} {nx : S0 → Hp → Prop} {rt : VK} {bk ct : S0 → Hp → Prop} {a C dx p : Addr} {fs : List (Str × V)} {o : HO} {xs : List V} {Q : VK}
theorem r_fldS {f : Str} (h : tv σ H fun y H1 => ta σ H1 fun x H2 => ∃ a C dx fs, x = .ref a ∧ H2 a = some (.ins C dx fs) ∧ Cls K C ∧ NoAttr K C f ∧ fs.length < 1000 ∧ nx σ (upd H2 a (.ins C dx (putF f y fs)))) : sFld K ta tv f ⟨nx, rt, bk, ct⟩ σ H := h
theorem cxK {CX : CXT} {P : Program} {w : World} {K : PySem.W.Frag} {mg : Str → Option Value} {base : Heap} {N : List Str} {q : Str} {sc : Scope} {g : Addr} {cdv : Value} {A : Around} {outer : List Env} {s : Shared} {H : Hp} {E : XK} : (cxOf CX P w K mg base N q sc g cdv A outer s H E).K = K := rfl
theorem r_fldI {i : Nat} {f : Str} {v : V} (hv : σ[i]? = some (some (.ref a))) (h : H a = some (.ins C dx fs)) (c : Cls K C) (n : NoAttr K C f) (l : fs.lookup f = some v) (q : Q v H) : tFld K (tVar i) f σ H Q := ⟨_, hv, a, C, dx, fs, v, rfl, h, c, n, l, q⟩
/-- H' is H but for the instance at a -/
theorem Kp.seq1 (k : Kp [a] H H') (ha : H a = some (.ins C dx fs)) (h : Sq K H p xs) : Sq K H' p xs := by
  have ne : p ∉ [a] := fun e => by
    rw [List.mem_singleton.mp e] at h
    rcases h with h | h <;> rw [ha] at h <;> cases h
  exact h.elim (fun h => .inl (k p _ ne h)) fun h => .inr (k p _ ne h)
theorem Kp.tup1 (k : Kp [a] H H') (ha : H a = some (.ins C dx fs)) (h : H p = some (.tup xs)) : H' p = some (.tup xs) := by
  have ne : p ∉ [a] := fun e => by
    rw [List.mem_singleton.mp e] at h
    rw [ha] at h; cases h
  exact k p _ ne h
theorem Kp.up {S : List Addr} (k : Kp [] H H') : Kp S H H' := fun b o _ h => k b o (by simp) h
theorem Kp.one (o : HO) : Kp [a] H (upd H a o) := (Kp.refl _ _).put (List.mem_singleton.mpr rfl)
theorem sqT_1 (k : Kp [a] H H') (ha : H a = some (.ins C dx fs)) (h : SqT K H p xs) : SqT K H' p xs := by
  rcases h with h | h
  · have ne : p ∉ [a] := fun e => by
      rw [List.mem_singleton.mp e] at h
      rcases h with h | ⟨b, h⟩ <;> rw [ha] at h <;> cases h
    exact .inl (k.rd ne h)
  · exact .inr h
theorem dpT_1 (k : Kp [a] H H') (ha : H a = some (.ins C dx fs)) : ∀ {vs : List V} {ls : List (List Int)}, DpAll K H vs (ls.map tI) → DpAll K H' vs (ls.map tI)
  | _, [], h => by
    have h' : DpAll K H _ [] := h
    cases h'; exact .nil
  | _, l :: ls, h => by
    have h' : DpAll K H _ (tI l :: ls.map tI) := h
    cases h' with
    | cons h1 h2 =>
      cases h1 with
      | tup s1 s2 => exact .cons (.tup (sqT_1 k ha s1) (dpInts_any s2)) (dpT_1 k ha h2)
end
end Rd

set_option Elab.async false
set_option linter.all false
set_option maxRecDepth 100000
set_option maxHeartbeats 4000000
/-! texts, lists that grow, while -/
namespace Rd
open PySem PySem.Spec PyProof.Rows L2 PySem.W
theorem canStrs : ∀ (l : List Str), (∀ x ∈ l, PyData.canLay0 (.str x) = true) → PyData.canLayAll0 (l.map PyData.str) = true
  | [], _ => rfl
  | x :: l, h => by
    show (PyData.canLay0 (.str x) && PyData.canLayAll0 (l.map PyData.str)) = true
    rw [canStrs l fun y hy => h y (List.mem_cons_of_mem _ hy), h x List.mem_cons_self]; rfl
theorem depStrs : ∀ (l : List Str), PyData.depthAll (l.map PyData.str) = 0
  | [] => rfl
  | _ :: l => by
    show max 0 (PyData.depthAll (l.map PyData.str)) = 0
    rw [depStrs l]; rfl
theorem shStrs (l : List Str) (h : ∀ x ∈ l, PyData.canLay0 (.str x) = true) : SeqAt.shaped (.list (l.map PyData.str)) = true := by
  show (PyData.canLayAll0 (l.map PyData.str) && decide (PyData.depthAll (l.map PyData.str) + 1 ≤ 64)) = true
  rw [canStrs l h, depStrs]; rfl
theorem eqvStrs : ∀ (l m : List Str), PyData.eqvAll (l.map PyData.str) (m.map PyData.str) = decide (l = m)
  | [], [] => rfl
  | [], _ :: _ => rfl
  | _ :: _, [] => rfl
  | x :: l, y :: m => by
    show ((x == y) && PyData.eqvAll (l.map PyData.str) (m.map PyData.str)) = _
    rw [eqvStrs l m]
    by_cases h : x = y
    · subst h
      rw [beq_self_eq_true, Bool.true_and]
      exact decide_eq_decide.mpr (by simp)
    · rw [beq_false_of_ne h, Bool.false_and]
      exact (decide_eq_false (by simp [h])).symm
section
variable {X : Cx} {K : PySem.W.Frag} {σ : S0} {H : Hp} {ta tb tc te : TE} {Q : VK} {t : TS} {tt : TT} {nx : S0 → Hp → Prop} {rt : VK} {bk ct : S0 → Hp → Prop}
def rIntS : List V → Hp → VK → Prop := fun xs H Q => ∃ a n, xs = [.str a] ∧ PySem.intText? a = some n ∧ a.length ≤ 640 ∧ Q (.int n) H
theorem c_intS : CallR X (.type "int") rIntS := call_int_str
theorem r_intS {a : Str} {n : Int} (h : PySem.intText? a = some n) (hl : a.length ≤ 640) (q : Q (.int n) H) : rIntS [.str a] H Q := ⟨a, n, rfl, h, hl, q⟩
def rStrI : List V → Hp → VK → Prop := fun xs H Q => ∃ i : Int, xs = [.int i] ∧ i.natAbs.log2 < 1920 ∧ Q (.str (Str.ofString (toString i))) H
theorem c_strI : CallR X (.type "str") rStrI := call_str_int
theorem r_strI {i : Int} (h : i.natAbs < 2 ^ 1900) (q : Q (.str (Str.ofString (toString i))) H) : rStrI [.int i] H Q := by
  refine ⟨i, rfl, ?_, q⟩
  by_cases z : i.natAbs = 0
  · rw [z]; decide
  · have := (Nat.log2_lt z).mpr h
    omega
theorem r_rep {l : Addr} {k : Int} {xs : List V} (h : H l = some (.lst xs)) (h0 : 0 ≤ k) (h1 : k ≤ 1000000) (hz : xs.length * k.toNat ≤ sizeLine) (q : ∀ p, H p = none → Q (.ref p) (upd H p (.lst (List.replicate k.toNat xs).flatten))) : rRep (.ref l) (.int k) H Q := ⟨l, k, xs, rfl, rfl, h, by omega, by omega, hz, q⟩
theorem r_cat {l b : Addr} {xs zs : List V} (h : H l = some (.lst xs)) (h2 : H b = some (.lst zs)) (hz : xs.length + zs.length ≤ sizeLine) (q : ∀ p, H p = none → Q (.ref p) (upd H p (.lst (xs ++ zs)))) : rCat (.ref l) (.ref b) H Q := ⟨l, b, xs, zs, rfl, rfl, h, h2, hz, q⟩
theorem r_app {l : Addr} {xs : List V} {y : V} (h : H l = some (.lst xs)) (hz : xs.length < sizeLine) (q : Q .non (upd H l (.lst (xs ++ [y])))) : rAppend (.ref l) [y] H Q := ⟨l, xs, y, rfl, rfl, h, hz, q⟩
theorem r_ext {l b : Addr} {xs zs : List V} (h : H l = some (.lst xs)) (h2 : H b = some (.lst zs)) (hz : xs.length + zs.length ≤ sizeLine) (q : Q .non (upd H l (.lst (xs ++ zs)))) : rExtend (.ref l) [.ref b] H Q := ⟨l, b, xs, zs, rfl, rfl, h, h2, hz, q⟩
theorem r_chain {r r' : R2} (h : ta σ H fun x H1 => tb σ H1 fun y H2 => r x y H2 fun z H3 => ∃ k, z = .bl k ∧ (if k = true then tc σ H3 fun w' H4 => r' y w' H4 Q else Q (.bl false) H3)) : tChain r r' ta tb tc σ H Q := h
theorem tyL {l : Addr} {xs : List V} (h : H l = some (.lst xs)) : tyV K "list" (.ref l) H := .inl ⟨rfl, xs, sqL_of h⟩
/-- while: Pv n is what holds with at most n turns to go; within, r_turn -/
theorem r_while (Pv : Nat → S0 → Hp → Prop) (h0 : ∃ n, Pv n σ H) (hs : ∀ n σ' H', Pv n σ' H' → tt σ' H' fun b H1 => if b = true then ∃ N : S0 → Hp → Prop, (∀ σ2 H2, N σ2 H2 → ∃ m', m' < n ∧ Pv m' σ2 H2) ∧ t ⟨N, rt, nx, N⟩ σ' H1 else nx σ' H1) : tWhile tt t ⟨nx, rt, bk, ct⟩ σ H := ⟨Pv, h0, hs⟩
theorem r_turn {n : Nat} {Pv : Nat → S0 → Hp → Prop} (h : t ⟨fun σ2 H2 => ∃ m, m < n ∧ Pv m σ2 H2, rt, nx, fun σ2 H2 => ∃ m, m < n ∧ Pv m σ2 H2⟩ σ H) : ∃ N : S0 → Hp → Prop, (∀ σ2 H2, N σ2 H2 → ∃ m', m' < n ∧ Pv m' σ2 H2) ∧ t ⟨N, rt, nx, N⟩ σ H := ⟨_, fun _ _ h => h, h⟩
end
end Rd

set_option Elab.async false
set_option linter.all false
set_option maxRecDepth 100000
set_option maxHeartbeats 4000000
/-! instances that are made -/
namespace Rd
open PySem PySem.Spec PyProof.Rows L2 PySem.W
section
variable {K : PySem.W.Frag} {σ : S0} {H : Hp} {Q : VK} {E : XK} {t : TA}
theorem r_make {C : Addr} {sp : Sp} {dvs : List V} (h : t σ H fun vs H1 => ∀ x dx, H1 x = none → H1 dx = none → dx ≠ x → sp (.ref x :: (vs ++ dvs)) (upd (upd H1 dx (.own x)) x (.ins C dx [])) (fun v H2 => v = .non ∧ Q (.ref x) H2) E) : tMake C sp dvs E t σ H Q := h
theorem kp_made {H H' : Hp} {x dx : Addr} {o1 o2 : HO} (nx : H x = none) (nd : H dx = none) (k : Kp [x] (upd (upd H dx o1) x o2) H') : Kp [] H H' := fun b o _ h => k b o (by
    intro z
    rw [List.mem_singleton.mp z, nx] at h; cases h) (by
    rw [upd_ne (fun z => by rw [z, nx] at h; cases h), upd_ne (fun z => by rw [z, nd] at h; cases h)]; exact h)
theorem r_gCons {t : TG} {u : TGs} {v : V} {r : List V} {nx : S0 → Hp → Prop} (h : t v σ H fun σ' H' => u r σ' H' nx) : gCons t u (v :: r) σ H nx := ⟨v, r, rfl, h⟩
theorem r_gNil {nx : S0 → Hp → Prop} (h : nx σ H) : gNil [] σ H nx := ⟨rfl, h⟩
theorem r_par2 {nx : S0 → Hp → Prop} {i j : Nat} {v w : V} {σ' : S0} (e : (σ.set i (some v)).set j (some w) = σ') (q : nx σ' H) : ∃ v' w', [v, w] = [v', w'] ∧ nx ((σ.set i (some v')).set j (some w')) H := ⟨v, w, rfl, by rw [e]; exact q⟩
end
/-- a test whose outcomes are told first -/
def tPost (t : TT) : TT := fun σ H Q => ∃ M : Bool → Hp → Prop, t σ H M ∧ ∀ b H1, M b H1 → Q b H1
theorem pt_post {X : Cx} {e : Expr} {t : TT} (h : PT X e t) : PT X e (tPost t) := ⟨fun pins s σ H Q I hw => by
  obtain ⟨M, h1, h2⟩ := hw
  exact thn (h.run pins s σ H M I h1) fun b s' ⟨H', I', m⟩ => ⟨H', I', h2 b H' m⟩⟩
theorem r_post {t : TT} {σ : S0} {H : Hp} {Q : Bool → Hp → Prop} (M : Bool → Hp → Prop) (h : t σ H M) (h2 : ∀ b H1, M b H1 → Q b H1) : tPost t σ H Q := ⟨M, h, h2⟩
end Rd

set_option Elab.async false
set_option linter.all false
set_option maxRecDepth 100000
set_option maxHeartbeats 4000000
/-! lambdas with or without a default, handed to a def that keeps what they raise -/
namespace PySem.W
open PySem PySem.Spec PySem.Calls PyProof.Rows
abbrev rd_fn (name qual : Str) (params : Arguments) (body : Expr) (scope : Scope) (cl : List (Str × Addr)) (pm cdv ct dV : Value) : FuncData :=
  { name, qualname := qual, params, body := .expr body, scope, globals := mainGlobals, closure := cl, defaults := dV, kwdefaults := .none, doc := .none, pyModule := pm, annotations := none, code := cdv, closureTuple := ct, builtins := builtinsNs }
abbrev rd_obj (name qual : Str) (params : Arguments) (body : Expr) (scope : Scope) (clos : List (Str × Addr)) (pm : Value) (c' : Addr) (ctv dV : Value) : Obj :=
  { cls := .type "function", data := .func (rd_fn name qual params body scope clos pm (.ref c') ctv dV) }
section
variable {M : Model} {A : Around} {E : Value → Shared → Prop} {s : Shared} {name qual : Str} {params : Arguments} {body : Expr} {scope : Scope} {env : Env} {c P : Addr} {ps : Array Value} {pos : Pos} {firstLine : Nat} {mg : Str → Option Value}
  {clos : List (Str × Addr)} {Q : Value → Shared → Prop} {dV : Value}
theorem rd_makeTail (hcl : closureFor scope env = pure clos) (hge0 : env.globals = mainGlobals) (hg : s.heap.Ns mainGlobals mg) (hcode : env.code = .ref c) (C : CodeHd s.heap c P) (hP : s.heap.get? P = some (tabObj ps)) (ht : TriplesOk ps.toList)
    (hnf : codeAmong pos ps.toList = none) (hgP : mainGlobals ≠ P) (hb : s.heap.BuiltinsAt mg P)
    (h : ∀ c' ctv h' tk, Heap.ExtBut P s.heap h' → s.heap.objs.size ≤ c' → c' < h'.objs.size → h'.CodeRec (.ref c') qual → h'.get? P = some (tabObj (ps ++ #[rawInt pos.line, rawInt pos.col, .ref c'])) →
      Q (.ref h'.objs.size) { s with heap := h'.push (rd_obj name qual params body scope clos ((mg "__name__").getD .none) c' ctv dV), toks := tk }) :
    wpAny M A (makeTail name qual params (.expr body) scope env dV .none none pos firstLine) Q E s := by
  obtain ⟨bm, ob, hbm, hne0, _, hneP, hbo, hcls, hdict, hdata⟩ := hb
  unfold makeTail
  rw [hcl, hge0]
  refine wpAny_bind (wpAny_pure ?_)
  cases clos with
  | nil =>
    simp only [List.isEmpty_nil, if_true]
    refine wpAny_bind (wpAny_pure ?_)
    refine wpAny_bind (wpAny_functionCodeX hcode (C.code hP ht) (C.tab hP) hnf fun c' h' tk hx hge hlt _ hrec htb _ => ?_)
    have hg' := hg.extBut hx hgP
    refine wpAny_bind (wpAny_builtinsFor hg' hbm hne0 (hx _ _ hneP hbo) hcls hdict hdata ?_)
    refine wpAny_bind (wpAny_nsGet hg' ?_)
    exact wpAny_bind (wpAny_pure (wpAny_newObj_type (h c' .none h' tk hx hge hlt hrec htb.2) (by size_fits)))
  | cons q r =>
    simp only [List.isEmpty_cons, Bool.false_eq_true, if_false]
    refine wpAny_bind (wpAny_newTextTuple ?_)
    refine wpAny_bind (wpAny_functionCodeX hcode ((C.keeps fun b o e => Heap.get?_push_of_some _ e).code (Heap.get?_push_of_some _ hP) ht) ((C.keeps fun b o e => Heap.get?_push_of_some _ e).tab (Heap.get?_push_of_some _ hP)) hnf fun c' h' tk hx hge hlt _ hrec htb _ => ?_)
    have hg' := (hg.push _).extBut hx hgP
    have hx' : Heap.ExtBut P s.heap h' := fun b o hb' e => hx b o hb' (Heap.get?_push_of_some _ e)
    have hge' : s.heap.objs.size ≤ c' := Nat.le_trans (by rw [Heap.size_push]; omega) hge
    refine wpAny_bind (wpAny_builtinsFor hg' hbm hne0 (hx' _ _ hneP hbo) hcls hdict hdata ?_)
    refine wpAny_bind (wpAny_nsGet hg' ?_)
    exact wpAny_bind (wpAny_pure (wpAny_newObj_type (h c' _ h' tk hx' hge' hlt hrec htb.2) (by size_fits)))
theorem rd_makeTailHit {cv : Value} (hcl : closureFor scope env = pure clos) (hge0 : env.globals = mainGlobals) (hg : s.heap.Ns mainGlobals mg) (hcode : env.code = .ref c) (C : CodeHd s.heap c P) (hP : s.heap.get? P = some (tabObj ps)) (ht : TriplesOk ps.toList)
    (hf : codeAmong pos ps.toList = some cv) (hb : s.heap.BuiltinsAt mg P)
    (h : ∀ (ctv : Value) (h' : Heap) (tk : Tok), (∀ b o, s.heap.get? b = some o → h'.get? b = some o) → s.heap.objs.size ≤ h'.objs.size →
      Q (.ref h'.objs.size) { s with heap := h'.push { cls := .type "function", data := .func (rd_fn name qual params body scope clos ((mg "__name__").getD .none) cv ctv dV) }, toks := tk }) :
    wpAny M A (makeTail name qual params (.expr body) scope env dV .none none pos firstLine) Q E s := by
  obtain ⟨bm, ob, hbm, hne0, _, hneP, hbo, hcls, hdict, hdata⟩ := hb
  unfold makeTail
  rw [hcl, hge0]
  refine wpAny_bind (wpAny_pure ?_)
  cases clos with
  | nil =>
    simp only [List.isEmpty_nil, if_true]
    refine wpAny_bind (wpAny_pure ?_)
    refine wpAny_bind (wpAny_functionCode_hit hcode (C.code hP ht) hf ?_)
    refine wpAny_bind (wpAny_builtinsFor hg hbm hne0 hbo hcls hdict hdata ?_)
    refine wpAny_bind (wpAny_nsGet hg ?_)
    exact wpAny_bind (wpAny_pure (wpAny_newObj_type (h .none s.heap s.toks (fun _ _ e => e) (Nat.le_refl _)) (by size_fits)))
  | cons q r =>
    simp only [List.isEmpty_cons, Bool.false_eq_true, if_false]
    refine wpAny_bind (wpAny_newTextTuple ?_)
    refine wpAny_bind (wpAny_functionCode_hit hcode ((C.keeps fun b o e => Heap.get?_push_of_some _ e).code (Heap.get?_push_of_some _ hP) ht) hf ?_)
    refine wpAny_bind (wpAny_builtinsFor (hg.push _) hbm hne0 (Heap.get?_push_of_some _ hbo) hcls hdict hdata ?_)
    refine wpAny_bind (wpAny_nsGet (hg.push _) ?_)
    have hsz : ∀ oT : Obj, s.heap.objs.size ≤ (s.heap.push oT).objs.size := fun oT => by rw [Heap.size_push]; omega
    exact wpAny_bind (wpAny_pure (wpAny_newObj_type (h _ _ s.toks (fun b o e => Heap.get?_push_of_some _ e) (hsz _)) (by size_fits)))
end
end PySem.W
namespace Rd
open PySem PySem.Spec PyProof.Rows L2 LamX
/-- the defaults of a lambda: none, or one whole number -/
def Dfl (params : Arguments) (env : Env) (ds : List V) : Prop := (defaultsOf params env = ([], []) ∧ ds = []) ∨ ∃ (i : Int) (j : Nat) (p : Pos), defaultsOf params env = ([eval (.Constant (.int i) j p) env], []) ∧ ds = [.int i]
def DV (H : Hp) (ds : List V) (dV : Value) : Prop := (ds = [] ∧ dV = .none) ∨ ∃ T, dV = .ref T ∧ H T = some (.tup ds) ∧ ds ≠ []
section
variable {X : Cx} {pins : List (Addr × Obj)} {σ : L2.St} {H HZ : Hp} {s s1 : Shared}
theorem lam_evalD {params : Arguments} {body : Expr} {scope : Scope} {pos : Pos} {ds : List V} {E : Value → Shared → Prop} {Q : Value → Shared → Prop} (I : Inv X pins σ H s) (hdef : Dfl params X.env ds)
    (h : ∀ (H1 : Hp) (s1 : Shared) (dV : Value), Inv X pins σ H1 s1 → (∀ b o, H b = some o → H1 b = some o) → DV H1 ds dV → wpAny (model X.prog X.w) X.A (makeTail "<lambda>" (X.env.qual ++ "<lambda>") params (.expr body) scope X.env dV .none none pos pos.line) Q E s1) :
    wpAny (model X.prog X.w) X.A (eval (.Lambda params body scope pos) X.env) Q E s := by
  rw [arm_eval_Lambda]
  rcases hdef with ⟨hd, rfl⟩ | ⟨i, j, p, hd, rfl⟩
  · rw [hd]
    show wpAny _ _ (do let dv ← evalAll []; let kdv ← holding dv (evalAllOpt []); makeFunction "<lambda>" (X.env.qual ++ "<lambda>") params (.expr body) scope X.env dv kdv [] pos pos.line) Q E s
    refine wpAny_bind (wpAny_pure (wpAny_bind (wpAny_holding (wpAny_pure ?_))))
    rw [makeFunction_eq]
    simp only [List.zip_nil_right, List.filterMap_nil, List.isEmpty_nil, if_true, pure_bind]
    exact h H s .none I (fun _ _ e => e) (.inl ⟨rfl, rfl⟩)
  · rw [hd]
    show wpAny _ _ (do let dv ← (do let v ← eval (.Constant (.int i) j p) X.env; return v :: (← holding [v] (evalAll []))); let kdv ← holding dv (evalAllOpt []); makeFunction "<lambda>" (X.env.qual ++ "<lambda>") params (.expr body) scope X.env dv kdv [] pos pos.line) Q E s
    refine wpAny_bind (wpAny_bind (wpAny_Constant_int ?_))
    refine wpAny_bind (wpAny_holding (wpAny_pure (wpAny_pure ?_)))
    refine wpAny_bind (wpAny_holding (wpAny_pure ?_))
    rw [makeFunction_eq]
    simp only [List.zip_nil_right, List.filterMap_nil, List.isEmpty_nil, List.isEmpty_cons, Bool.false_eq_true, if_false, if_true, pure_bind]
    refine wpAny_bind (wpAny_newTextTuple ?_)
    have I1 : Inv X pins σ (upd H s.heap.objs.size (.tup [.int i])) _ := I.laid (t' := s.toks + 1) (o := .tup [.int i]) (h' := s.heap.push { cls := .type "tuple", data := .seq [Value.int i s.toks].toArray }) (fun b ob q => Heap.get?_push_of_some _ q) (Nat.le_refl _) ⟨by show (1 : Nat) ≤ sizeLine; decide, [Value.int i s.toks], .cons ⟨_, rfl⟩ .nil, _, Heap.get?_push_size _ rfl, rfl, _, rfl⟩
    exact h _ _ (.ref s.heap.objs.size) I1 (fun b o e => by rw [upd_ne (ne_of_none e (I.hok.fresh (Nat.le_refl _)))]; exact e) (.inr ⟨_, rfl, upd_same, by simp⟩)
theorem lam_make3 {T : List (Addr × Str)} {c P : Addr} {params : Arguments} {body : Expr} {scope : Scope} {pos : Pos} {ds : List V} {E : Value → Shared → Prop} {Q : Value → Shared → Prop} (I0 : Inv X pins σ H s) (TB : TabB X.base X.mg c P) (hcode : X.env.code = .ref c)
    (hm : (P, X.env.qual ++ "<lambda>") ∈ T) (hu : ∀ p ∈ T, p.1 = P → p.2 = X.env.qual ++ "<lambda>") (hT0 : Tabs T H) (hdef : Dfl params X.env ds) (hfree : ∀ y ∈ scope.names, y.2 = .free → ∃ c, X.env.cells.lookup y.1 = some c)
    (h : ∀ (f c' : Addr) (pm ctv dV : Value) (H1 : Hp) (s' : Shared), Inv X pins σ H1 s' → ExtN H H1 → Tabs T H1 → DV H1 ds dV →
      s'.heap.get? f = some (PySem.W.rd_obj "<lambda>" (X.env.qual ++ "<lambda>") params body scope (cloFrom X.env.cells scope.names []) pm c' ctv dV) → H1 f = none → f ∉ frs X.stack → H1 c' = some (CodeO c' (X.env.qual ++ "<lambda>")) → Q (.ref f) s') :
    wpAny (model X.prog X.w) X.A (eval (.Lambda params body scope pos) X.env) Q E s := by
  refine lam_evalD I0 hdef fun HD sD dV I kD hdv => ?_
  have hT : Tabs T HD := hT0.ext kD
  have dvU : ∀ {H1 : Hp}, ExtN HD H1 → DV H1 ds dV := fun e => by
    rcases hdv with z | ⟨T, e1, e2, e3⟩
    · exact .inl z
    · exact .inr ⟨T, e1, e _ _ e2 (fun ps z => by cases z), e3⟩
  obtain ⟨ps, hP, ht, ha⟩ := hT _ hm
  have bP : sD.heap.BuiltinsAt X.mg P := TB.bm.keeps I.bk
  have hP' : sD.heap.get? P = some { cls := .none, data := .fields ps } := I.hok P _ hP
  have nofr : ∀ f, sD.heap.objs.size ≤ f → f ∉ frs X.stack := fun f hf z => by
    rcases List.mem_cons.mp (I.stkSub _ z) with e | e
    · have h1 := I.lt
      rw [← e] at h1
      exact Nat.lt_irrefl _ (Nat.lt_of_lt_of_le h1 hf)
    · exact I.nofs hf e
  have ext0 : ExtN H HD := ExtN.of kD
  cases hc : codeAmong pos ps.toList with
  | none =>
    refine PySem.W.rd_makeTail (mg := X.mg) (c := c) (P := P) (ps := ps) (closure_ok hfree) I.ok.glob (I.mod.glob.keeps I.bk) hcode (TB.code.keeps I.bk) hP' ht hc TB.gP bP fun c' ctv h' tk hx hge hlt hrec htb => ?_
    obtain ⟨c2, oc, vs, t, e2, hoc, hd, hv⟩ := hrec
    cases e2
    have hsz : sD.heap.objs.size ≤ h'.objs.size := Nat.le_trans hge (Nat.le_of_lt hlt)
    have nC : HD c' = none := I.hok.fresh hge
    have I1 := inv_table (t' := tk) (more := #[rawInt pos.line, rawInt pos.col, .ref c']) (h' := h'.push (PySem.W.rd_obj "<lambda>" (X.env.qual ++ "<lambda>") params body scope (cloFrom X.env.cells scope.names []) ((X.mg "__name__").getD .none) c' ctv dV)) I hP
      (fun b o hb e => Heap.get?_push_of_some _ (hx b o hb e)) (Heap.get?_push_of_some _ htb) hge ⟨oc, vs, t, Heap.get?_push_of_some _ hoc, hd, hv⟩
    have hE : ExtN HD (upd (upd HD P (.tbl (ps ++ #[rawInt pos.line, rawInt pos.col, .ref c']))) c' (CodeO c' (X.env.qual ++ "<lambda>"))) := fun b o e n => by
      rw [upd_ne (ne_of_none e nC), upd_ne (fun z => n ps (Option.some.inj (e.symm.trans (by rw [z]; exact hP))))]
      exact e
    have eL : (ps ++ #[rawInt pos.line, rawInt pos.col, .ref c']).toList = ps.toList ++ [rawInt pos.line, rawInt pos.col, .ref c'] := by simp
    refine h h'.objs.size c' ((X.mg "__name__").getD .none) ctv dV _ _ I1 (ext0.trans hE) (fun p hp => ?_) (dvU hE) (Heap.get?_push_size _ rfl) ?_ (nofr _ hsz) upd_same
    · by_cases hb : p.1 = P
      · rw [hu p hp hb, hb]
        refine ⟨_, by rw [upd_ne (ne_of_none hP nC), upd_same], by rw [eL]; exact PySem.TriplesOk_snoc _ _ _ _ ht, fun p' cv hcv => ?_⟩
        rw [eL] at hcv
        rcases among_app _ ht hcv with z | z
        · obtain ⟨c0, e1, e2⟩ := ha p' cv z
          exact ⟨c0, e1, hE _ _ e2 codeO_ne⟩
        · exact ⟨c', z, upd_same⟩
      · obtain ⟨ps', a1, a2, a3⟩ := hT p hp
        refine ⟨ps', by rw [upd_ne (ne_of_none a1 nC), upd_ne hb]; exact a1, a2, fun p' cv hcv => ?_⟩
        obtain ⟨c0, e1, e2⟩ := a3 p' cv hcv
        exact ⟨c0, e1, hE _ _ e2 codeO_ne⟩
    · have n1 : h'.objs.size ≠ c' := Nat.ne_of_gt hlt
      have n2 : h'.objs.size ≠ P := Nat.ne_of_gt (Nat.lt_of_lt_of_le (Heap.lt_size hP') hsz)
      rw [upd_ne n1, upd_ne n2]
      exact I.hok.fresh hsz
  | some cv =>
    obtain ⟨c', e, hco⟩ := ha pos cv hc
    subst e
    refine PySem.W.rd_makeTailHit (mg := X.mg) (c := c) (P := P) (ps := ps) (closure_ok hfree) I.ok.glob (I.mod.glob.keeps I.bk) hcode (TB.code.keeps I.bk) hP' ht hc bP fun ctv h' tk hx hsz => ?_
    have I1 : Inv X pins σ HD { sD with heap := h'.push (PySem.W.rd_obj "<lambda>" (X.env.qual ++ "<lambda>") params body scope (cloFrom X.env.cells scope.names []) ((X.mg "__name__").getD .none) c' ctv dV), toks := tk } := I.kept fun b o e => Heap.get?_push_of_some _ (hx b o e)
    exact h h'.objs.size c' ((X.mg "__name__").getD .none) ctv dV HD _ I1 ext0 hT hdv (Heap.get?_push_size _ rfl) (I.hok.fresh hsz) (nofr _ hsz) hco
end
end Rd

set_option Elab.async false
set_option linter.all false
set_option maxRecDepth 100000
set_option maxHeartbeats 4000000
namespace Rd
open PySem PySem.Spec PyProof.Rows L2 LamX
/-- names of its own: none that the maker's N has -/
structure LamS3 (N : List Str) (sc scope : Scope) : Prop where
  kind : scope.kind = .function
  co : scope.isCoroutine = false
  gen : scope.isGenerator = false
  own : ∀ y ∈ scope.names, (y.2 = .local → y.1 ∉ N) ∧ y.2 ≠ .cell
  free : ∀ y ∈ scope.names, y.2 = .free → sc.names.lookup y.1 = some .cell ∨ sc.names.lookup y.1 = some .free
def lamS3B (N : List Str) (sc scope : Scope) : Bool :=
  decide (scope.kind = .function) && !scope.isCoroutine && !scope.isGenerator && scope.names.all fun y => (!decide (y.2 = .local) || !decide (y.1 ∈ N)) && !decide (y.2 = .cell) && (!decide (y.2 = .free) || decide (sc.names.lookup y.1 = some .cell) || decide (sc.names.lookup y.1 = some .free))
theorem lamS3_by {N : List Str} {sc scope : Scope} (h : lamS3B N sc scope = true) : LamS3 N sc scope := by
  unfold lamS3B at h
  simp only [Bool.and_eq_true, Bool.or_eq_true, Bool.not_eq_true', decide_eq_true_eq, decide_eq_false_iff_not, List.all_eq_true] at h
  obtain ⟨⟨⟨h1, h2⟩, h3⟩, h4⟩ := h
  refine ⟨h1, h2, h3, fun y hy => ⟨fun e => ((h4 y hy).1.1).resolve_left (fun z => z e), (h4 y hy).1.2⟩, fun y hy e => ?_⟩
  rcases (h4 y hy).2 with (z | z) | z
  · exact absurd e z
  · exact .inl z
  · exact .inr z
theorem LamS3.has {X : Cx} {scope : Scope} (L : LamS3 X.N X.env.scope scope) (ok : X.Ok) : ∀ y ∈ scope.names, y.2 = .free → ∃ c, X.env.cells.lookup y.1 = some c := fun y hy e => by
  rcases L.free y hy e with k | k
  · exact ok.has _ (.inl k)
  · exact ok.has _ (.inr k)
section
variable {X : Cx} {pins : List (Addr × Obj)} {σ : L2.St} {H HZ : Hp} {s s1 : Shared}
theorem lam_start3 {A : Around} {outer : List Env} {E : XK} {scope : Scope} {f c' : Addr} {h₁ : Heap} {tk : Nat} {bs : List (Str × Value)} (I : Inv X pins σ H s) (L : LamS3 X.N X.env.scope scope) (e0 : Env0 X.prog X.w X.K X.mg X.base A outer s1 HZ) (hd : A.handled = none)
    (un : Un (frs X.stack) [] H HZ s.heap s1.heap) (hns : h₁.Ns s1.heap.objs.size fun y => bs.reverse.lookup y) (kp : ∀ b o, s1.heap.get? b = some o → h₁.get? b = some o) :
    Inv (lamCx X A outer s1 HZ E scope f c') [] σ HZ { s1 with heap := h₁, toks := tk } := by
  have hfree := L.has I.ok
  have cm : ∀ {y c}, (cloFrom X.env.cells scope.names []).lookup y = some c → X.env.cells.lookup y = some c := fun {y c} e => by
    rcases cloFrom_mem (PySem.mem_of_lookup e) with hm | ⟨h1, h2⟩
    · cases hm
    · obtain ⟨c1, hc⟩ := hfree _ h1 rfl
      have hc : X.env.cells.lookup y = some c1 := hc
      have e2 : c = c1 := by
        rw [h2, hc] <;> rfl
      rw [e2]
      exact hc
  have look : ∀ {y}, scope.names.lookup y = some .free → ∃ c, (cloFrom X.env.cells scope.names []).lookup y = some c := fun {y} hl => by
    have hy : (y, NameKind.free) ∈ scope.names := PySem.mem_of_lookup hl
    exact mem_lookup (cloFrom_has (cells := X.env.cells) (acc := []) hy)
  have cellK : ∀ {c : Addr} {v : Option Value}, H c = none → s.heap.IsCell c v → h₁.IsCell c v := fun {c v} n ⟨o, ho, hd⟩ => by
    obtain ⟨sl, q⟩ := un.any ho n (by simp)
    exact ⟨_, kp _ _ q, hd⟩
  have noA : ∀ b : Addr, b ∉ (lamCx X A outer s1 HZ E scope f c').ex := fun b z => absurd (show b ∈ ([] : List Addr) from z) (by simp)
  refine ⟨⟨e0.mod, L.kind, rfl, rfl, Nat.le_refl _, fun y z c e1 e2 => I.ok.inj y z c (cm e1) (cm e2), fun y hy => ?_, fun y c z _ => ?_, fun _ => hd, Around.frames_deeper e0.frames, .inr ⟨rfl, rfl⟩, fun b z => absurd z (noA b), e0.bs, e0.bsz, fun b _ _ => noA b,
      fun b z => absurd z (noA b), e0.funs, e0.frf⟩,
    rfl, e0.bare, Un.kept kp, ⟨_, hns, fun i y v e1 e2 e3 => ?_⟩, fun y c e => ?_, e0.hok.fresh (Nat.le_refl _), fun y c e => ?_, fun q hq => absurd (show q ∈ ([] : List (Addr × Obj)) ++ [] from hq) (by simp), e0.hok.kept kp, I.len⟩
  · have hy : scope.names.lookup y = some .cell ∨ scope.names.lookup y = some .free := hy
    rcases hy with hy | hy
    · exact absurd rfl (L.own _ (PySem.mem_of_lookup hy)).2
    · exact look hy
  · have z : false = true := z
    cases z
  · have e3 : Vis scope y := e3
    rcases e3 with k | k | k
    · exact absurd (List.mem_of_getElem? e1) ((L.own _ (PySem.mem_of_lookup k)).1 rfl)
    · exact absurd rfl (L.own _ (PySem.mem_of_lookup k)).2
    · obtain ⟨m, hn, hl⟩ := I.loc
      have hvis : Vis X.env.scope y := (L.free _ (PySem.mem_of_lookup k) rfl).elim (fun k => .inr (.inl k)) (fun k => .inr (.inr k))
      obtain ⟨w', r, q⟩ := hl i y v e1 e2 hvis
      obtain ⟨c2, h2⟩ := look k
      refine ⟨w', r, .inr ⟨.inr k, c2, h2, ?_⟩⟩
      have c1 := cm h2
      rcases q with ⟨k', _⟩ | ⟨_, c3, e', z⟩
      · have k' : X.env.scope.names.lookup y = some .local := k'
        rcases L.free _ (PySem.mem_of_lookup k) rfl with k2 | k2 <;> rw [show X.env.scope.names.lookup y = _ from k2] at k' <;> cases k'
      · rw [c1] at e'
        cases e'
        exact cellK (I.freeC y _ c1) z
  · obtain ⟨w', z⟩ := I.cell y c (cm e)
    exact ⟨w', cellK (I.freeC y c (cm e)) z⟩
  · obtain ⟨v, o, ho, hd⟩ := I.cell y c (cm e)
    exact un.free c o ho (I.freeC y c (cm e)) (by simp)
/-- how a call without arguments binds: nothing, or the one default to a name of its own -/
def LBind (params : Arguments) (body : Expr) (scope : Scope) (ds : List V) : Prop :=
  (ds = [] ∧ ∀ (q : Str) (cl : List (Str × Addr)) (pm cv ctv : Value), bindArgs (PySem.W.rd_fn "<lambda>" q params body scope cl pm cv ctv .none) ⟨[], []⟩ = pure []) ∨
  ds ≠ [] ∧ ∃ a : Str, scope.names.lookup a = some .local ∧ ∀ (q : Str) (cl : List (Str × Addr)) (pm cv ctv : Value) (T : Addr), ∃ k : Option (Array Value) → Sem (List (Str × Value)), bindArgs (PySem.W.rd_fn "<lambda>" q params body scope cl pm cv ctv (.ref T)) ⟨[], []⟩ = seqItems? (.ref T) >>= k ∧ ∀ v : Value, k (some #[v]) = pure [(a, v)]
theorem cx_mono {P : Program} {w : World} {outer : List Env} {H : Hp} {s : Shared} {E E' : XK} {e : Value} {s' : Shared} (h : ∀ cls d H', E cls d H' → E' cls d H') (q : L2.CX P w outer H s E e s') : L2.CX P w outer H s E' e s' := by
  obtain ⟨a1, a2, a3, a4, a5, a6, a7, a8, a9, a10, a11, a12, z⟩ := q
  exact ⟨a1, a2, a3, a4, a5, a6, a7, a8, a9, a10, a11, a12, h _ _ _ z⟩
/-- x(), in the def that got the lambda; what it lets out is told at the values of that place -/
theorem pe_act3 {CXg : CXT} {Eg : XK} {Ng : List Str} {qg : Str} {sg : Scope} {g f c' : Addr} {cdg pm ctv dV : Value} {params : Arguments} {body : Expr} {scope : Scope} {ds : List V} {k i : Nat} {a : Str} {pn : List (Addr × Obj)} {xe : Value → Shared → Prop} {W : WX} {tb : XK → TE} {p1 p2 : Pos}
    (I : Inv X pins σ H s) (L : LamS3 X.N X.env.scope scope) (hf : s.heap.get? f = some (PySem.W.rd_obj "<lambda>" (X.env.qual ++ "<lambda>") params body scope (cloFrom X.env.cells scope.names []) pm c' ctv dV)) (hfn : H f = none) (hfr : f ∉ frs X.stack)
    (hbind : LBind params body scope ds) (hds : ds.length ≤ 1) (hdv : DV H ds dV)
    (tk : Takes ((cxOf CXg X.prog X.w X.K X.mg X.base Ng qg sg g cdg X.A X.stack s H Eg).tr pn xe) W) (hr : Room (k + 1) (X.A.deeper (envOfC qg sg s.heap.objs.size g cdg)))
    (hbody : ∀ (A : Around) (outer : List Env) (s : Shared) (H : Hp) (E : XK), Room k (A.deeper (lamEnv X scope s.heap.objs.size f c')) → PE (lamCx X A outer s H E scope f c') body (tb E))
    (hN : Ng[i]? = some a) (hv : Vis sg a) (hd : (a == ("__debug__" : Str)) = false := by decide) (hcd : (a == ("__classdict__" : Str)) = false := by decide) :
    PE ((cxOf CXg X.prog X.w X.K X.mg X.base Ng qg sg g cdg X.A X.stack s H Eg).tr pn xe) (.Call (.Name a p1) [] [] p2)
      (fun σZ HZ Q => σZ[i]? = some (some (.ref f)) ∧ HZ c' = some (CodeO c' (X.env.qual ++ "<lambda>")) ∧ DV HZ ds dV ∧ ∃ (E0 : XK) (Q0 : VK), tb E0 σ HZ Q0 ∧ (∀ cls d H', E0 cls d H' → W cls d σZ H') ∧ ∀ v H', Q0 v H' → Q v H') := by
  refine ⟨fun pinsZ sZ σZ HZ Q IZ h => ?_⟩
  obtain ⟨hs, hc, hdZ, E0, Q0, ht, hE0, hQ0⟩ := h
  refine wpAny_Call_Name_kw (thn ((pe_var (pos := p1) (i := i) hN hv hd hcd).run pinsZ sZ σZ HZ (fun v H1 => v = .ref f ∧ H1 = HZ) IZ ⟨.ref f, hs, rfl, rfl⟩) fun u s1 ⟨v, H1, I1, r1, q1⟩ => ?_)
  obtain ⟨ev, eH⟩ := q1
  subst ev
  rw [eH] at I1
  obtain rfl : u = Value.ref f := r1
  have of1 : s1.heap.get? f = some (PySem.W.rd_obj "<lambda>" (X.env.qual ++ "<lambda>") params body scope (cloFrom X.env.cells scope.names []) pm c' ctv dV) := I1.base.keep f _ hf hfn hfr (fun z => nomatch (show f ∈ ([] : List Addr) from z))
  refine PySem.W.callWith_F0 ⟨_, _, _, _, of1⟩ ?_
  have un : Un (frs X.stack) [] H HZ s.heap s1.heap := I1.base
  obtain ⟨⟨oc, vs, t, hoc, hdc, hvc⟩, _, _⟩ := I1.hok c' _ hc
  have rc : codeAny (model X.prog X.w) (X.A.deeper (envOfC qg sg s.heap.objs.size g cdg)) (.call (.ref f) ⟨[], []⟩) (CR (L2.CX X.prog X.w) (envOfC qg sg s.heap.objs.size g cdg :: X.stack) X.prog X.w HZ s1 Q0 E0) s1 := by
    refine PySem.W.kla_callFunE hr.depth of1 rfl L.co L.gen rfl ⟨c', oc, vs, t, rfl, hoc, hdc, hvc⟩ ?_
    have go : ∀ (bs : List (Str × Value)), (∀ y ∈ bs, scope.names.lookup y.1 = some .local) → wpAny (model X.prog X.w) ((X.A.deeper (envOfC qg sg s.heap.objs.size g cdg)).in1)
        (newFunctionEnv scope mainGlobals (cloFrom X.env.cells scope.names []) bs ((X.env.qual ++ "<lambda>") ++ ".<locals>.") (some f) (.ref c') none builtinsNs)
        (fun env s₂ => s₂.heap.NoLimit ∧ codeAny (model X.prog X.w) (X.A.deeper (envOfC qg sg s.heap.objs.size g cdg)) (.expr body env) (CR (L2.CX X.prog X.w) (envOfC qg sg s.heap.objs.size g cdg :: X.stack) X.prog X.w HZ s1 Q0 E0) s₂) (fun e s' => CR (L2.CX X.prog X.w) (envOfC qg sg s.heap.objs.size g cdg :: X.stack) X.prog X.w HZ s1 Q0 E0 (.error e) s') s1 := fun bs hbs => by
      refine wpAny_newFunctionEnv (fun y hy => (L.own y hy).2) hbs (fun h₁ hns hsb => ⟨I1.nolimit.fresh _ hsb, ?_⟩) L.kind
      show codeAny _ _ (.expr body (lamEnv X scope s1.heap.objs.size f c')) _ _
      have kp : ∀ b o, s1.heap.get? b = some o → h₁.get? b = some o := fun b o e => hsb.extBut b o (Nat.ne_of_lt (Heap.lt_size e)) (Heap.get?_push_of_some _ e)
      have J : Inv (lamCx X (X.A.deeper (envOfC qg sg s.heap.objs.size g cdg)) (envOfC qg sg s.heap.objs.size g cdg :: X.stack) s1 HZ E0 scope f c') [] σ HZ { s1 with heap := h₁, toks := s1.toks + bs.length } :=
        lam_start3 I L I1.env0 hr.hd un hns kp
      refine PySem.W.kla_codeExpr (wpAny_mono ((hbody _ _ s1 HZ _ (hr.deeper _)).run [] _ _ HZ Q0 J ht) (fun v s' hq => ?_) fun e s' hq => hq)
      obtain ⟨w', H', J', rv, q⟩ := hq
      exact ⟨w', H', J'.os, J'.bare, J'.base, J'.hok, rv, q⟩
    rcases hbind with ⟨rfl, hb⟩ | ⟨hne, a2, hl2, hb⟩
    · rcases hdv with ⟨_, rfl⟩ | ⟨_, _, _, z⟩
      · rw [hb]
        exact wpAny_pure (go [] fun y hy => absurd hy (by simp))
      · exact absurd rfl z
    · rcases hdZ with ⟨rfl, rfl⟩ | ⟨T, rfl, hT, _⟩
      · exact absurd rfl hne
      · obtain ⟨_, its, rv, o, h1, h2, n, h3⟩ := (show ObjOk X.prog X.w HZ s1.heap T (.tup ds) from I1.hok T _ hT)
        obtain ⟨v, rfl⟩ : ∃ v, its = [v] := by
          have hl := rv.length
          match ds, its, hds, hne, hl with
          | [d], [v], _, _, _ => exact ⟨v, rfl⟩
          | [], _, _, hne, _ => exact absurd rfl hne
        obtain ⟨k, e1, e2⟩ := hb (X.env.qual ++ "<lambda>") (cloFrom X.env.cells scope.names []) pm (.ref c') ctv T
        rw [e1]
        refine wpAny_bind (wpAny_seqItems h1 h3 ?_)
        rw [show (List.toArray [v]) = #[v] from rfl, e2]
        exact wpAny_pure (go [(a2, v)] fun y hy => by rw [List.mem_singleton.mp hy]; exact hl2)
  refine wpAny_call (codeAny_mono rc fun r s' hq => ?_)
  cases r with
  | error e => exact passAt tk σZ pinsZ HZ s1 e s' I1 (cx_mono hE0 hq)
  | ok fl =>
    cases fl with
    | ret u =>
      have z := I1.after hq
      obtain ⟨v', H', I', r', q'⟩ := z
      exact ⟨v', H', I', r', hQ0 _ _ q'⟩
    | next => exact False.elim hq
    | brk => exact False.elim hq
    | cont => exact False.elim hq
end
/-- the def that calls what it got and keeps what that raises; TT: what it makes of the lambda's reading -/
def GivesTo3 (X : Cx) (Ng : List Str) (x : Str) (sg : Scope) (g : Addr) (cdg : Value) (bg : List Stmt) (a : Str) (q : Str) (k : Nat) (TT : (XK → Hp → VK → Prop) → Hp → VK → Prop) : Prop :=
  ∀ (f c' : Addr) (ds : List V) (dV : Value) (s : Shared) (H : Hp) (Q : VK) (tl : XK → Hp → VK → Prop),
    (∀ (W : WX) (pn : List (Addr × Obj)) (xe : Value → Shared → Prop) (p1 p2 : Pos), Takes ((cxOf C8.CX0 X.prog X.w X.K X.mg X.base Ng x sg g cdg X.A X.stack s H C8.E0).tr pn xe) W →
      PE ((cxOf C8.CX0 X.prog X.w X.K X.mg X.base Ng x sg g cdg X.A X.stack s H C8.E0).tr pn xe) (.Call (.Name a p1) [] [] p2) (fun σZ HZ Q => σZ[0]? = some (some (.ref f)) ∧ HZ c' = some (CodeO c' q) ∧ DV HZ ds dV ∧ ∃ (E0 : XK) (Q0 : VK), tl E0 HZ Q0 ∧ (∀ cls d H', E0 cls d H' → W cls d σZ H') ∧ ∀ v H', Q0 v H' → Q v H')) →
    Room (k + 1) (X.A.deeper (envOfC x sg s.heap.objs.size g cdg)) →
    H c' = some (CodeO c' q) → DV H ds dV → TT tl H Q →
    ∃ t, PSs (cxOf C8.CX0 X.prog X.w X.K X.mg X.base Ng x sg g cdg X.A X.stack s H C8.E0).nox bg t ∧ t { nx := fun _ H' => Q .non H', rt := Q } (L2.start Ng [.ref f]) H
section
variable {X : Cx}
/-- x(lambda: body) -/
theorem pe_lamcall3 {T : List (Addr × Str)} {TT : (XK → Hp → VK → Prop) → Hp → VK → Prop} {x a : Str} {g c P : Addr} {k : Nat} {pg : Arguments} {bg : List Stmt} {sg : Scope} {dV kV doc pm cdv ct oc : Value} {an od : Option Addr} {osl : Array (Option Value)} {Ng : List Str}
    {params : Arguments} {body : Expr} {scope : Scope} {ds : List V} {t : XK → TE} {p lpos pos : Pos} (hg : Gl X x) (hm : X.mg x = some (.ref g)) (hk : PySem.W.keepIn X.K (.ref g) = true)
    (lk : X.K.lookup g = some ⟨oc, od, .func (PySem.W.fnOf x x pg bg sg dV kV doc pm an cdv ct), osl⟩) (hcg : PySem.W.codeIn X.K cdv x = true) (hb : L2.Binds X.K (PySem.W.fnOf x x pg bg sg dV kV doc pm an cdv ct) [a] []) (Sg : FnScope Ng [a] sg) (hNg : Ng[0]? = some a) (hva : Vis sg a)
    (hG : GivesTo3 X Ng x sg g cdv bg a (X.env.qual ++ "<lambda>") k TT)
    (TB : TabB X.base X.mg c P) (hcode : X.env.code = .ref c) (hmT : (P, X.env.qual ++ "<lambda>") ∈ T) (hu : ∀ p ∈ T, p.1 = P → p.2 = X.env.qual ++ "<lambda>") (hr : Room (k + 2) X.A) (L : LamS3 X.N X.env.scope scope) (hdef : Dfl params X.env ds) (hbind : LBind params body scope ds) (hds : ds.length ≤ 1)
    (hbody : ∀ (A : Around) (outer : List Env) (s : Shared) (H : Hp) (E : XK) (f c' : Addr), Room k (A.deeper (lamEnv X scope s.heap.objs.size f c')) → PE (lamCx X A outer s H E scope f c') body (t E))
    (hdb : (x == ("__debug__" : Str)) = false := by decide) (hd : (a == ("__debug__" : Str)) = false := by decide) (hcd : (a == ("__classdict__" : Str)) = false := by decide) :
    PE X (.Call (.Name x p) [.Lambda params body scope lpos] [] pos) (tLam T TT t) := by
  refine ⟨fun pins s σ H Q I h => ?_⟩
  obtain ⟨hT, h⟩ := h
  refine wpAny_Call_Name_kw (ld_glob I hg hm ?_ hdb)
  refine PySem.W.callWith_K (h₀ := X.base) I.ok.mod.kin hk ?_ (by rfl) (by rfl)
  show wpAny _ _ (spliced ((false, eval (.Lambda params body scope lpos) X.env) :: backTo pos (starEach [] X.env))) _ _ s
  refine Calls.spliced_cons (lam_make3 I TB hcode hmT hu hT hdef (L.has I.ok) fun f c' pm' ctv dV' H1 s' I1 eN T1 hdv hf hfn hfr hco => ?_)
  refine Calls.spliced_nil ⟨I1.kIn, ?_⟩
  have rc : codeAny (model X.prog X.w) X.A (.call (.ref g) ⟨[.ref f], []⟩) (CR C8.CX0 X.stack X.prog X.w H1 s' Q C8.E0) s' := by
    refine run_ofS (N := Ng) (ps := [a]) (us := [.ref f]) (vs := [.ref f]) lk hcg Sg hr I1.env0 (hb s' [.ref f] I1.kIn rfl) (.cons rfl .nil) rfl fun hr' => ?_
    obtain ⟨t', ht', hq'⟩ := hG f c' ds dV' s' H1 Q (fun E H' Q' => t E σ H' Q') (fun W pn xe p1 p2 tk => pe_act3 (i := 0) I1 L hf hfn hfr hbind hds hdv tk hr' (fun A outer s H E hr2 => hbody A outer s H E f c' hr2) hNg hva hd hcd) hr' hco hdv (h H1 eN T1)
    exact ⟨t', ht'.nox, hq'⟩
  refine wpAny_call (codeAny_mono rc fun r s2 hq => ?_)
  cases r with
  | error e => exact (show False from hq).elim
  | ok fl =>
    cases fl with
    | ret u => exact I1.after hq
    | next => exact False.elim hq
    | brk => exact False.elim hq
    | cont => exact False.elim hq
end
theorem cxnK {CX : CXT} {P : Program} {w : World} {K : PySem.W.Frag} {mg : Str → Option Value} {base : Heap} {N : List Str} {q : Str} {sc : Scope} {g : Addr} {cdv : Value} {A : Around} {outer : List Env} {s : Shared} {H : Hp} {E : XK} : (cxOf CX P w K mg base N q sc g cdv A outer s H E).nox.K = K := rfl
end Rd

set_option Elab.async false
set_option linter.all false
set_option maxRecDepth 100000
set_option maxHeartbeats 4000000
namespace Rd
open PySem PySem.Spec PyProof.Rows L2 LamX
section
variable {X : Cx} {k : Nat} {x : Str} {f : Addr} {fd : FuncData} {ps ks : List Str} {sp : Sp} {E : XK} {g : List Value → List Value → List Value} {gV : List V → List V → List V} {kws : List Keyword} {p pos : Pos} {tk : TA}
/-- f(k = v, ..): keywords alone -/
theorem pe_callK0 (F : FnOk X.prog X.w X.K X.mg X.base (L2.CX X.prog X.w) k f fd ps sp) (hr : Room k X.A) (hg : Gl X x) (hm : X.mg x = some (.ref f)) (hk : PySem.W.keepIn X.K (.ref f) = true) (hb : KBinds X.K fd ps ks g gV) (hx : Passes (L2.CX X.prog X.w) X E)
    (hkw : PK X kws tk) (hall : (backToKw pos (keywordEach kws X.env)).all (·.1.isSome) = true := by rfl) (hks : (backToKw pos (keywordEach kws X.env)).filterMap (·.1) = ks := by rfl)
    (hdb : (x == ("__debug__" : Str)) = false := by decide)
    (hpl : ((backTo pos (starEach [] X.env)).any (·.1) || (backToKw pos (keywordEach kws X.env)).any (·.1.isNone)) = false := by rfl) :
    PE X (.Call (.Name x p) [] kws pos) (tCallK sp gV E tNil tk) := by
  refine ⟨fun pins s σ H Q I h => ?_⟩
  refine wpAny_Call_Name_kw (ld_glob I hg hm ?_ hdb)
  refine PySem.W.callWith_KW0 (h₀ := X.base) I.ok.mod.kin hk hall (thn (hkw.run pos pins s σ H _ I h) fun ws s2 ⟨zs, H2, I2, rz, q2⟩ => ⟨I2.kIn, ?_⟩) hpl
  rw [hks]
  exact run_fnk F hr hb hx I2 .nil rz q2
end
section
variable {P : Program} {w : World} {K : PySem.W.Frag} {mg : Str → Option Value} {base : Heap} {x qual : Str} {params : Arguments} {body : List Stmt} {scope : Scope} {dvs : List V} {kws : List (Str × V)} {f : Addr} {fd : FuncData}
/-- the rule for a def, its code object told -/
theorem okC {CX : CXT} {N ps : List Str} {k : Nat} {sp : Sp} (F : FunD K x qual params body scope dvs kws f fd) (S : FnScope N ps scope) (len : ∀ vs H Q E, sp vs H Q E → vs.length = ps.length)
    (hbody : ∀ (cdv : Value) (A : Around) (outer : List Env) (s : Shared) (H : Hp) (vs : List V) (Q : VK) (E : XK), fd.code = cdv → Room k (A.deeper (envOfC qual scope s.heap.objs.size f cdv)) → sp vs H Q E →
      ∃ t, PSs (cxOf CX P w K mg base N qual scope f cdv A outer s H E) body t ∧ t { nx := fun _ H' => Q .non H', rt := Q } (start N vs) H) : FnOk P w K mg base CX (k + 1) f fd ps sp := by
  obtain ⟨oc, od, dV, kV, doc, pm, an, cdv, ct, osl, rfl, lk, hcd, _, _⟩ := F.ex
  exact fn_of lk hcd S len fun A outer s H vs Q E hr hsp => hbody cdv A outer s H vs Q E rfl hr hsp
end
/-- a lambda's reading -/
theorem r_lam {T : List (Addr × Str)} {TT : (XK → Hp → VK → Prop) → Hp → VK → Prop} {t : XK → TE} {σ : S0} {H : Hp} {Q : VK} (hT : Tabs T H) (h : ∀ H1, ExtN H H1 → Tabs T H1 → TT (fun E H' Q' => t E σ H' Q') H1 Q) : tLam T TT t σ H Q := ⟨hT, h⟩
theorem r_callK {sp : Sp} {gV : List V → List V → List V} {E : XK} {t tk : TA} {σ : S0} {H : Hp} {Q : VK} (h : t σ H fun vs H1 => tk σ H1 fun zs H2 => sp (gV vs zs) H2 Q E) : tCallK sp gV E t tk σ H Q := h
/-- what one may rely on behind a lambda call: all but the tables -/
def KpT (S : List Addr) (P : Addr) (H H' : Hp) : Prop := ∀ b o, b ∉ S → b ≠ P → H b = some o → H' b = some o
theorem KpT.of {P : Addr} {H H' : Hp} {S : List Addr} (k : Kp S H H') : KpT S P H H' := fun b o hb _ h => k b o hb h
theorem KpT.trans {P : Addr} {H H1 H2 : Hp} {S : List Addr} (a : KpT S P H H1) (b : KpT S P H1 H2) : KpT S P H H2 := fun x o n m h => b x o n m (a x o n m h)
theorem tabs_kp {T : List (Addr × Str)} {H H' : Hp} (t : Tabs T H) (k : Kp [] H H') : Tabs T H' := t.ext fun b o h => k b o (by simp) h
def rJoinQ (K : PySem.W.Frag) : V → List V → Hp → VK → Prop := fun x xs H Q => ∃ a p, ∃ ys : List Str, x = .str a ∧ xs = [.ref p] ∧ (SqL K H p (ys.map V.str) ∨ SqT K H p (ys.map V.str)) ∧ (ys.map (·.length)).sum + ys.length * a.length ≤ 16777216 ∧ Q (.str (Txt.join a ys)) H
theorem pe_join_ {X : Cx} {K : PySem.W.Frag} {o e : Expr} {to te : TE} {apos pos : Pos} (ho : PE X o to) (he : PE X e te) (h : X.K = K := by rfl) (hs : starEach [e] X.env = [(false, eval e X.env)] := by rfl) (hbase : attributeBase o "join" X.env (eval o X.env) = eval o X.env := by rfl) (hline : (apos.endLine == pos.line) = true := by rfl) :
    PE X (.Call (.Attribute o "join" apos) [e] [] pos) (tM1 (rJoinQ K) to te) := by
  subst h
  exact pe_join ho he hs hbase hline
end Rd

set_option Elab.async false
set_option linter.all false
set_option maxRecDepth 100000
set_option maxHeartbeats 4000000
namespace K34
open PySem Rd
def rotsN (n : Nat) (l : List Int) : List (List Int) := (List.range n).map fun i => l.drop i ++ l.take i
def imgs (l : List Int) : List (List Int) := rotsN (max 1 l.length) l ++ rotsN (max 1 l.length) l.reverse
def minOf : List (List Int) → List Int
  | [] => []
  | x :: xs => leastI x xs
def leastRing (l : List Int) : List Int := minOf (imgs l)
end K34

set_option Elab.async false
set_option linter.all false
set_option maxRecDepth 100000
set_option maxHeartbeats 4000000
set_option pp.maxSteps 1200
local macro_rules | `(tactic| walk_at "side") => `(tactic| first
  | exact rfl
  | omega
  | exact ⟨by omega, by omega⟩
  | exact Or.inl ⟨by omega, by omega⟩
  | exact Or.inr ⟨by omega, by omega⟩
  | exact ⟨by decide, by decide, by decide⟩
  | exact ⟨by omega, by omega, by omega⟩
  | decide)
local macro_rules | `(tactic| walk_at "ne") => `(tactic| first
  | assumption
  | (apply Ne.symm; assumption)
  | exact L2.ne_of_none ‹_› ‹_›
  | exact (L2.ne_of_none ‹_› ‹_›).symm)
local macro_rules | `(tactic| walk_at "hp") => `(tactic| first
  | assumption
  | exact L2.upd_same
  | (refine (L2.upd_ne ?n).trans ?r; (case n => walk_at "ne"); (case r => walk_at "hp"))
  | (refine Rd.Kp.get ?k ?r; (case k => assumption); (case r => walk_at "hp")))
local macro_rules | `(tactic| walk_at "nn") => `(tactic| first
  | assumption
  | exact (Rd.nu ‹_›).2
  | (refine Rd.Kp.none ?k ?h; (case k => assumption); (case h => assumption)))
local macro_rules | `(tactic| walk_at "kp") => `(tactic| first
  | exact Rd.Kp.refl _ _
  | assumption
  | (refine' Rd.Kp.new ?a ?n; (case n => assumption); (case a => walk_at "kp"))
  | (refine' Rd.Kp.own ?a ?n; (case n => walk_at "nn"); (case a => walk_at "kp"))
  | (refine' Rd.Kp.put ?a ?n; (case n => simp); (case a => walk_at "kp"))
  | (refine' Rd.Kp.trans ?a ?b; (case b => assumption); (case a => walk_at "kp")))
local macro_rules | `(tactic| walk_at "kit") => `(tactic| first
  | exact Rd.kt_NoneType_int
  | exact Rd.kt_NoneType_bool
  | exact Rd.kt_NoneType_str
  | exact Rd.kt_NoneType_list
  | exact Rd.kt_NoneType_tuple
  | exact Rd.kt_NoneType_dict
  | exact Rd.kt_bool_int
  | exact Rd.kt_bool_bool
  | exact Rd.kt_bool_str
  | exact Rd.kt_bool_list
  | exact Rd.kt_bool_tuple
  | exact Rd.kt_bool_dict
  | exact Rd.kt_int_int
  | exact Rd.kt_int_bool
  | exact Rd.kt_int_str
  | exact Rd.kt_int_list
  | exact Rd.kt_int_tuple
  | exact Rd.kt_int_dict
  | exact Rd.kt_str_int
  | exact Rd.kt_str_bool
  | exact Rd.kt_str_str
  | exact Rd.kt_str_list
  | exact Rd.kt_str_tuple
  | exact Rd.kt_str_dict
  | exact Rd.kt_list_int
  | exact Rd.kt_list_bool
  | exact Rd.kt_list_str
  | exact Rd.kt_list_list
  | exact Rd.kt_list_tuple
  | exact Rd.kt_list_dict
  | exact Rd.kt_tuple_int
  | exact Rd.kt_tuple_bool
  | exact Rd.kt_tuple_str
  | exact Rd.kt_tuple_list
  | exact Rd.kt_tuple_tuple
  | exact Rd.kt_tuple_dict
  | exact Rd.kt_dict_int
  | exact Rd.kt_dict_bool
  | exact Rd.kt_dict_str
  | exact Rd.kt_dict_list
  | exact Rd.kt_dict_tuple
  | exact Rd.kt_dict_dict
  | assumption)
local macro_rules | `(tactic| walk_at "ty") => `(tactic| first
  | exact .base (.int _)
  | exact .base (.str _)
  | exact .base (.bl _)
  | exact .base .non
  | (refine .base (.lst ?h); (case h => walk_at "hp"))
  | (refine .base (.tup ?h); (case h => walk_at "hp"))
  | assumption)
local macro_rules | `(tactic| walk_at "rd") => `(tactic| repeat' (first
  | with_reducible refine' Rd.r_seq ?_
  | ((with_reducible refine' Rd.r_var ?h1 ?_); (case h1 => exact rfl))
  | with_reducible refine' Rd.r_c ?_
  | with_reducible refine' Rd.r_op ?_
  | with_reducible refine' Rd.r_un ?_
  | with_reducible refine' Rd.r_U ?_
  | with_reducible refine' Rd.r_I0 ?_
  | ((with_reducible refine' Rd.r_I ?hI ?_); (case hI => walk_at "side"))
  | ((with_reducible refine' Rd.r_eq ?hS ?_); (case hS => exact rfl))
  | ((with_reducible refine' Rd.r_ne ?hS ?_); (case hS => exact rfl))
  | with_reducible refine' Rd.r_test ?_
  | with_reducible refine' Rd.r_B ?_
  | with_reducible refine' Rd.r_bl ?_
  | with_reducible refine' Rd.r_not ?_
  | with_reducible refine' Rd.r_and ?_
  | with_reducible refine' Rd.r_or ?_
  | with_reducible refine' Rd.r_ifE ?_
  | with_reducible refine' Rd.r_nil ?_
  | with_reducible refine' Rd.r_cons ?_
  | with_reducible refine' Rd.r_cb ?_
  | with_reducible refine' Rd.r_tup ?_
  | with_reducible refine' Rd.r_lst ?_
  | with_reducible refine' Rd.r_call ?_
  | with_reducible refine' Rd.r_callS ?_
  | with_reducible refine' Rd.r_sl ?_
  | with_reducible refine' Rd.r_nopart ?_
  | with_reducible refine' Rd.r_part ?_
  | with_reducible refine' Rd.r_int ?_
  | with_reducible refine' Rd.r_bm ?_
  | with_reducible refine' Rd.r_bm0 ?_
  | with_reducible refine' Rd.r_m0 ?_
  | with_reducible refine' Rd.r_m1 ?_
  | with_reducible refine' Rd.r_str ?_
  | with_reducible refine' Rd.r_if ?_
  | with_reducible refine' L2.iteT ?_
  | with_reducible refine' L2.iteF ?_
  | with_reducible refine' Rd.iteNT ?_
  | with_reducible refine' Rd.iteNF ?_
  | with_reducible refine' Rd.r_isN0 ?_
  | with_reducible refine' Rd.r_notN0 ?_
  | ((with_reducible refine' Rd.r_isN1 ?hb ?_); (case hb => exact nofun))
  | ((with_reducible refine' Rd.r_notN1 ?hb ?_); (case hb => exact nofun))
  | with_reducible refine' Rd.r_ret ?_
  | with_reducible refine' Rd.r_retN ?_
  | with_reducible refine' Rd.r_next ?_
  | with_reducible refine' Rd.r_break ?_
  | with_reducible refine' Rd.r_cont ?_
  | with_reducible refine' Rd.r_drop ?_
  | with_reducible refine' Rd.r_asg ?_
  | ((with_reducible refine' Rd.r_name ?h2 ?_); (case h2 => exact rfl))
  | with_reducible refine' Rd.r_sub ?_
  | with_reducible refine' Rd.r_tpar ?_
  | ((with_reducible refine' Rd.r_par2 ?h2 ?_); (case h2 => exact rfl))
  | with_reducible refine' Rd.r_for ?_
  | with_reducible refine' Rd.r_iRng1 ?_
  | with_reducible refine' Rd.r_iList ?_
  | with_reducible refine' Rd.r_iTup ?_
  | with_reducible refine' Rd.r_int1 ?_
  | with_reducible refine' Rd.r_intB ?_
  | with_reducible refine' Rd.r_abs ?_
  | ((with_reducible refine' Rd.r_ixLt ?h3 ?h4 ?_); (case h3 => walk_at "hp"); (case h4 => exact rfl))
  | ((with_reducible refine' Rd.r_setL ?h3 ?h4 ?_); (case h3 => walk_at "hp"); (case h4 => exact rfl))
  | ((with_reducible refine' Rd.r_lenL' (Rd.sqL_of ?h3) ?_); (case h3 => walk_at "hp"))
  | ((with_reducible refine' Rd.r_lenS ?h3 ?_); (case h3 => assumption))
  | with_reducible refine' Rd.r_andV ?_
  | with_reducible refine' Rd.r_orV ?_
  | with_reducible refine' Rd.r_notV ?_
  | with_reducible refine' Rd.r_mk ?_
  | ((with_reducible refine' Rd.r_mkX ?h3 ?h4 ?_); (case h3 => exact rfl); (case h4 => decide))
  | ((with_reducible refine' Rd.r_isi ?h3 ?h4 ?h5 ?_); (case h3 => first | exact .ty _ | exact .own _); (case h4 => walk_at "ty"); (case h5 => walk_at "kit"))
  | with_reducible refine' Rd.r_lc ?_
  | with_reducible refine' Rd.r_yes ?_
  | with_reducible refine' Rd.r_iStr ?_
  | with_reducible refine' Rd.r_iEnum ?_
  | with_reducible refine' Rd.r_lc2 ?_
  | with_reducible refine' Rd.r_revT' ?_
  | with_reducible refine' Rd.r_max2 ?_
  | with_reducible refine' Rd.r_fldS ?_
  | ((with_reducible refine' Rd.r_fldI ?h1 ?h2 ?h3 ?h4 ?h5 ?_); (case h1 => exact rfl); (case h2 => walk_at "hp"); (case h3 => assumption); (case h4 => assumption); (case h5 => exact rfl))
  | with_reducible refine' Rd.r_chain ?_
  | with_reducible refine' Rd.r_make ?_
  ))
namespace K34
open PySem PySem.Spec PyProof.Rows L2 Rd
def topS (i : Nat) : Stmt := PySem.Challenge.pw_roundflatwild_k34_texts_of_signatures_wo.main.body.getD i (.Pass ⟨0, 0, 0, 0⟩)
/-- built-in names that the text does not bind -/
structure Gm (mg : Str → Option Value) : Prop where
  isinstance : mg "isinstance" = none
  int : mg "int" = none
  bool : mg "bool" = none
  str : mg "str" = none
  list : mg "list" = none
  tuple : mg "tuple" = none
  abs : mg "abs" = none
  len : mg "len" = none
  max : mg "max" = none
  min : mg "min" = none
  sorted : mg "sorted" = none
  range : mg "range" = none
  enumerate : mg "enumerate" = none
  MOST_ORDER : ∃ u, mg "MOST_ORDER" = some u ∧ RelV (.int 120) u
  MOST_MARKS : ∃ u, mg "MOST_MARKS" = some u ∧ RelV (.int 600) u
  HANDLE : ∃ u, mg "HANDLE" = some u ∧ RelV (.str "o") u
  RING : ∃ u, mg "RING" = some u ∧ RelV (.str "*") u
  CAP : ∃ u, mg "CAP" = some u ∧ RelV (.str "x") u
  NONE : ∃ u, mg "NONE" = some u ∧ RelV (.str "-") u
abbrev Fn (K : PySem.W.Frag) (x : Str) (i : Nat) (dvs : List V) (f : Addr) (fd : FuncData) : Prop := FunD K x x (defArgs (topS i)) (defBody (topS i)) (defScope (topS i)) dvs [] f fd
section
variable {P : Program} {w : World} {K : PySem.W.Frag} {mg : Str → Option Value} {base : Heap}
/-! is_integer -/
def spIsInt : Sp := fun vs H Q _ => ∃ i : Int, vs = [.int i] ∧ Q (.bl true) H
theorem scIsInt : FnScope ["value"] ["value"] (defScope (topS 16)) := ⟨rfl, rfl, rfl, by decide +kernel, rfl, by decide +kernel, by decide +kernel⟩
theorem ok_isInt {f : Addr} {fd : FuncData} (F : Fn K "is_integer" 16 [] f fd) (G : Gm mg) : FnOk P w K mg base (L2.CX P w) 1 f fd ["value"] spIsInt := by
  refine F.ok scIsInt (fun vs H Q E h => ?_) (fun cdv A outer s H vs Q E hr h => ?_)
  · obtain ⟨i, rfl, _⟩ := h
    rfl
  · obtain ⟨i, rfl, q⟩ := h
    refine ⟨_, pss_one (ps_ret (pe_and (pe_callB call_isi (by rfl) G.isinstance bt_isinstance (pa_cons (pv 0) (pa_cons (pe_ty (by rfl) G.int bt_int) pa_nil)))
      (pe_one (pe_not (pe_callB call_isi (by rfl) G.isinstance bt_isinstance (pa_cons (pv 0) (pa_cons (pe_ty (by rfl) G.bool bt_bool) pa_nil))))))), ?_⟩
    walk_at "rd"
    exact q
/-! need_integer -/
def spNeedInt (CN : Addr) : Sp := fun vs H Q E => ∃ (part : Str) (v lo hi : Int), vs = [.str part, .int v, .int lo, .int hi] ∧ (lo ≤ v ∧ v ≤ hi → Q (.int v) H) ∧ (¬ (lo ≤ v ∧ v ≤ hi) → ∀ d, H d = none → E (.ref CN) (some d) (upd H d (.xd [("part", .str part)])))
theorem scNeedInt : FnScope ["part", "value", "least", "most"] ["part", "value", "least", "most"] (defScope (topS 17)) := ⟨rfl, rfl, rfl, by decide +kernel, rfl, by decide +kernel, by decide +kernel⟩
theorem ok_needInt {f CN : Addr} {fd : FuncData} (F : Fn K "need_integer" 17 [.non] f fd) (C_isInt : CalX P w K mg base 1 "is_integer" spIsInt []) (X_BadNumber : ExcX P w K mg base "BadNumber" CN ["part"]) :
    FnOk P w K mg base (L2.CX P w) 3 f fd ["part", "value", "least", "most"] (spNeedInt CN) := by
  refine F.ok scNeedInt (fun vs H Q E h => ?_) (fun cdv A outer s H vs Q E hr h => ?_)
  · obtain ⟨_, _, _, _, rfl, _⟩ := h
    rfl
  · obtain ⟨part, v, lo, hi, rfl, q1, q2⟩ := h
    refine ⟨_, (pss_cons (ps_if (PW.pt (pw_or (pt_not (pt_val (pe_cx C_isInt hr (by decide) (by rfl) pX0 (pa_cons (pv 1) pa_nil)))) (pw_or (pt_cmpR op_lt (pv 1) (pv 2) (nomark _)) (pw_or1 (PW.pt (pw_and (pt_cmpR op_notN1 (pv 3) pe_non (nomark _)) (pw_and1 (pt_cmpR op_gt (pv 1) (pv 3) (nomark _))))))))) (pss_one (ps_raise rfl (takes_of rfl rfl rfl rfl) (pmk_x X_BadNumber hr (by decide) (by rfl) (pa_cons (pv 0) pa_nil)))) pss_nil)
      (pss_one (ps_ret (pv 1)))), ?_⟩
    walk_at "rd"
    refine ⟨v, rfl, ?_⟩
    walk_at "rd"

    refine iteD (fun h1 => ?_) (fun h1 => ?_)
    · walk_at "rd"
      exact q2 (by omega)
    · walk_at "rd"
      refine iteD (fun h2 => ?_) (fun h2 => ?_)
      · walk_at "rd"
        exact q2 (by omega)
      · walk_at "rd"
        exact q1 (by omega)
/-! row_of -/
def spRowOf (K : PySem.W.Frag) : Sp := fun vs H Q _ => ∃ (part : Str) (a : Addr) (xs : List V), vs = [.str part, .ref a] ∧ Sq K H a xs ∧ ∀ p H', H' p = some (.tup xs) → Kp [] H H' → Q (.ref p) H'
theorem scRowOf : FnScope ["part", "value"] ["part", "value"] (defScope (topS 18)) := ⟨rfl, rfl, rfl, by decide +kernel, rfl, by decide +kernel, by decide +kernel⟩
theorem ok_rowOf {f CV : Addr} {fd : FuncData} (F : Fn K "row_of" 18 [] f fd) (G : Gm mg) (X_BadValue : ExcX P w K mg base "BadValue" CV ["part"]) : FnOk P w K mg base (L2.CX P w) 3 f fd ["part", "value"] (spRowOf K) := by
  refine F.ok scRowOf (fun vs H Q E h => ?_) (fun cdv A outer s H vs Q E hr h => ?_)
  · obtain ⟨_, _, _, rfl, _⟩ := h
    rfl
  · obtain ⟨part, a, xs, rfl, ha, q⟩ := h
    refine ⟨_, (pss_cons (ps_if (pt_not (pt_val (pe_callB call_isiT (by rfl) G.isinstance bt_isinstance (pa_cons (pv 1) (pa_cons (pe_tup (pa_cons (pe_ty (by rfl) G.list bt_list) (pa_cons (pe_ty (by rfl) G.tuple bt_tuple) pa_nil))) pa_nil))))) (pss_one (ps_raise rfl (takes_of rfl rfl rfl rfl) (pmk_x X_BadValue hr (by decide) (by rfl) (pa_cons (pv 0) pa_nil)))) pss_nil)
      (pss_one (ps_ret (pe_callTy c_tupOf (by rfl) G.tuple bt_tuple (pa_cons (pv 1) pa_nil))))), ?_⟩
    walk_at "rd"
    refine ⟨by decide, fun p np => ?_⟩
    walk_at "rd"
    have k1 : Kp [] H (upd H p (.tup [V.ty "list", V.ty "tuple"])) := by walk_at "kp"
    have ha' : Sq K (upd H p (.tup [V.ty "list", V.ty "tuple"])) a xs := ha.elim (fun z => .inl (k1.get z)) fun z => .inr (k1.get z)
    obtain ⟨t, ht, hk⟩ : ∃ t, TyX K (upd H p (.tup [V.ty "list", V.ty "tuple"])) (.ref a) t ∧ (t = .type "list" ∨ t = .type "tuple") := ha'.ty.elim (fun z => ⟨_, z, .inl rfl⟩) fun z => ⟨_, z, .inr rfl⟩
    refine r_isiT upd_same (.cons (.ty _) (.cons (.ty _) .nil)) ht (isLT hk) ?_
    walk_at "rd"
    exact r_tupSq ha' fun l H' h1 h2 => q l H' h1 (k1.trans h2)
/-! need_orders -/
def spNeedOrders (K : PySem.W.Frag) : Sp := fun vs H Q _ => ∃ (part : Str) (a : Addr) (l : List Int), vs = [.str part, .ref a] ∧ Sq K H a (l.map V.int) ∧ (∀ x ∈ l, 2 ≤ x ∧ x ≤ 120) ∧ ∀ p H', H' p = some (.tup (l.map V.int)) → Kp [] H H' → Q (.ref p) H'
theorem scNeedOrders : FnScope ["part", "value", "found", "order"] ["part", "value"] (defScope (topS 23)) := ⟨rfl, rfl, rfl, by decide +kernel, rfl, by decide +kernel, by decide +kernel⟩
theorem ok_needOrders {f CN : Addr} {fd : FuncData} (F : Fn K "need_orders" 23 [] f fd) (G : Gm mg) (C_rowOf : CalX P w K mg base 3 "row_of" (spRowOf K) []) (C_needInt : CalX P w K mg base 3 "need_integer" (spNeedInt CN) []) :
    FnOk P w K mg base (L2.CX P w) 4 f fd ["part", "value"] (spNeedOrders K) := by
  refine F.ok scNeedOrders (fun vs H Q E h => ?_) (fun cdv A outer s H vs Q E hr h => ?_)
  · obtain ⟨_, _, _, rfl, _⟩ := h
    rfl
  · obtain ⟨part, a, l, rfl, ha, hl, q⟩ := h
    have nd := scNeedOrders.nd
    refine ⟨_, (pss_cons (ps_set (i := 2) nd rfl (.inl rfl) (pe_cx C_rowOf hr (by decide) (by rfl) pX0 (pa_cons (pv 0) (pa_cons (pv 1) pa_nil))))
      (pss_cons (ps_for (passes_of rfl) rfl (pi_tup (pv 2)) (pg_name (i := 3) nd rfl (.inl rfl)) (pss_one (ps_expr (pe_cx C_needInt hr (by decide) (by rfl) pX0 (pa_cons (pv 0) (pa_cons (pv 3) (pa_cons pe_int (pa_cons (C8.pe_gc (by rfl) G.MOST_ORDER) pa_nil))))))))
      (pss_one (ps_ret (pv 2))))), ?_⟩
    walk_at "rd"
    refine ⟨part, a, l.map V.int, rfl, ha, fun p H' hp k => ?_⟩
    walk_at "rd"
    refine q_forT l V.int (fun pre σ' H2 => ∃ o, σ' = [some (.str part), some (.ref a), some (.ref p), o] ∧ H2 = H') (sqT_of hp) ⟨_, rfl, rfl⟩ (fun pre σ' H2 h => by obtain ⟨_, _, rfl⟩ := h; exact sqT_of hp) (fun pre x post σ' H2 e h => ?_) (fun σ' H2 h => ?_)
    · obtain ⟨o, rfl, rfl⟩ := h
      walk_at "rd"
      refine ⟨part, x, 2, 120, rfl, fun _ => ?_, fun h => absurd (hl x (by rw [e]; simp)) h⟩
      walk_at "rd"
      exact ⟨_, rfl, rfl⟩
    · obtain ⟨o, rfl, rfl⟩ := h
      walk_at "rd"
      exact q p _ hp k
end
end K34

set_option Elab.async false
set_option linter.all false
set_option maxRecDepth 100000
set_option maxHeartbeats 4000000
set_option pp.maxSteps 1200
local macro_rules | `(tactic| walk_at "side") => `(tactic| first
  | exact rfl
  | omega
  | exact ⟨by omega, by omega⟩
  | exact Or.inl ⟨by omega, by omega⟩
  | exact Or.inr ⟨by omega, by omega⟩
  | exact ⟨by decide, by decide, by decide⟩
  | exact ⟨by omega, by omega, by omega⟩
  | decide)
local macro_rules | `(tactic| walk_at "ne") => `(tactic| first
  | assumption
  | (apply Ne.symm; assumption)
  | exact L2.ne_of_none ‹_› ‹_›
  | exact (L2.ne_of_none ‹_› ‹_›).symm)
local macro_rules | `(tactic| walk_at "hp") => `(tactic| first
  | assumption
  | exact L2.upd_same
  | (refine (L2.upd_ne ?n).trans ?r; (case n => walk_at "ne"); (case r => walk_at "hp"))
  | (refine Rd.Kp.get ?k ?r; (case k => assumption); (case r => walk_at "hp")))
local macro_rules | `(tactic| walk_at "nn") => `(tactic| first
  | assumption
  | exact (Rd.nu ‹_›).2
  | (refine Rd.Kp.none ?k ?h; (case k => assumption); (case h => assumption)))
local macro_rules | `(tactic| walk_at "kp") => `(tactic| first
  | exact Rd.Kp.refl _ _
  | assumption
  | (refine' Rd.Kp.new ?a ?n; (case n => assumption); (case a => walk_at "kp"))
  | (refine' Rd.Kp.own ?a ?n; (case n => walk_at "nn"); (case a => walk_at "kp"))
  | (refine' Rd.Kp.put ?a ?n; (case n => simp); (case a => walk_at "kp"))
  | (refine' Rd.Kp.trans ?a ?b; (case b => assumption); (case a => walk_at "kp")))
local macro_rules | `(tactic| walk_at "kit") => `(tactic| first
  | exact Rd.kt_NoneType_int
  | exact Rd.kt_NoneType_bool
  | exact Rd.kt_NoneType_str
  | exact Rd.kt_NoneType_list
  | exact Rd.kt_NoneType_tuple
  | exact Rd.kt_NoneType_dict
  | exact Rd.kt_bool_int
  | exact Rd.kt_bool_bool
  | exact Rd.kt_bool_str
  | exact Rd.kt_bool_list
  | exact Rd.kt_bool_tuple
  | exact Rd.kt_bool_dict
  | exact Rd.kt_int_int
  | exact Rd.kt_int_bool
  | exact Rd.kt_int_str
  | exact Rd.kt_int_list
  | exact Rd.kt_int_tuple
  | exact Rd.kt_int_dict
  | exact Rd.kt_str_int
  | exact Rd.kt_str_bool
  | exact Rd.kt_str_str
  | exact Rd.kt_str_list
  | exact Rd.kt_str_tuple
  | exact Rd.kt_str_dict
  | exact Rd.kt_list_int
  | exact Rd.kt_list_bool
  | exact Rd.kt_list_str
  | exact Rd.kt_list_list
  | exact Rd.kt_list_tuple
  | exact Rd.kt_list_dict
  | exact Rd.kt_tuple_int
  | exact Rd.kt_tuple_bool
  | exact Rd.kt_tuple_str
  | exact Rd.kt_tuple_list
  | exact Rd.kt_tuple_tuple
  | exact Rd.kt_tuple_dict
  | exact Rd.kt_dict_int
  | exact Rd.kt_dict_bool
  | exact Rd.kt_dict_str
  | exact Rd.kt_dict_list
  | exact Rd.kt_dict_tuple
  | exact Rd.kt_dict_dict
  | assumption)
local macro_rules | `(tactic| walk_at "ty") => `(tactic| first
  | exact .base (.int _)
  | exact .base (.str _)
  | exact .base (.bl _)
  | exact .base .non
  | (refine .base (.lst ?h); (case h => walk_at "hp"))
  | (refine .base (.tup ?h); (case h => walk_at "hp"))
  | assumption)
local macro_rules | `(tactic| walk_at "rd") => `(tactic| repeat' (first
  | with_reducible refine' Rd.r_seq ?_
  | ((with_reducible refine' Rd.r_var ?h1 ?_); (case h1 => exact rfl))
  | with_reducible refine' Rd.r_c ?_
  | with_reducible refine' Rd.r_op ?_
  | with_reducible refine' Rd.r_un ?_
  | with_reducible refine' Rd.r_U ?_
  | with_reducible refine' Rd.r_I0 ?_
  | ((with_reducible refine' Rd.r_I ?hI ?_); (case hI => walk_at "side"))
  | ((with_reducible refine' Rd.r_eq ?hS ?_); (case hS => exact rfl))
  | ((with_reducible refine' Rd.r_ne ?hS ?_); (case hS => exact rfl))
  | with_reducible refine' Rd.r_test ?_
  | with_reducible refine' Rd.r_B ?_
  | with_reducible refine' Rd.r_bl ?_
  | with_reducible refine' Rd.r_not ?_
  | with_reducible refine' Rd.r_and ?_
  | with_reducible refine' Rd.r_or ?_
  | with_reducible refine' Rd.r_ifE ?_
  | with_reducible refine' Rd.r_nil ?_
  | with_reducible refine' Rd.r_cons ?_
  | with_reducible refine' Rd.r_cb ?_
  | with_reducible refine' Rd.r_tup ?_
  | with_reducible refine' Rd.r_lst ?_
  | with_reducible refine' Rd.r_call ?_
  | with_reducible refine' Rd.r_callS ?_
  | with_reducible refine' Rd.r_sl ?_
  | with_reducible refine' Rd.r_nopart ?_
  | with_reducible refine' Rd.r_part ?_
  | with_reducible refine' Rd.r_int ?_
  | with_reducible refine' Rd.r_bm ?_
  | with_reducible refine' Rd.r_bm0 ?_
  | with_reducible refine' Rd.r_m0 ?_
  | with_reducible refine' Rd.r_m1 ?_
  | with_reducible refine' Rd.r_str ?_
  | with_reducible refine' Rd.r_if ?_
  | with_reducible refine' L2.iteT ?_
  | with_reducible refine' L2.iteF ?_
  | with_reducible refine' Rd.iteNT ?_
  | with_reducible refine' Rd.iteNF ?_
  | with_reducible refine' Rd.r_isN0 ?_
  | with_reducible refine' Rd.r_notN0 ?_
  | ((with_reducible refine' Rd.r_isN1 ?hb ?_); (case hb => exact nofun))
  | ((with_reducible refine' Rd.r_notN1 ?hb ?_); (case hb => exact nofun))
  | with_reducible refine' Rd.r_ret ?_
  | with_reducible refine' Rd.r_retN ?_
  | with_reducible refine' Rd.r_next ?_
  | with_reducible refine' Rd.r_break ?_
  | with_reducible refine' Rd.r_cont ?_
  | with_reducible refine' Rd.r_drop ?_
  | with_reducible refine' Rd.r_asg ?_
  | ((with_reducible refine' Rd.r_name ?h2 ?_); (case h2 => exact rfl))
  | with_reducible refine' Rd.r_sub ?_
  | with_reducible refine' Rd.r_tpar ?_
  | ((with_reducible refine' Rd.r_par2 ?h2 ?_); (case h2 => exact rfl))
  | with_reducible refine' Rd.r_for ?_
  | with_reducible refine' Rd.r_iRng1 ?_
  | with_reducible refine' Rd.r_iList ?_
  | with_reducible refine' Rd.r_iTup ?_
  | with_reducible refine' Rd.r_int1 ?_
  | with_reducible refine' Rd.r_intB ?_
  | with_reducible refine' Rd.r_abs ?_
  | ((with_reducible refine' Rd.r_ixLt ?h3 ?h4 ?_); (case h3 => walk_at "hp"); (case h4 => exact rfl))
  | ((with_reducible refine' Rd.r_setL ?h3 ?h4 ?_); (case h3 => walk_at "hp"); (case h4 => exact rfl))
  | ((with_reducible refine' Rd.r_lenL' (Rd.sqL_of ?h3) ?_); (case h3 => walk_at "hp"))
  | ((with_reducible refine' Rd.r_lenS ?h3 ?_); (case h3 => assumption))
  | with_reducible refine' Rd.r_andV ?_
  | with_reducible refine' Rd.r_orV ?_
  | with_reducible refine' Rd.r_notV ?_
  | with_reducible refine' Rd.r_mk ?_
  | ((with_reducible refine' Rd.r_mkX ?h3 ?h4 ?_); (case h3 => exact rfl); (case h4 => decide))
  | ((with_reducible refine' Rd.r_isi ?h3 ?h4 ?h5 ?_); (case h3 => first | exact .ty _ | exact .own _); (case h4 => walk_at "ty"); (case h5 => walk_at "kit"))
  | with_reducible refine' Rd.r_lc ?_
  | with_reducible refine' Rd.r_yes ?_
  | with_reducible refine' Rd.r_iStr ?_
  | with_reducible refine' Rd.r_iEnum ?_
  | with_reducible refine' Rd.r_lc2 ?_
  | with_reducible refine' Rd.r_revT' ?_
  | with_reducible refine' Rd.r_max2 ?_
  | with_reducible refine' Rd.r_fldS ?_
  | ((with_reducible refine' Rd.r_fldI ?h1 ?h2 ?h3 ?h4 ?h5 ?_); (case h1 => exact rfl); (case h2 => walk_at "hp"); (case h3 => assumption); (case h4 => assumption); (case h5 => exact rfl))
  | with_reducible refine' Rd.r_chain ?_
  | with_reducible refine' Rd.r_make ?_
  ))
namespace K34
open PySem PySem.Spec PyProof.Rows L2 Rd PySem.W
section
variable {P : Program} {w : World} {K : PySem.W.Frag} {mg : Str → Option Value} {base : Heap}
theorem cutV_from (l : List Int) (i : Nat) (hi : i ≤ l.length) : cutV (l.map V.int) (some (0 + (i : Nat))) none = (l.drop i).map V.int := by
  unfold cutV
  rw [Int.zero_add, HT.sIx_nat, HT.sIx_none, List.length_map, Nat.min_eq_left hi, List.take_of_length_le (by rw [List.length_drop, List.length_map]; exact Nat.le_refl _), List.map_drop]
theorem cutV_to (l : List Int) (i : Nat) (hi : i ≤ l.length) : cutV (l.map V.int) none (some (0 + (i : Nat))) = (l.take i).map V.int := by
  unfold cutV
  rw [Int.zero_add, HT.sIx_nat, HT.sIx_none, List.length_map, Nat.min_eq_left hi, List.drop_zero, Nat.sub_zero, List.map_take]
/-! least_ring -/
def spLeastRing (K : PySem.W.Frag) : Sp := fun vs H Q _ => ∃ (a : Addr) (l : List Int), vs = [.ref a] ∧ H a = some (.tup (l.map V.int)) ∧ l.length ≤ 1000 ∧ ∀ p H', SqT K H' p ((leastRing l).map V.int) → Kp [] H H' → Q (.ref p) H'
abbrev sLeastRing : Stmt := topS 25
theorem scLeastRing : FnScope ["orders", "rows", "row", "at"] ["orders"] (defScope (topS 25)) := ⟨rfl, rfl, rfl, by decide +kernel, rfl, by decide +kernel, by decide +kernel⟩
theorem ok_leastRing {f : Addr} {fd : FuncData} (F : Fn K "least_ring" 25 [] f fd) (G : Gm mg) : FnOk P w K mg base (L2.CX P w) 2 f fd ["orders"] (spLeastRing K) := by
  refine F.ok scLeastRing (fun vs H Q E h => ?_) (fun cdv A outer s H vs Q E hr h => ?_)
  · obtain ⟨_, _, rfl, _⟩ := h
    rfl
  · obtain ⟨a, l, rfl, ha, hl, q⟩ := h
    have nd := scLeastRing.nd
    refine ⟨_, (pss_cons (ps_set (i := 1) nd rfl (.inl rfl) (pe_lst (pa_cons (pv 0) (pa_cons (pe_revT (pv 0)) pa_nil))))
      (pss_one (ps_ret (pe_callB (cr_minT hr) (by rfl) G.min bt_min (pa_cons (pe_lc2 (own := [("row", 2), ("at", 3)]) (vs1 := [3]) (by rfl) nd (pi_list (pv 1)) (blkOk_by (own := [("row", 2), ("at", 3)]) (N := ["orders", "rows", "row", "at"]) (sc := defScope sLeastRing) (by decide +kernel)) (by decide) (fun _ _ _ _ _ => (pg_name (i := 2) nd rfl (.inl rfl))) (fun _ _ _ _ _ => pts_nil) (fun _ _ _ _ _ => (pi_range1 (by rfl) G.range (pa_cons (pe_callB (c_max2 rfl) (by rfl) G.max bt_max (pa_cons pe_int (pa_cons (pe_callB (c_len_ (K := K)) (by rfl) G.len bt_len (pa_cons (pv 0) pa_nil)) pa_nil))) pa_nil))) (fun _ _ _ _ _ => (pg_name (i := 3) nd rfl (.inl rfl))) (fun _ _ _ _ _ => pts_nil) (fun _ _ _ _ _ => (pe_op (op_catA_ (K := K)) (pe_slice (sl_tupA_ (K := K)) (pv 2) (po_some (pv 3)) po_none) (pe_slice (sl_tupA_ (K := K)) (pv 2) po_none (po_some (pv 3)))))) pa_nil))))), ?_⟩
    walk_at "rd"
    refine ⟨a, _, rfl, sqT_of ha, fun b nb => ?_⟩
    walk_at "rd"
    refine ⟨by show (2 : Nat) ≤ sizeLine; decide, fun r nr => ?_⟩
    walk_at "rd"
    have ha1 : ∀ (o : HO), (upd H b o) a = some (.tup (l.map V.int)) := fun o => by walk_at "hp"
    have k0 : ∀ o1 o2, Kp [] H (upd (upd H b o1) r o2) := fun o1 o2 => ((Kp.refl _ _).own nb).own (nu nr).2
    have hb2 : (upd (upd H b (.tup (l.map V.int).reverse)) r (.lst [.ref a, .ref b])) b = some (.tup (l.reverse.map V.int)) := by
      rw [List.map_reverse]; exact (upd_ne (nu nr).1.symm).trans upd_same
    have ha2 : (upd (upd H b (.tup (l.map V.int).reverse)) r (.lst [.ref a, .ref b])) a = some (.tup (l.map V.int)) := (k0 _ _).get ha
    have k1 := k0 (.tup (l.map V.int).reverse) (.lst [.ref a, .ref b])
    have hr2 : (upd (upd H b (.tup (l.map V.int).reverse)) r (.lst [.ref a, .ref b])) r = some (.lst [.ref a, .ref b]) := upd_same
    generalize upd (upd H b (.tup (l.map V.int).reverse)) r (.lst [.ref a, .ref b]) = H1 at *
    refine q_lc2L [(a, l), (b, l.reverse)] (fun p : Addr × List Int => V.ref p.1) (fun D pre H2 => ∃ acc, H2 D = some (.lst acc) ∧ DpAll K H2 acc ((pre.flatMap fun p => rotsN (max 1 l.length) p.2).map tI) ∧ Kp [] H1 H2 ∧ acc.length = pre.length * (max 1 l.length)) (sqL_of hr2) (fun D nD => ⟨[], upd_same, .nil, by walk_at "kp", by simp⟩) (fun D pre H2 nD h => by obtain ⟨acc, _, _, k, _⟩ := h; exact sqL_of (k.get hr2)) (fun D pre x post H2 nD e h => ?_) (fun D H2 nD h => ?_)
    · obtain ⟨acc, hD, hacc, k2, hlen⟩ := h
      have hx : H1 x.1 = some (.tup (x.2.map V.int)) ∧ x.2.length = l.length ∧ pre.length ≤ 1 := by
        have hm : x ∈ [(a, l), (b, l.reverse)] := by rw [e]; simp
        have hl2 : pre.length + 1 ≤ 2 := by have := congrArg List.length e; simp at this; omega
        rcases List.mem_cons.mp hm with h | h
        · subst h; exact ⟨ha2, rfl, by omega⟩
        · have := List.mem_singleton.mp h; subst this; exact ⟨hb2, List.length_reverse, by omega⟩
      walk_at "rd"
      refine ⟨rfl, ?_⟩
      walk_at "rd"
      refine ⟨a, _, rfl, .inr (sqT_of (k2.get ha2)), ?_⟩
      walk_at "rd"
      have hm : (if ((l.map V.int).length : Int) > 1 then ((l.map V.int).length : Int) else 1) = ((max 1 l.length : Nat) : Int) := by
        rw [List.length_map]; split <;> omega
      rw [hm]
      refine q_inR (by omega) (by omega) (fun i H3 => ∃ acc2, H3 D = some (.lst acc2) ∧ DpAll K H3 acc2 (((pre.flatMap fun p => rotsN (max 1 l.length) p.2) ++ rotsN i x.2).map tI) ∧ Kp [] H1 H3 ∧ acc2.length = pre.length * (max 1 l.length) + i) ⟨acc, hD, by simpa [rotsN] using hacc, k2, hlen⟩ (fun i H3 hi h3 => ?_) (fun H3 h3 => ?_)
      · obtain ⟨acc2, hD2, hacc2, k3, hlen2⟩ := h3
        have hi' : i ≤ x.2.length := by omega
        walk_at "rd"
        refine ⟨rfl, ?_⟩
        walk_at "rd"
        refine r_slA (sqT_of (k3.get hx.1)) fun p1 H4 hp1 k4 => ?_
        walk_at "rd"
        refine r_slA (sqT_of (k4.get (k3.get hx.1))) fun p2 H5 hp2 k5 => ?_
        rw [cutV_from _ _ hi'] at hp1
        rw [cutV_to _ _ hi'] at hp2
        refine r_catA (k5.sqT (by simp) hp1) hp2 (by simp [sizeLine_eq]; omega) fun p3 H6 hp3 k6 => ?_
        have k46 := k4.trans (k5.trans k6)
        have hD6 := k46.get hD2
        refine ⟨acc2, hD6, by rw [sizeLine_eq, hlen2]; have : pre.length * (max 1 l.length) ≤ 1 * max 1 l.length := Nat.mul_le_mul_right _ hx.2.2; omega, acc2 ++ [.ref p3], upd_same, ?_, (k3.trans k46).own nD, by rw [List.length_append, hlen2]; rfl⟩
        have er : rotsN (i + 1) x.2 = rotsN i x.2 ++ [x.2.drop i ++ x.2.take i] := by
          unfold rotsN; rw [List.range_succ, List.map_append]; rfl
        rw [er, ← List.append_assoc, List.map_append]
        rw [← List.map_append] at hp3
        exact dp_append (dpT_put hD6 (dpAll_keep k46 hacc2)) (.cons (dp_tI (sqT_put hD6 hp3)) .nil)
      · obtain ⟨acc2, hD2, hacc2, k3, hlen2⟩ := h3
        refine ⟨acc2, hD2, ?_, k3, by rw [hlen2, List.length_append]; show _ = (pre.length + 1) * _; rw [Nat.add_mul]; omega⟩
        rw [List.flatMap_append]
        simpa using hacc2
    · obtain ⟨acc, hD, hacc, k2, hlen⟩ := h
      walk_at "rd"
      have ei : [(a, l), (b, l.reverse)].flatMap (fun p => rotsN (max 1 l.length) p.2) = imgs l := by
        show rotsN _ l ++ (rotsN _ l.reverse ++ []) = _
        rw [List.append_nil]; rfl
      rw [ei] at hacc
      obtain ⟨x, xs, exs⟩ : ∃ x xs, imgs l = x :: xs := by
        have : imgs l ≠ [] := fun z => by
          have := congrArg List.length z
          simp [imgs, rotsN] at this
        exact List.exists_cons_of_ne_nil this
      rw [exs] at hacc
      have em : leastRing l = leastI x xs := by unfold leastRing; rw [exs]; rfl
      refine ⟨D, acc, x, xs, rfl, sqL_of hD, hacc, fun v _ hv => ?_⟩
      obtain ⟨p, rfl, hp⟩ := dp_tI_inv hv
      rw [← em] at hp
      exact q p _ hp (k1.trans k2)
end
end K34

set_option Elab.async false
set_option linter.all false
set_option maxRecDepth 100000
set_option maxHeartbeats 4000000
set_option pp.maxSteps 1200
local macro_rules | `(tactic| walk_at "side") => `(tactic| first
  | exact rfl
  | omega
  | exact ⟨by omega, by omega⟩
  | exact Or.inl ⟨by omega, by omega⟩
  | exact Or.inr ⟨by omega, by omega⟩
  | exact ⟨by decide, by decide, by decide⟩
  | exact ⟨by omega, by omega, by omega⟩
  | decide)
local macro_rules | `(tactic| walk_at "ne") => `(tactic| first
  | assumption
  | (apply Ne.symm; assumption)
  | exact L2.ne_of_none ‹_› ‹_›
  | exact (L2.ne_of_none ‹_› ‹_›).symm)
local macro_rules | `(tactic| walk_at "hp") => `(tactic| first
  | assumption
  | exact L2.upd_same
  | (refine (L2.upd_ne ?n).trans ?r; (case n => walk_at "ne"); (case r => walk_at "hp"))
  | (refine Rd.Kp.get ?k ?r; (case k => assumption); (case r => walk_at "hp")))
local macro_rules | `(tactic| walk_at "nn") => `(tactic| first
  | assumption
  | exact (Rd.nu ‹_›).2
  | (refine Rd.Kp.none ?k ?h; (case k => assumption); (case h => assumption)))
local macro_rules | `(tactic| walk_at "kp") => `(tactic| first
  | exact Rd.Kp.refl _ _
  | assumption
  | (refine' Rd.Kp.new ?a ?n; (case n => assumption); (case a => walk_at "kp"))
  | (refine' Rd.Kp.own ?a ?n; (case n => walk_at "nn"); (case a => walk_at "kp"))
  | (refine' Rd.Kp.put ?a ?n; (case n => simp); (case a => walk_at "kp"))
  | (refine' Rd.Kp.trans ?a ?b; (case b => assumption); (case a => walk_at "kp")))
local macro_rules | `(tactic| walk_at "kit") => `(tactic| first
  | exact Rd.kt_NoneType_int
  | exact Rd.kt_NoneType_bool
  | exact Rd.kt_NoneType_str
  | exact Rd.kt_NoneType_list
  | exact Rd.kt_NoneType_tuple
  | exact Rd.kt_NoneType_dict
  | exact Rd.kt_bool_int
  | exact Rd.kt_bool_bool
  | exact Rd.kt_bool_str
  | exact Rd.kt_bool_list
  | exact Rd.kt_bool_tuple
  | exact Rd.kt_bool_dict
  | exact Rd.kt_int_int
  | exact Rd.kt_int_bool
  | exact Rd.kt_int_str
  | exact Rd.kt_int_list
  | exact Rd.kt_int_tuple
  | exact Rd.kt_int_dict
  | exact Rd.kt_str_int
  | exact Rd.kt_str_bool
  | exact Rd.kt_str_str
  | exact Rd.kt_str_list
  | exact Rd.kt_str_tuple
  | exact Rd.kt_str_dict
  | exact Rd.kt_list_int
  | exact Rd.kt_list_bool
  | exact Rd.kt_list_str
  | exact Rd.kt_list_list
  | exact Rd.kt_list_tuple
  | exact Rd.kt_list_dict
  | exact Rd.kt_tuple_int
  | exact Rd.kt_tuple_bool
  | exact Rd.kt_tuple_str
  | exact Rd.kt_tuple_list
  | exact Rd.kt_tuple_tuple
  | exact Rd.kt_tuple_dict
  | exact Rd.kt_dict_int
  | exact Rd.kt_dict_bool
  | exact Rd.kt_dict_str
  | exact Rd.kt_dict_list
  | exact Rd.kt_dict_tuple
  | exact Rd.kt_dict_dict
  | assumption)
local macro_rules | `(tactic| walk_at "ty") => `(tactic| first
  | exact .base (.int _)
  | exact .base (.str _)
  | exact .base (.bl _)
  | exact .base .non
  | (refine .base (.lst ?h); (case h => walk_at "hp"))
  | (refine .base (.tup ?h); (case h => walk_at "hp"))
  | assumption)
local macro_rules | `(tactic| walk_at "rd") => `(tactic| repeat' (first
  | with_reducible refine' Rd.r_seq ?_
  | ((with_reducible refine' Rd.r_var ?h1 ?_); (case h1 => exact rfl))
  | with_reducible refine' Rd.r_c ?_
  | with_reducible refine' Rd.r_op ?_
  | with_reducible refine' Rd.r_un ?_
  | with_reducible refine' Rd.r_U ?_
  | with_reducible refine' Rd.r_I0 ?_
  | ((with_reducible refine' Rd.r_I ?hI ?_); (case hI => walk_at "side"))
  | ((with_reducible refine' Rd.r_eq ?hS ?_); (case hS => exact rfl))
  | ((with_reducible refine' Rd.r_ne ?hS ?_); (case hS => exact rfl))
  | with_reducible refine' Rd.r_test ?_
  | with_reducible refine' Rd.r_B ?_
  | with_reducible refine' Rd.r_bl ?_
  | with_reducible refine' Rd.r_not ?_
  | with_reducible refine' Rd.r_and ?_
  | with_reducible refine' Rd.r_or ?_
  | with_reducible refine' Rd.r_ifE ?_
  | with_reducible refine' Rd.r_nil ?_
  | with_reducible refine' Rd.r_cons ?_
  | with_reducible refine' Rd.r_cb ?_
  | with_reducible refine' Rd.r_tup ?_
  | with_reducible refine' Rd.r_lst ?_
  | with_reducible refine' Rd.r_call ?_
  | with_reducible refine' Rd.r_callS ?_
  | with_reducible refine' Rd.r_sl ?_
  | with_reducible refine' Rd.r_nopart ?_
  | with_reducible refine' Rd.r_part ?_
  | with_reducible refine' Rd.r_int ?_
  | with_reducible refine' Rd.r_bm ?_
  | with_reducible refine' Rd.r_bm0 ?_
  | with_reducible refine' Rd.r_m0 ?_
  | with_reducible refine' Rd.r_m1 ?_
  | with_reducible refine' Rd.r_str ?_
  | with_reducible refine' Rd.r_if ?_
  | with_reducible refine' L2.iteT ?_
  | with_reducible refine' L2.iteF ?_
  | with_reducible refine' Rd.iteNT ?_
  | with_reducible refine' Rd.iteNF ?_
  | with_reducible refine' Rd.r_isN0 ?_
  | with_reducible refine' Rd.r_notN0 ?_
  | ((with_reducible refine' Rd.r_isN1 ?hb ?_); (case hb => exact nofun))
  | ((with_reducible refine' Rd.r_notN1 ?hb ?_); (case hb => exact nofun))
  | with_reducible refine' Rd.r_ret ?_
  | with_reducible refine' Rd.r_retN ?_
  | with_reducible refine' Rd.r_next ?_
  | with_reducible refine' Rd.r_break ?_
  | with_reducible refine' Rd.r_cont ?_
  | with_reducible refine' Rd.r_drop ?_
  | with_reducible refine' Rd.r_asg ?_
  | ((with_reducible refine' Rd.r_name ?h2 ?_); (case h2 => exact rfl))
  | with_reducible refine' Rd.r_sub ?_
  | with_reducible refine' Rd.r_tpar ?_
  | ((with_reducible refine' Rd.r_par2 ?h2 ?_); (case h2 => exact rfl))
  | with_reducible refine' Rd.r_for ?_
  | with_reducible refine' Rd.r_iRng1 ?_
  | with_reducible refine' Rd.r_iList ?_
  | with_reducible refine' Rd.r_iTup ?_
  | with_reducible refine' Rd.r_int1 ?_
  | with_reducible refine' Rd.r_intB ?_
  | with_reducible refine' Rd.r_abs ?_
  | ((with_reducible refine' Rd.r_ixLt ?h3 ?h4 ?_); (case h3 => walk_at "hp"); (case h4 => exact rfl))
  | ((with_reducible refine' Rd.r_setL ?h3 ?h4 ?_); (case h3 => walk_at "hp"); (case h4 => exact rfl))
  | ((with_reducible refine' Rd.r_lenL' (Rd.sqL_of ?h3) ?_); (case h3 => walk_at "hp"))
  | ((with_reducible refine' Rd.r_lenS ?h3 ?_); (case h3 => assumption))
  | with_reducible refine' Rd.r_andV ?_
  | with_reducible refine' Rd.r_orV ?_
  | with_reducible refine' Rd.r_notV ?_
  | with_reducible refine' Rd.r_mk ?_
  | ((with_reducible refine' Rd.r_mkX ?h3 ?h4 ?_); (case h3 => exact rfl); (case h4 => decide))
  | ((with_reducible refine' Rd.r_isi ?h3 ?h4 ?h5 ?_); (case h3 => first | exact .ty _ | exact .own _); (case h4 => walk_at "ty"); (case h5 => walk_at "kit"))
  | with_reducible refine' Rd.r_lc ?_
  | with_reducible refine' Rd.r_yes ?_
  | with_reducible refine' Rd.r_iStr ?_
  | with_reducible refine' Rd.r_iEnum ?_
  | with_reducible refine' Rd.r_lc2 ?_
  | with_reducible refine' Rd.r_revT' ?_
  | with_reducible refine' Rd.r_max2 ?_
  | with_reducible refine' Rd.r_fldS ?_
  | ((with_reducible refine' Rd.r_fldI ?h1 ?h2 ?h3 ?h4 ?h5 ?_); (case h1 => exact rfl); (case h2 => walk_at "hp"); (case h3 => assumption); (case h4 => assumption); (case h5 => exact rfl))
  | with_reducible refine' Rd.r_chain ?_
  | with_reducible refine' Rd.r_make ?_
  ))
namespace K34
open PySem PySem.Spec PyProof.Rows L2 Rd PySem.W
/-- what the class Signature is -/
structure SigC (K : PySem.W.Frag) (C : Addr) : Prop where
  cls : Cls K C
  nh : NoAttr K C "handles"
  nca : NoAttr K C "caps"
  nco : NoAttr K C "cones"
  nm : NoAttr K C "mirrors"
  np : NoAttr K C "parts"
def sortI (l : List Int) : List Int := l.mergeSort leI
def sortR (rs : List (List Int)) : List (List Int) := rs.mergeSort fun x y => decide (x ≤ y)
def sigF (h c : Int) (pc pm pp : Addr) : List (Str × V) := [("handles", .int h), ("caps", .int c), ("cones", .ref pc), ("mirrors", .ref pm), ("parts", .ref pp)]
/-- at p: a Signature with these parts -/
def SigAt (K : PySem.W.Frag) (C : Addr) (H : Hp) (p : Addr) (h c : Int) (l : List Int) (rs : List (List Int)) : Prop := ∃ (dx pc pm pp : Addr) (ms : List V), H p = some (.ins C dx (sigF h c pc pm pp)) ∧ H pc = some (.tup (l.map V.int)) ∧ H pm = some (.tup ms) ∧ DpAll K H ms (rs.map tI) ∧ H pp = some (.tup [.int h, .int c, .ref pc, .ref pm])
theorem SigAt.keep {K : PySem.W.Frag} {C : Addr} {H H' : Hp} {p : Addr} {h c : Int} {l : List Int} {rs : List (List Int)} (k : Kp [] H H') (s : SigAt K C H p h c l rs) : SigAt K C H' p h c l rs := by
  obtain ⟨dx, pc, pm, pp, ms, h1, h2, h3, h4, h5⟩ := s
  exact ⟨dx, pc, pm, pp, ms, k.get h1, k.get h2, k.get h3, dpAll_keep k h4, k.get h5⟩
def Ord (l : List Int) : Prop := ∀ x ∈ l, 2 ≤ x ∧ x ≤ 120
/-- a row of rows of orders -/
def RingsAt (K : PySem.W.Frag) (H : Hp) (m : Addr) (rs : List (List Int)) : Prop := ∃ ps : List (Addr × List Int), Sq K H m (ps.map fun q => V.ref q.1) ∧ (∀ q ∈ ps, Sq K H q.1 (q.2.map V.int) ∧ Ord q.2 ∧ q.2.length ≤ 1000) ∧ ps.map (·.2) = rs ∧ ps.length ≤ 1000
section
variable {P : Program} {w : World} {K : PySem.W.Frag} {mg : Str → Option Value} {base : Heap}
def spInit (K : PySem.W.Frag) (CS CN : Addr) : Sp := fun vs H Q E => ∃ (p dx cn mr : Addr) (h c : Int) (l : List Int) (rs : List (List Int)), vs = [.ref p, .int h, .int c, .ref cn, .ref mr] ∧ H p = some (.ins CS dx []) ∧ 0 ≤ h ∧ 0 ≤ c ∧ (h = 0 ∨ c = 0) ∧
  Sq K H cn (l.map V.int) ∧ Ord l ∧ l.length ≤ 1000 ∧ RingsAt K H mr rs ∧
  (h ≤ 600 → c ≤ 600 → ∀ H', SigAt K CS H' p h c (sortI l) (sortR (rs.map leastRing)) → Kp [p] H H' → Q .non H') ∧
  (600 < h → ∀ d H', H' d = some (.xd [("part", .str "handles")]) → Kp [p] H H' → E (.ref CN) (some d) H') ∧
  (h ≤ 600 → 600 < c → ∀ d H', H' d = some (.xd [("part", .str "caps")]) → Kp [p] H H' → E (.ref CN) (some d) H')
abbrev sInit : Stmt := inClass (topS 22) 0
theorem scInit : FnScope ["self", "handles", "caps", "cones", "mirrors", "rings", "ring"] ["self", "handles", "caps", "cones", "mirrors"] (defScope sInit) := ⟨rfl, rfl, rfl, by decide +kernel, rfl, by decide +kernel, by decide +kernel⟩
theorem ok_init {f CS CN : Addr} {fd : FuncData} (F : FunD K "__init__" "Signature.__init__" (defArgs sInit) (defBody sInit) (defScope sInit) [] [] f fd) (G : Gm mg) (S : SigC K CS) (X_BadNumber : ExcX P w K mg base "BadNumber" CN ["part"])
    (C_needInt : CalX P w K mg base 3 "need_integer" (spNeedInt CN) []) (C_needOrders : CalX P w K mg base 4 "need_orders" (spNeedOrders K) []) (C_rowOf : CalX P w K mg base 3 "row_of" (spRowOf K) []) (C_leastRing : CalX P w K mg base 2 "least_ring" (spLeastRing K) []) :
    FnOk P w K mg base (L2.CX P w) 5 f fd ["self", "handles", "caps", "cones", "mirrors"] (spInit K CS CN) := by
  refine F.ok scInit (fun vs H Q E h => ?_) (fun cdv A outer s H vs Q E hr h => ?_)
  · obtain ⟨_, _, _, _, _, _, _, _, rfl, _⟩ := h
    rfl
  · obtain ⟨p, dx, cn, mr, h, c, l, rs, rfl, hp, h0, c0, hc0, hcn, hl, hln, ⟨ps, hmr, hps, rfl, hpl⟩, q, qe1, qe2⟩ := h
    have nd := scInit.nd
    obtain ⟨cl, nh, nca, nco, nm, np⟩ := S
    refine ⟨_, (pss_cons (ps_fld (pv 0) (pe_cx C_needInt hr (by decide) (by rfl) (pXE (E := E) (takes_of rfl rfl rfl rfl)) (pa_cons pe_str (pa_cons (pv 1) (pa_cons pe_int (pa_cons (C8.pe_gc (by rfl) G.MOST_MARKS) pa_nil))))) rfl)
      (pss_cons (ps_fld (pv 0) (pe_cx C_needInt hr (by decide) (by rfl) (pXE (E := E) (takes_of rfl rfl rfl rfl)) (pa_cons pe_str (pa_cons (pv 2) (pa_cons pe_int (pa_cons (C8.pe_gc (by rfl) G.MOST_MARKS) pa_nil))))) rfl)
      (C8.pss_cut (ps_if (PW.pt (pw_and (pt_cmpR op_gt (pe_fld (pv 0) rfl) pe_int (nomark _)) (pw_and1 (pt_cmpR op_gt (pe_fld (pv 0) rfl) pe_int (nomark _))))) (pss_one (ps_raise rfl (takes_of rfl rfl rfl rfl) (pmk_x X_BadNumber hr (by decide) (by rfl) (pa_cons pe_str pa_nil)))) pss_nil)
      (pss_cons (ps_fld (pv 0) (pe_callTy c_tupOf (by rfl) G.tuple bt_tuple (pa_cons (pe_callB (cr_sortedN hr) (by rfl) G.sorted bt_sorted (pa_cons (pe_cx C_needOrders hr (by decide) (by rfl) pX0 (pa_cons pe_str (pa_cons (pv 3) pa_nil))) pa_nil)) pa_nil)) rfl)
      (pss_cons (ps_setLc (i := 5) (own := [("ring", 6)]) (by rfl) nd rfl rfl (sw_true rfl rfl rfl (by decide +kernel)) (pi_tup (pe_cx C_rowOf hr (by decide) (by rfl) pX0 (pa_cons pe_str (pa_cons (pv 4) pa_nil)))) (blkOk_by (own := [("ring", 6)]) (N := ["self", "handles", "caps", "cones", "mirrors", "rings", "ring"]) (sc := defScope sInit) (by decide +kernel)) (fun _ _ _ _ _ => (pg_name (i := 6) nd rfl (.inl rfl))) (fun _ _ _ _ _ => pts_nil) (fun _ _ _ _ _ => (pe_cx C_leastRing hr (by decide) (by rfl) pX0 (pa_cons (pe_cx C_needOrders hr (by decide) (by rfl) pX0 (pa_cons pe_str (pa_cons (pv 6) pa_nil))) pa_nil))))
      (pss_cons (ps_fld (pv 0) (pe_callTy c_tupOf (by rfl) G.tuple bt_tuple (pa_cons (pe_callB (cr_sortedT hr) (by rfl) G.sorted bt_sorted (pa_cons (pv 5) pa_nil)) pa_nil)) rfl)
      (pss_one (ps_fld (pv 0) (pe_tup (pa_cons (pe_fld (pv 0) rfl) (pa_cons (pe_fld (pv 0) rfl) (pa_cons (pe_fld (pv 0) rfl) (pa_cons (pe_fld (pv 0) rfl) pa_nil))))) rfl)))))))), ?_⟩
    try dsimp only [Rd.cxK]
    walk_at "rd"
    refine ⟨_, _, _, _, rfl, fun hh => ?_, fun hh d nd => qe1 (by omega) d _ upd_same (((Kp.refl _ _).new nd).up)⟩
    walk_at "rd"
    refine ⟨p, CS, dx, [], rfl, hp, cl, nh, by decide, ?_⟩
    walk_at "rd"
    refine ⟨_, _, _, _, rfl, fun hc => ?_, fun hc d nd => qe2 (by omega) (by omega) d _ upd_same ((Kp.one _).new nd)⟩
    walk_at "rd"
    refine ⟨p, CS, dx, [("handles", .int h)], rfl, upd_same, cl, nca, by show (1 : Nat) < 1000; decide, ?_⟩
    walk_at "rd"
    have hp1 : (upd (upd H p (.ins CS dx (putF "handles" (.int h) []))) p (.ins CS dx (putF "caps" (.int c) [("handles", .int h)]))) p = some (.ins CS dx [("handles", .int h), ("caps", .int c)]) := upd_same
    have k1 : Kp [p] H (upd (upd H p (.ins CS dx (putF "handles" (.int h) []))) p (.ins CS dx (putF "caps" (.int c) [("handles", .int h)]))) := ((Kp.refl _ _).put (List.mem_singleton.mpr rfl)).put (List.mem_singleton.mpr rfl)
    generalize upd (upd H p (.ins CS dx (putF "handles" (.int h) []))) p (.ins CS dx (putF "caps" (.int c) [("handles", .int h)])) = H1 at *
    refine r_cut (fun σ' H' => σ' = [some (.ref p), some (.int h), some (.int c), some (.ref cn), some (.ref mr), none, none] ∧ H' = H1) ?_ ?_
    · walk_at "rd"
      refine iteD (fun z => ?_) (fun z => ?_)
      · walk_at "rd"
        rw [show decide (c > 0) = false from decide_eq_false (by omega)]
        walk_at "rd"
        exact ⟨rfl, rfl⟩
      · walk_at "rd"
        exact ⟨rfl, rfl⟩
    rintro σ' H' ⟨rfl, rfl⟩
    walk_at "rd"
    refine ⟨_, cn, l, rfl, k1.seq1 hp hcn, hl, fun p1 H2 hp1' k2 => ?_⟩
    walk_at "rd"
    refine ⟨p1, l, rfl, .inr (sqT_of hp1'), fun s1 ns1 => ?_⟩
    walk_at "rd"
    refine r_tupL (sqL_of upd_same) fun pc npc => ?_
    walk_at "rd"
    have hpc : (upd (upd H2 s1 (.lst ((l.mergeSort leI).map V.int))) pc (.tup ((l.mergeSort leI).map V.int))) pc = some (.tup ((sortI l).map V.int)) := upd_same
    have k3 : Kp [] H' (upd (upd H2 s1 (.lst ((l.mergeSort leI).map V.int))) pc (.tup ((l.mergeSort leI).map V.int))) := (k2.new ns1).new npc
    generalize upd (upd H2 s1 (.lst ((l.mergeSort leI).map V.int))) pc (.tup ((l.mergeSort leI).map V.int)) = H3 at *
    have hp3 := k3.get hp1
    refine ⟨p, CS, dx, _, rfl, hp3, cl, nco, by show (2 : Nat) < 1000; decide, ?_⟩
    walk_at "rd"
    have hp4 : (upd H3 p (.ins CS dx (putF "cones" (.ref pc) [("handles", .int h), ("caps", .int c)]))) p = some (.ins CS dx [("handles", .int h), ("caps", .int c), ("cones", .ref pc)]) := upd_same
    have k34 : Kp [p] H3 (upd H3 p (.ins CS dx (putF "cones" (.ref pc) [("handles", .int h), ("caps", .int c)]))) := Kp.one _
    generalize upd H3 p (.ins CS dx (putF "cones" (.ref pc) [("handles", .int h), ("caps", .int c)])) = H4 at *
    have hpc4 := k34.tup1 hp3 hpc
    have k4 : Kp [p] H H4 := (k1.trans k3.up).trans k34
    refine ⟨_, mr, _, rfl, k4.seq1 hp hmr, fun m1 H5 hm1 k5 => ?_⟩
    have k5' : Kp [p] H H5 := k4.trans k5.up
    walk_at "rd"
    refine q_lcT ps (fun q => V.ref q.1) (fun D pre H6 => ∃ acc, H6 D = some (.lst acc) ∧ DpAll K H6 acc ((pre.map fun q => leastRing q.2).map tI) ∧ Kp [] H5 H6 ∧ acc.length = pre.length) (sqT_of hm1) (fun D nD => ⟨[], upd_same, .nil, by walk_at "kp", rfl⟩) (fun D pre H6 nD h => by obtain ⟨acc, _, _, k, _⟩ := h; exact sqT_of (k.get hm1)) (fun D pre x post H6 nD e h => ?_) (fun D H6 nD h => ?_)
    · obtain ⟨acc, hD, hacc, k6, hlen⟩ := h
      obtain ⟨hx1, hx2, hx3⟩ := hps x (by rw [e]; simp)
      walk_at "rd"
      refine ⟨rfl, ?_⟩
      walk_at "rd"
      refine ⟨_, x.1, x.2, rfl, (k5'.trans k6.up).seq1 hp hx1, hx2, fun t1 H7 ht1 k7 => ?_⟩
      walk_at "rd"
      refine ⟨t1, x.2, rfl, ht1, hx3, fun t2 H8 ht2 k8 => ?_⟩
      have k68 := k7.trans k8
      have hD8 := k68.get hD
      have hpl' : pre.length + 1 ≤ ps.length := by have := congrArg List.length e; simp at this; omega
      refine ⟨acc, hD8, by rw [sizeLine_eq, hlen]; omega, acc ++ [.ref t2], upd_same, ?_, (k6.trans k68).own nD, by rw [List.length_append, List.length_append, hlen]; rfl⟩
      rw [List.map_append, List.map_append]
      exact dp_append (dpT_put hD8 (by
        have := dpAll_keep (K := K) k68 hacc
        exact this)) (.cons (dp_tI (sqT_put hD8 ht2)) .nil)
    · obtain ⟨acc, hD, hacc, k6, hlen⟩ := h
      walk_at "rd"
      have er : (ps.map fun q => leastRing q.2) = (ps.map (·.2)).map leastRing := by rw [List.map_map]; rfl
      rw [er] at hacc
      refine ⟨D, acc, _, rfl, sqL_of hD, hacc, fun s2 ws ns2 _ dw => ?_⟩
      walk_at "rd"
      refine r_tupL (sqL_of upd_same) fun pm npm => ?_
      walk_at "rd"
      have k7 : Kp [] H4 (upd (upd H6 s2 (.lst ws)) pm (.tup ws)) := ((k5.trans k6).new ns2).new npm
      have hpm : (upd (upd H6 s2 (.lst ws)) pm (.tup ws)) pm = some (.tup ws) := upd_same
      have k6' : Kp [] H6 (upd (upd H6 s2 (.lst ws)) pm (.tup ws)) := ((Kp.refl _ _).new ns2).new npm
      have dw7 := dpAll_keep (K := K) k6' dw
      generalize upd (upd H6 s2 (.lst ws)) pm (.tup ws) = H7 at *
      have hp7 := k7.get hp4
      refine ⟨p, CS, dx, _, rfl, hp7, cl, nm, by show (3 : Nat) < 1000; decide, ?_⟩
      have hp8 : (upd H7 p (.ins CS dx (putF "mirrors" (.ref pm) [("handles", .int h), ("caps", .int c), ("cones", .ref pc)]))) p = some (.ins CS dx [("handles", .int h), ("caps", .int c), ("cones", .ref pc), ("mirrors", .ref pm)]) := upd_same
      have k78 : Kp [p] H7 (upd H7 p (.ins CS dx (putF "mirrors" (.ref pm) [("handles", .int h), ("caps", .int c), ("cones", .ref pc)]))) := Kp.one _
      generalize upd H7 p (.ins CS dx (putF "mirrors" (.ref pm) [("handles", .int h), ("caps", .int c), ("cones", .ref pc)])) = H8 at *
      have hpm8 := k78.tup1 hp7 hpm
      have hpc8 := k78.tup1 hp7 (k7.get hpc4)
      have dw8 := dpT_1 (K := K) k78 hp7 dw7
      have k8 : Kp [p] H H8 := (k4.trans k7.up).trans k78
      walk_at "rd"
      refine ⟨by show (4 : Nat) ≤ sizeLine; decide, fun pp npp => ?_⟩
      walk_at "rd"
      have k9 : Kp [] H8 (upd H8 pp (.tup [.int h, .int c, .ref pc, .ref pm])) := (Kp.refl _ _).new npp
      have hpp : (upd H8 pp (.tup [.int h, .int c, .ref pc, .ref pm])) pp = some (.tup [.int h, .int c, .ref pc, .ref pm]) := upd_same
      generalize upd H8 pp (.tup [.int h, .int c, .ref pc, .ref pm]) = H9 at *
      have hp9 := k9.get hp8
      have dw9 := dpAll_keep (K := K) k9 dw8
      refine ⟨p, CS, dx, _, rfl, hp9, cl, np, by show (4 : Nat) < 1000; decide, ?_⟩
      have k910 : Kp [p] H9 (upd H9 p (.ins CS dx (putF "parts" (.ref pp) [("handles", .int h), ("caps", .int c), ("cones", .ref pc), ("mirrors", .ref pm)]))) := Kp.one _
      exact q (by omega) (by omega) _ ⟨dx, pc, pm, pp, ws, upd_same, k910.tup1 hp9 (k9.get hpc8), k910.tup1 hp9 (k9.get hpm8), dpT_1 k910 hp9 dw9, k910.tup1 hp9 hpp⟩ ((k8.trans k9.up).trans k910)
/-! __eq__ -/
theorem can_tI (l : List Int) : (tI l).canLay0 = true := canInts l
theorem can_tIs : ∀ rs : List (List Int), PyData.canLayAll0 (rs.map tI) = true
  | [] => rfl
  | l :: rs => by
    show ((tI l).canLay0 && PyData.canLayAll0 (rs.map tI)) = true
    rw [can_tI, can_tIs rs]; rfl
theorem dep_tIs : ∀ rs : List (List Int), PyData.depthAll (rs.map tI) ≤ 1
  | [] => Nat.zero_le _
  | l :: rs => by
    show max (tI l).depth (PyData.depthAll (rs.map tI)) ≤ 1
    rw [dep_tI]
    have := dep_tIs rs
    omega
theorem sh_sig (h c : Int) (l : List Int) (rs : List (List Int)) : SeqAt.shaped (.tuple [.int h, .int c, tI l, .tuple (rs.map tI)]) = true := by
  have e1 : PyData.canLayAll0 [.int h, .int c, tI l, .tuple (rs.map tI)] = true := by
    show (true && (true && ((tI l).canLay0 && (PyData.canLayAll0 (rs.map tI) && true)))) = true
    rw [can_tI, can_tIs]; rfl
  have e2 : PyData.depthAll [.int h, .int c, tI l, .tuple (rs.map tI)] + 1 ≤ 64 := by
    show max 0 (max 0 (max (tI l).depth (max (PyData.depthAll (rs.map tI) + 1) 0))) + 1 ≤ 64
    rw [dep_tI]
    have := dep_tIs rs
    omega
  show (PyData.canLayAll0 [.int h, .int c, tI l, .tuple (rs.map tI)] && decide (PyData.depthAll [.int h, .int c, tI l, .tuple (rs.map tI)] + 1 ≤ 64)) = true
  rw [e1, decide_eq_true e2]; rfl
theorem eqvAll_tI : ∀ rs rs2 : List (List Int), PyData.eqvAll (rs.map tI) (rs2.map tI) = decide (rs = rs2)
  | [], [] => rfl
  | [], _ :: _ => rfl
  | _ :: _, [] => rfl
  | l :: rs, l2 :: rs2 => by
    show (PyData.eqvAll (l.map .int) (l2.map .int) && PyData.eqvAll (rs.map tI) (rs2.map tI)) = _
    rw [ked_eqvAll, eqvAll_tI rs rs2, ← Bool.decide_and]
    exact decide_eq_decide.mpr (by rw [List.cons.injEq])
theorem eqv_sig (h c h2 c2 : Int) (l l2 : List Int) (rs rs2 : List (List Int)) : PyData.eqv (.tuple [.int h, .int c, tI l, .tuple (rs.map tI)]) (.tuple [.int h2, .int c2, tI l2, .tuple (rs2.map tI)]) = decide (h = h2 ∧ c = c2 ∧ l = l2 ∧ rs = rs2) := by
  show ((h == h2) && ((c == c2) && (PyData.eqvAll (l.map .int) (l2.map .int) && (PyData.eqvAll (rs.map tI) (rs2.map tI) && true)))) = _
  rw [ked_eqvAll, eqvAll_tI, Bool.and_true, Bool.decide_and, Bool.decide_and, Bool.decide_and]
  rfl
/-- of the other: an instance of the class, or something of a built-in class -/
def spSigEq (K : PySem.W.Frag) (CS : Addr) : Sp := fun vs H Q _ => ∃ (p : Addr) (y : V) (h c : Int) (l : List Int) (rs : List (List Int)), vs = [.ref p, y] ∧ SigAt K CS H p h c l rs ∧ l.length ≤ 1000 ∧
  ∃ (p2 : Addr) (h2 c2 : Int) (l2 : List Int) (rs2 : List (List Int)), y = .ref p2 ∧ SigAt K CS H p2 h2 c2 l2 rs2 ∧ (∀ H', Kp [] H H' → Q (.bl (decide (h = h2 ∧ c = c2 ∧ l = l2 ∧ rs = rs2))) H')
abbrev sEq : Stmt := inClass (topS 22) 1
theorem scEq : FnScope ["self", "other"] ["self", "other"] (defScope sEq) := ⟨rfl, rfl, rfl, by decide +kernel, rfl, by decide +kernel, by decide +kernel⟩
/-- isinstance of the class -/
structure SigI (K : PySem.W.Frag) (mg : Str → Option Value) (C : Addr) : Prop where
  ha : PySem.W.findIn K (.ref C) "__class__" = some (some (.builtin "object.__class__"))
  hn : PySem.W.specialIn K (.builtin "object.__class__") "__get__" = some (some (.builtin "getset_descriptor.__get__"))
  htk : PySem.W.takesIn K (.builtin "object.__class__") = some true
  hm : PySem.W.mroIn K C (.type "object") = some true
  own : PySem.W.kitOne K (.ref C) (.ref C) = some true
  mg : ∃ u, mg "Signature" = some u ∧ RelV (.ref C) u
theorem ok_eq {f CS : Addr} {fd : FuncData} (F : FunD K "__eq__" "Signature.__eq__" (defArgs sEq) (defBody sEq) (defScope sEq) [] [] f fd) (G : Gm mg) (S : SigC K CS) (I : SigI K mg CS) : FnOk P w K mg base (L2.CX P w) 1 f fd ["self", "other"] (spSigEq K CS) := by
  have D_Signature := I.mg
  refine F.ok scEq (fun vs H Q E h => ?_) (fun cdv A outer s H vs Q E hr h => ?_)
  · obtain ⟨_, _, _, _, _, _, rfl, _⟩ := h
    rfl
  · obtain ⟨p, y, h, c, l, rs, rfl, s1, hl, p2, h2, c2, l2, rs2, rfl, s2, q⟩ := h
    have nd := scEq.nd
    refine ⟨_, (pss_one (ps_ret (pe_and (pe_callB call_isi (by rfl) G.isinstance bt_isinstance (pa_cons (pv 1) (pa_cons (C8.pe_gc (by rfl) D_Signature) pa_nil))) (pe_one (pe_cmpR (op_eqD hr.units) (pe_fld (pv 0) rfl) (pe_fld (pv 1) rfl) (nomark _)))))), ?_⟩
    try dsimp only [Rd.cxK]
    walk_at "rd"
    obtain ⟨dx, pc, pm, pp, ms, a1, a2, a3, a4, a5⟩ := s1
    obtain ⟨dx2, pc2, pm2, pp2, ms2, b1, b2, b3, b4, b5⟩ := s2
    obtain ⟨cl, nh, nca, nco, nm, np⟩ := S
    refine r_isi (.own _) (.base (.ins b1 cl I.ha I.hn I.htk I.hm)) I.own ?_
    walk_at "rd"
    have d1 : Dp K H (.ref pp) (.tuple [.int h, .int c, tI l, .tuple (rs.map tI)]) := .tup (sqT_of a5) (.cons (.int h) (.cons (.int c) (.cons (dp_tI (sqT_of a2)) (.cons (.tup (sqT_of a3) a4) .nil))))
    have d2 : Dp K H (.ref pp2) (.tuple [.int h2, .int c2, tI l2, .tuple (rs2.map tI)]) := .tup (sqT_of b5) (.cons (.int h2) (.cons (.int c2) (.cons (dp_tI (sqT_of b2)) (.cons (.tup (sqT_of b3) b4) .nil))))
    refine r_eqD d1 d2 (sh_sig _ _ _ _) (sh_sig _ _ _ _) ?_
    rw [eqv_sig]
    exact q H (Kp.refl _ _)
end
end K34

set_option Elab.async false
set_option maxRecDepth 100000
set_option maxHeartbeats 4000000
namespace K34
open PySem PySem.Spec PyProof.Rows
/-! words -/
def tx (n : Int) : Str := Str.ofString (toString n)
def dig (c : Nat) : Bool := decide (48 ≤ c) && decide (c ≤ 57)
def digW (w : Str) : Bool := decide (0 < w.cps.size) && (decide (w.cps.size ≤ 3) && w.cps.all dig)
def ordIn (w : Str) : Option Int := if digW w then (match PySem.intText? w with | some n => if tx n = w ∧ 2 ≤ n ∧ n ≤ 120 then some n else none | none => none) else none
theorem f1 : ∀ a : Fin 10, PySem.intText? ⟨#[48 + a.val]⟩ = some (a.val : Int) ∧ tx (a.val : Int) = ⟨#[48 + a.val]⟩ := by decide +kernel
theorem f2 : ∀ a b : Fin 10, PySem.intText? ⟨#[48 + a.val, 48 + b.val]⟩ = some (10 * a.val + b.val : Int) ∧ (decide (tx (10 * a.val + b.val : Int) = ⟨#[48 + a.val, 48 + b.val]⟩) = !decide (a.val = 0)) := by decide +kernel
theorem f3 : ∀ a b c : Fin 10, PySem.intText? ⟨#[48 + a.val, 48 + b.val, 48 + c.val]⟩ = some (100 * a.val + 10 * b.val + c.val : Int) ∧ (decide (tx (100 * a.val + 10 * b.val + c.val : Int) = ⟨#[48 + a.val, 48 + b.val, 48 + c.val]⟩) = !decide (a.val = 0)) := by decide +kernel
theorem dig_fin {c : Nat} (h : dig c = true) : ∃ a : Fin 10, c = 48 + a.val := by
  unfold dig at h
  rw [Bool.and_eq_true, decide_eq_true_eq, decide_eq_true_eq] at h
  exact ⟨⟨c - 48, by omega⟩, by show c = 48 + (c - 48); omega⟩
theorem digW_facts {w : Str} (h : digW w = true) : ∃ n : Int, PySem.intText? w = some n ∧ 0 ≤ n ∧ n < 1000 ∧ ((tx n = w ∧ (w.cps[0]? ≠ some 48 ∨ n = 0)) ∨ (tx n ≠ w ∧ w.cps[0]? = some 48)) := by
  unfold digW at h
  rw [Bool.and_eq_true, Bool.and_eq_true, decide_eq_true_eq, decide_eq_true_eq] at h
  obtain ⟨h0, h1, h2⟩ := h
  obtain ⟨⟨l⟩⟩ := w
  have h0' : 0 < l.length := h0
  have h1' : l.length ≤ 3 := h1
  have h2' : ∀ c ∈ l, dig c = true := by
    have : l.all dig = true := by simpa using h2
    exact List.all_eq_true.mp this
  match l, h0', h1', h2' with
  | [a], _, _, h =>
    obtain ⟨a, rfl⟩ := dig_fin (h a (by simp))
    obtain ⟨e1, e2⟩ := f1 a
    refine ⟨_, e1, by omega, by have := a.isLt; omega, .inl ⟨e2, ?_⟩⟩
    by_cases z : a.val = 0
    · exact .inr (by omega)
    · left
      show some (48 + a.val) ≠ some 48
      intro q; exact z (by have := Option.some.inj q; omega)
  | [a, b], _, _, h =>
    obtain ⟨a, rfl⟩ := dig_fin (h a (by simp))
    obtain ⟨b, rfl⟩ := dig_fin (h b (by simp))
    obtain ⟨e1, e2⟩ := f2 a b
    refine ⟨_, e1, by omega, by have := a.isLt; have := b.isLt; omega, ?_⟩
    by_cases z : a.val = 0
    · right
      rw [decide_eq_true z] at e2
      exact ⟨of_decide_eq_false e2, by show some (48 + a.val) = some 48; rw [z]⟩
    · left
      rw [decide_eq_false z] at e2
      exact ⟨of_decide_eq_true e2, .inl (fun q => z (by have := Option.some.inj (show some (48 + a.val) = some 48 from q); omega))⟩
  | [a, b, c], _, _, h =>
    obtain ⟨a, rfl⟩ := dig_fin (h a (by simp))
    obtain ⟨b, rfl⟩ := dig_fin (h b (by simp))
    obtain ⟨c, rfl⟩ := dig_fin (h c (by simp))
    obtain ⟨e1, e2⟩ := f3 a b c
    refine ⟨_, e1, by omega, by have := a.isLt; have := b.isLt; have := c.isLt; omega, ?_⟩
    by_cases z : a.val = 0
    · right
      rw [decide_eq_true z] at e2
      exact ⟨of_decide_eq_false e2, by show some (48 + a.val) = some 48; rw [z]⟩
    · left
      rw [decide_eq_false z] at e2
      exact ⟨of_decide_eq_true e2, .inl (fun q => z (by have := Option.some.inj (show some (48 + a.val) = some 48 from q); omega))⟩
theorem ordIn_some {w : Str} {n : Int} (h : ordIn w = some n) : w = tx n ∧ 2 ≤ n ∧ n ≤ 120 := by
  unfold ordIn at h
  split at h
  · split at h
    · split at h
      · rename_i e
        cases h
        exact ⟨e.1.symm, e.2⟩
      · cases h
    · cases h
  · cases h
theorem ordIn_tx' : ∀ k : Fin 119, ordIn (tx (2 + k.val : Int)) = some (2 + k.val : Int) := by decide +kernel
theorem ordIn_tx {n : Int} (h : 2 ≤ n ∧ n ≤ 120) : ordIn (tx n) = some n := by
  have := ordIn_tx' ⟨(n - 2).toNat, by omega⟩
  have e : (2 + ((n - 2).toNat : Nat) : Int) = n := by omega
  simp only [e] at this
  exact this
theorem dec1 : ∀ c : Fin 128, Unicode.isDecimal c.val = dig c.val := by decide +kernel
theorem digW_iff (w : Str) : (Txt.isdecimal w && Txt.isascii w && decide (w.cps.size ≤ 3)) = digW w := by
  obtain ⟨⟨l⟩⟩ := w
  unfold digW Txt.isdecimal Txt.isascii
  have e : (l.all Unicode.isDecimal && l.all fun x => decide (x < 128)) = l.all dig := by
    rw [Bool.eq_iff_iff, Bool.and_eq_true, List.all_eq_true, List.all_eq_true, List.all_eq_true]
    constructor
    · rintro ⟨h1, h2⟩ c hc
      have h3 := of_decide_eq_true (h2 c hc)
      have := dec1 ⟨c, h3⟩
      simp only at this
      rw [← this]; exact h1 c hc
    · intro h
      refine ⟨fun c hc => ?_, fun c hc => ?_⟩
      · have h1 := h c hc
        have h3 : c < 128 := by unfold dig at h1; rw [Bool.and_eq_true, decide_eq_true_eq, decide_eq_true_eq] at h1; omega
        have := dec1 ⟨c, h3⟩
        simp only at this
        rw [this]; exact h1
      · have h1 := h c hc
        unfold dig at h1; rw [Bool.and_eq_true, decide_eq_true_eq, decide_eq_true_eq] at h1
        exact decide_eq_true (by omega)
  show (decide (l.length > 0) && (⟨l⟩ : Array Nat).all Unicode.isDecimal && (⟨l⟩ : Array Nat).all (fun x => decide (x < 128)) && decide (l.length ≤ 3)) = (decide (0 < l.length) && (decide (l.length ≤ 3) && (⟨l⟩ : Array Nat).all dig))
  have e1 : (⟨l⟩ : Array Nat).all Unicode.isDecimal = l.all Unicode.isDecimal := by simp
  have e2 : (⟨l⟩ : Array Nat).all (fun x => decide (x < 128)) = l.all (fun x => decide (x < 128)) := by simp
  have e3 : (⟨l⟩ : Array Nat).all dig = l.all dig := by simp
  rw [e1, e2, e3, ← e]
  cases decide (l.length > 0) <;> cases l.all Unicode.isDecimal <;> cases l.all (fun x => decide (x < 128)) <;> cases decide (l.length ≤ 3) <;> rfl
end K34

set_option Elab.async false
set_option maxRecDepth 100000
set_option maxHeartbeats 4000000
namespace K34
open PySem PySem.Spec PyProof.Rows
/-! reading, in plain words -/
def lead (m : Str) : List Str → Nat
  | [] => 0
  | w :: ws => if w = m then lead m ws + 1 else 0
def ords : List Str → List Int
  | [] => []
  | w :: ws => match ordIn w with
    | some n => n :: ords ws
    | none => []
def rings : Nat → List Str → List (List Int)
  | 0, _ => []
  | _, [] => []
  | f + 1, w :: ws => if w = "*" then ords ws :: rings f (ws.drop (ords ws).length) else []
def ringLen : List (List Int) → Nat
  | [] => 0
  | r :: rs => 1 + r.length + ringLen rs
abbrev Told := Sum Nat (Nat × Nat × List Int × List (List Int))
def parse (ws : List Str) : Told :=
  let h := lead "o" ws
  let cs := ords (ws.drop h)
  let a1 := h + cs.length
  let rs := rings ws.length (ws.drop a1)
  let a2 := a1 + ringLen rs
  let e := if 0 < h then a2 else a2 + lead "x" (ws.drop a2)
  if e < ws.length then .inl e else .inr (h, e - a2, cs, rs)
def readP (ws : List Str) : Told := if ws.head? = some ("-" : Str) then (if 1 < ws.length then .inl 1 else .inr (0, 0, [], [])) else parse ws
theorem lead_le (m : Str) : ∀ ws, lead m ws ≤ ws.length
  | [] => Nat.le_refl _
  | w :: ws => by
    unfold lead
    split
    · have := lead_le m ws; rw [List.length_cons]; omega
    · exact Nat.zero_le _
theorem ords_le : ∀ ws, (ords ws).length ≤ ws.length
  | [] => Nat.le_refl _
  | w :: ws => by
    unfold ords
    split
    · have := ords_le ws; rw [List.length_cons, List.length_cons]; omega
    · exact Nat.zero_le _
theorem ords_ok : ∀ ws, ∀ n ∈ ords ws, 2 ≤ n ∧ n ≤ 120
  | [], n, h => absurd h (by simp [ords])
  | w :: ws, n, h => by
    unfold ords at h
    split at h
    · rename_i e
      rcases List.mem_cons.mp h with rfl | h
      · exact (ordIn_some e).2
      · exact ords_ok ws n h
    · exact absurd h (by simp)
theorem rings_le : ∀ f ws, ringLen (rings f ws) ≤ ws.length
  | 0, _ => Nat.zero_le _
  | _ + 1, [] => Nat.zero_le _
  | f + 1, w :: ws => by
    unfold rings
    split
    · have h1 := ords_le ws
      have h2 := rings_le f (ws.drop (ords ws).length)
      rw [List.length_drop] at h2
      show 1 + (ords ws).length + ringLen _ ≤ _
      rw [List.length_cons]; omega
    · exact Nat.zero_le _
theorem rings_ok : ∀ f ws, ∀ r ∈ rings f ws, (∀ n ∈ r, 2 ≤ n ∧ n ≤ 120)
  | 0, _, r, h => absurd h (by simp [rings])
  | _ + 1, [], r, h => absurd h (by simp [rings])
  | f + 1, w :: ws, r, h => by
    unfold rings at h
    split at h
    · rcases List.mem_cons.mp h with rfl | h
      · exact ords_ok ws
      · exact rings_ok f _ r h
    · exact absurd h (by simp)
end K34

set_option Elab.async false
set_option linter.all false
set_option maxRecDepth 100000
set_option maxHeartbeats 4000000
set_option pp.maxSteps 1200
local macro_rules | `(tactic| walk_at "side") => `(tactic| first
  | exact rfl
  | omega
  | exact ⟨by omega, by omega⟩
  | exact Or.inl ⟨by omega, by omega⟩
  | exact Or.inr ⟨by omega, by omega⟩
  | exact ⟨by decide, by decide, by decide⟩
  | exact ⟨by omega, by omega, by omega⟩
  | decide)
local macro_rules | `(tactic| walk_at "ne") => `(tactic| first
  | assumption
  | (apply Ne.symm; assumption)
  | exact L2.ne_of_none ‹_› ‹_›
  | exact (L2.ne_of_none ‹_› ‹_›).symm)
local macro_rules | `(tactic| walk_at "hp") => `(tactic| first
  | assumption
  | exact L2.upd_same
  | (refine (L2.upd_ne ?n).trans ?r; (case n => walk_at "ne"); (case r => walk_at "hp"))
  | (refine Rd.Kp.get ?k ?r; (case k => assumption); (case r => walk_at "hp")))
local macro_rules | `(tactic| walk_at "nn") => `(tactic| first
  | assumption
  | exact (Rd.nu ‹_›).2
  | (refine Rd.Kp.none ?k ?h; (case k => assumption); (case h => assumption)))
local macro_rules | `(tactic| walk_at "kp") => `(tactic| first
  | exact Rd.Kp.refl _ _
  | assumption
  | (refine' Rd.Kp.new ?a ?n; (case n => assumption); (case a => walk_at "kp"))
  | (refine' Rd.Kp.own ?a ?n; (case n => walk_at "nn"); (case a => walk_at "kp"))
  | (refine' Rd.Kp.put ?a ?n; (case n => simp); (case a => walk_at "kp"))
  | (refine' Rd.Kp.trans ?a ?b; (case b => assumption); (case a => walk_at "kp")))
local macro_rules | `(tactic| walk_at "kit") => `(tactic| first
  | exact Rd.kt_NoneType_int
  | exact Rd.kt_NoneType_bool
  | exact Rd.kt_NoneType_str
  | exact Rd.kt_NoneType_list
  | exact Rd.kt_NoneType_tuple
  | exact Rd.kt_NoneType_dict
  | exact Rd.kt_bool_int
  | exact Rd.kt_bool_bool
  | exact Rd.kt_bool_str
  | exact Rd.kt_bool_list
  | exact Rd.kt_bool_tuple
  | exact Rd.kt_bool_dict
  | exact Rd.kt_int_int
  | exact Rd.kt_int_bool
  | exact Rd.kt_int_str
  | exact Rd.kt_int_list
  | exact Rd.kt_int_tuple
  | exact Rd.kt_int_dict
  | exact Rd.kt_str_int
  | exact Rd.kt_str_bool
  | exact Rd.kt_str_str
  | exact Rd.kt_str_list
  | exact Rd.kt_str_tuple
  | exact Rd.kt_str_dict
  | exact Rd.kt_list_int
  | exact Rd.kt_list_bool
  | exact Rd.kt_list_str
  | exact Rd.kt_list_list
  | exact Rd.kt_list_tuple
  | exact Rd.kt_list_dict
  | exact Rd.kt_tuple_int
  | exact Rd.kt_tuple_bool
  | exact Rd.kt_tuple_str
  | exact Rd.kt_tuple_list
  | exact Rd.kt_tuple_tuple
  | exact Rd.kt_tuple_dict
  | exact Rd.kt_dict_int
  | exact Rd.kt_dict_bool
  | exact Rd.kt_dict_str
  | exact Rd.kt_dict_list
  | exact Rd.kt_dict_tuple
  | exact Rd.kt_dict_dict
  | assumption)
local macro_rules | `(tactic| walk_at "ty") => `(tactic| first
  | exact .base (.int _)
  | exact .base (.str _)
  | exact .base (.bl _)
  | exact .base .non
  | (refine .base (.lst ?h); (case h => walk_at "hp"))
  | (refine .base (.tup ?h); (case h => walk_at "hp"))
  | assumption)
local macro_rules | `(tactic| walk_at "rd") => `(tactic| repeat' (first
  | with_reducible refine' Rd.r_seq ?_
  | ((with_reducible refine' Rd.r_var ?h1 ?_); (case h1 => exact rfl))
  | with_reducible refine' Rd.r_c ?_
  | with_reducible refine' Rd.r_op ?_
  | with_reducible refine' Rd.r_un ?_
  | with_reducible refine' Rd.r_U ?_
  | with_reducible refine' Rd.r_I0 ?_
  | ((with_reducible refine' Rd.r_I ?hI ?_); (case hI => walk_at "side"))
  | ((with_reducible refine' Rd.r_eq ?hS ?_); (case hS => exact rfl))
  | ((with_reducible refine' Rd.r_ne ?hS ?_); (case hS => exact rfl))
  | with_reducible refine' Rd.r_test ?_
  | with_reducible refine' Rd.r_B ?_
  | with_reducible refine' Rd.r_bl ?_
  | with_reducible refine' Rd.r_not ?_
  | with_reducible refine' Rd.r_and ?_
  | with_reducible refine' Rd.r_or ?_
  | with_reducible refine' Rd.r_ifE ?_
  | with_reducible refine' Rd.r_nil ?_
  | with_reducible refine' Rd.r_cons ?_
  | with_reducible refine' Rd.r_cb ?_
  | with_reducible refine' Rd.r_tup ?_
  | with_reducible refine' Rd.r_lst ?_
  | with_reducible refine' Rd.r_call ?_
  | with_reducible refine' Rd.r_callS ?_
  | with_reducible refine' Rd.r_sl ?_
  | with_reducible refine' Rd.r_nopart ?_
  | with_reducible refine' Rd.r_part ?_
  | with_reducible refine' Rd.r_int ?_
  | with_reducible refine' Rd.r_bm ?_
  | with_reducible refine' Rd.r_bm0 ?_
  | with_reducible refine' Rd.r_m0 ?_
  | with_reducible refine' Rd.r_m1 ?_
  | with_reducible refine' Rd.r_str ?_
  | with_reducible refine' Rd.r_if ?_
  | with_reducible refine' L2.iteT ?_
  | with_reducible refine' L2.iteF ?_
  | with_reducible refine' Rd.iteNT ?_
  | with_reducible refine' Rd.iteNF ?_
  | with_reducible refine' Rd.r_isN0 ?_
  | with_reducible refine' Rd.r_notN0 ?_
  | ((with_reducible refine' Rd.r_isN1 ?hb ?_); (case hb => exact nofun))
  | ((with_reducible refine' Rd.r_notN1 ?hb ?_); (case hb => exact nofun))
  | with_reducible refine' Rd.r_ret ?_
  | with_reducible refine' Rd.r_retN ?_
  | with_reducible refine' Rd.r_next ?_
  | with_reducible refine' Rd.r_break ?_
  | with_reducible refine' Rd.r_cont ?_
  | with_reducible refine' Rd.r_drop ?_
  | with_reducible refine' Rd.r_asg ?_
  | ((with_reducible refine' Rd.r_name ?h2 ?_); (case h2 => exact rfl))
  | with_reducible refine' Rd.r_sub ?_
  | with_reducible refine' Rd.r_tpar ?_
  | ((with_reducible refine' Rd.r_par2 ?h2 ?_); (case h2 => exact rfl))
  | with_reducible refine' Rd.r_for ?_
  | with_reducible refine' Rd.r_iRng1 ?_
  | with_reducible refine' Rd.r_iList ?_
  | with_reducible refine' Rd.r_iTup ?_
  | with_reducible refine' Rd.r_int1 ?_
  | with_reducible refine' Rd.r_intB ?_
  | with_reducible refine' Rd.r_abs ?_
  | ((with_reducible refine' Rd.r_ixLt ?h3 ?h4 ?_); (case h3 => walk_at "hp"); (case h4 => exact rfl))
  | ((with_reducible refine' Rd.r_setL ?h3 ?h4 ?_); (case h3 => walk_at "hp"); (case h4 => exact rfl))
  | ((with_reducible refine' Rd.r_lenL' (Rd.sqL_of ?h3) ?_); (case h3 => walk_at "hp"))
  | ((with_reducible refine' Rd.r_lenS ?h3 ?_); (case h3 => assumption))
  | with_reducible refine' Rd.r_andV ?_
  | with_reducible refine' Rd.r_orV ?_
  | with_reducible refine' Rd.r_notV ?_
  | with_reducible refine' Rd.r_mk ?_
  | ((with_reducible refine' Rd.r_mkX ?h3 ?h4 ?_); (case h3 => exact rfl); (case h4 => decide))
  | ((with_reducible refine' Rd.r_isi ?h3 ?h4 ?h5 ?_); (case h3 => first | exact .ty _ | exact .own _); (case h4 => walk_at "ty"); (case h5 => walk_at "kit"))
  | with_reducible refine' Rd.r_lc ?_
  | with_reducible refine' Rd.r_yes ?_
  | with_reducible refine' Rd.r_iStr ?_
  | with_reducible refine' Rd.r_iEnum ?_
  | with_reducible refine' Rd.r_lc2 ?_
  | with_reducible refine' Rd.r_revT' ?_
  | with_reducible refine' Rd.r_max2 ?_
  | with_reducible refine' Rd.r_fldS ?_
  | ((with_reducible refine' Rd.r_fldI ?h1 ?h2 ?h3 ?h4 ?h5 ?_); (case h1 => exact rfl); (case h2 => walk_at "hp"); (case h3 => assumption); (case h4 => assumption); (case h5 => exact rfl))
  | with_reducible refine' Rd.r_chain ?_
  | with_reducible refine' Rd.r_make ?_
  ))
namespace K34
open PySem PySem.Spec PyProof.Rows L2 Rd PySem.W
section
variable {P : Program} {w : World} {K : PySem.W.Frag} {mg : Str → Option Value} {base : Heap}
/-! need_signature, of a signature -/
def spNeedSig (K : PySem.W.Frag) (CS : Addr) : Sp := fun vs H Q _ => ∃ (part : Str) (p : Addr) (h c : Int) (l : List Int) (rs : List (List Int)), vs = [.str part, .ref p] ∧ SigAt K CS H p h c l rs ∧ Q (.ref p) H
abbrev sNeedSig : Stmt := topS 24
theorem scNeedSig : FnScope ["part", "value"] ["part", "value"] (defScope (topS 24)) := ⟨rfl, rfl, rfl, by decide +kernel, rfl, by decide +kernel, by decide +kernel⟩
theorem ok_needSig {f CS CV : Addr} {fd : FuncData} (F : Fn K "need_signature" 24 [] f fd) (G : Gm mg) (S : SigC K CS) (I : SigI K mg CS) (X_BadValue : ExcX P w K mg base "BadValue" CV ["part"]) : FnOk P w K mg base (L2.CX P w) 3 f fd ["part", "value"] (spNeedSig K CS) := by
  have D_Signature := I.mg
  refine F.ok scNeedSig (fun vs H Q E h => ?_) (fun cdv A outer s H vs Q E hr h => ?_)
  · obtain ⟨_, _, _, _, _, _, rfl, _⟩ := h
    rfl
  · obtain ⟨part, p, h, c, l, rs, rfl, s1, q⟩ := h
    refine ⟨_, (C8.pss_cut (ps_if (pt_not (pt_val (pe_callB call_isi (by rfl) G.isinstance bt_isinstance (pa_cons (pv 1) (pa_cons (C8.pe_gc (by rfl) D_Signature) pa_nil))))) (pss_one (ps_raise rfl (takes_of rfl rfl rfl rfl) (pmk_x X_BadValue hr (by decide) (by rfl) (pa_cons (pv 0) pa_nil)))) pss_nil)
      (pss_one (ps_ret (pv 1)))), ?_⟩
    try dsimp only [Rd.cxK]
    obtain ⟨dx, pc, pm, pp, ms, a1, a2, a3, a4, a5⟩ := s1
    refine r_cut (fun σ' H' => σ' = [some (.str part), some (.ref p)] ∧ H' = H) ?_ ?_
    · walk_at "rd"
      refine r_isi (.own _) (.base (.ins a1 S.cls I.ha I.hn I.htk I.hm)) I.own ?_
      walk_at "rd"
      exact ⟨rfl, rfl⟩
    · rintro σ' H' ⟨rfl, rfl⟩
      walk_at "rd"
      exact q
/-! order_in -/
def spOrderIn : Sp := fun vs H Q _ => ∃ w : Str, vs = [.str w] ∧ w.length ≤ 100000 ∧ ∀ p H', H' p = some (.lst ((ordIn w).toList.map V.int)) → Kp [] H H' → Q (.ref p) H'
abbrev sOrderIn : Stmt := topS 31
theorem scOrderIn : FnScope ["word"] ["word"] (defScope (topS 31)) := ⟨rfl, rfl, rfl, by decide +kernel, rfl, by decide +kernel, by decide +kernel⟩
theorem ok_orderIn {f : Addr} {fd : FuncData} (F : Fn K "order_in" 31 [] f fd) (G : Gm mg) : FnOk P w K mg base (L2.CX P w) 1 f fd ["word"] spOrderIn := by
  refine F.ok scOrderIn (fun vs H Q E h => ?_) (fun cdv A outer s H vs Q E hr h => ?_)
  · obtain ⟨_, rfl, _⟩ := h
    rfl
  · obtain ⟨x, rfl, hl, q⟩ := h
    refine ⟨_, (pss_cons (ps_if (PW.pt (pw_or (pt_not (pt_val (pe_m0 (by exact PySem.F.slot_str_isdecimal) (by exact PySem.F.type_str_isdecimal) mt_isdecimal (pv 0)))) (pw_or (pt_not (pt_val (pe_m0 (by exact PySem.F.slot_str_isascii) (by exact PySem.F.type_str_isascii) mt_isascii (pv 0)))) (pw_or (pt_cmpR op_gt (pe_callB c_lenS (by rfl) G.len bt_len (pa_cons (pv 0) pa_nil)) pe_int (nomark _)) (pw_or1 (pt_cmpR op_ne (pe_callTy c_strI (by rfl) G.str bt_str (pa_cons (pe_callTy c_intS (by rfl) G.int bt_int (pa_cons (pv 0) pa_nil)) pa_nil)) (pv 0) (nomark _))))))) (pss_one (ps_ret (pe_lst pa_nil))) pss_nil)
      (pss_one (ps_ret (pe_ifExp (pt_chain op_le op_le pe_int (pe_callTy c_intS (by rfl) G.int bt_int (pa_cons (pv 0) pa_nil)) (C8.pe_gc (by rfl) G.MOST_ORDER)) (pe_lst (pa_cons (pe_callTy c_intS (by rfl) G.int bt_int (pa_cons (pv 0) pa_nil)) pa_nil)) (pe_lst pa_nil))))), ?_⟩
    try dsimp only [Rd.cxK]
    have no : ordIn x = none → ∀ p, H p = none → Q (.ref p) (upd H p (.lst [])) := fun e p np => q p _ (by rw [e]; exact upd_same) ((Kp.refl _ _).new np)
    have hz : x.length ≤ sizeLine := by rw [sizeLine_eq]; omega
    have dw := digW_iff x
    have nd : digW x = false → ordIn x = none := fun e => by unfold ordIn; rw [e]; rfl
    walk_at "rd"
    refine ⟨x, rfl, rfl, trivial, ?_⟩
    cases hd : Txt.isdecimal x with
    | false =>
      walk_at "rd"
      exact ⟨Nat.zero_le _, no (nd (by rw [← dw, hd]; rfl))⟩
    | true =>
    walk_at "rd"
    refine ⟨x, rfl, rfl, trivial, ?_⟩
    cases ha : Txt.isascii x with
    | false =>
      walk_at "rd"
      exact ⟨Nat.zero_le _, no (nd (by rw [← dw, hd, ha]; rfl))⟩
    | true =>
    walk_at "rd"
    refine iteD (fun h3 => ?_) (fun h3 => ?_)
    · walk_at "rd"
      exact ⟨Nat.zero_le _, no (nd (by rw [← dw, hd, ha, decide_eq_false (show ¬ x.cps.size ≤ 3 from by have : x.length = x.cps.size := rfl; omega)]; rfl))⟩
    · have hx : digW x = true := by rw [← dw, hd, ha, decide_eq_true (show x.cps.size ≤ 3 from by have : x.length = x.cps.size := rfl; omega)]; rfl
      obtain ⟨n, en, n0, n1, hn⟩ := digW_facts hx
      have eo : ordIn x = if tx n = x ∧ 2 ≤ n ∧ n ≤ 120 then some n else none := by unfold ordIn; rw [hx, en]; rfl
      walk_at "rd"
      refine r_intS en (by omega) ?_
      walk_at "rd"
      refine r_strI (Nat.lt_of_lt_of_le (by omega : n.natAbs < 1000) (by decide)) ?_
      walk_at "rd"
      by_cases ht : tx n = x
      · have e1 : decide (V.str (Str.ofString (toString n)) = V.str x) = true := decide_eq_true (congrArg V.str ht)
        rw [e1]
        walk_at "rd"
        refine r_intS en (by omega) ?_
        walk_at "rd"
        refine iteD (fun h4 => ?_) (fun h4 => ?_)
        · walk_at "rd"
          refine iteD (fun h5 => ?_) (fun h5 => ?_)
          · walk_at "rd"
            refine r_intS en (by omega) ?_
            walk_at "rd"
            refine ⟨by show (1 : Nat) ≤ sizeLine; decide, fun p np => q p _ ?_ ((Kp.refl _ _).new np)⟩
            rw [eo, if_pos ⟨ht, h4, h5⟩]
            exact upd_same
          · walk_at "rd"
            exact ⟨Nat.zero_le _, no (by rw [eo, if_neg (fun z => h5 z.2.2)])⟩
        · walk_at "rd"
          exact ⟨Nat.zero_le _, no (by rw [eo, if_neg (fun z => h4 z.2.1)])⟩
      · have e1 : decide (V.str (Str.ofString (toString n)) = V.str x) = false := decide_eq_false (fun z => ht (V.str.inj z))
        rw [e1]
        walk_at "rd"
        exact ⟨Nat.zero_le _, no (by rw [eo, if_neg (fun z => ht z.1)])⟩
end
end K34

set_option Elab.async false
set_option linter.all false
set_option maxRecDepth 100000
set_option maxHeartbeats 4000000
set_option pp.maxSteps 1200
local macro_rules | `(tactic| walk_at "side") => `(tactic| first
  | exact rfl
  | omega
  | exact ⟨by omega, by omega⟩
  | exact Or.inl ⟨by omega, by omega⟩
  | exact Or.inr ⟨by omega, by omega⟩
  | exact ⟨by decide, by decide, by decide⟩
  | exact ⟨by omega, by omega, by omega⟩
  | decide)
local macro_rules | `(tactic| walk_at "ne") => `(tactic| first
  | assumption
  | (apply Ne.symm; assumption)
  | exact L2.ne_of_none ‹_› ‹_›
  | exact (L2.ne_of_none ‹_› ‹_›).symm)
local macro_rules | `(tactic| walk_at "hp") => `(tactic| first
  | assumption
  | exact L2.upd_same
  | (refine (L2.upd_ne ?n).trans ?r; (case n => walk_at "ne"); (case r => walk_at "hp"))
  | (refine Rd.Kp.get ?k ?r; (case k => assumption); (case r => walk_at "hp")))
local macro_rules | `(tactic| walk_at "nn") => `(tactic| first
  | assumption
  | exact (Rd.nu ‹_›).2
  | (refine Rd.Kp.none ?k ?h; (case k => assumption); (case h => assumption)))
local macro_rules | `(tactic| walk_at "kp") => `(tactic| first
  | exact Rd.Kp.refl _ _
  | assumption
  | (refine' Rd.Kp.new ?a ?n; (case n => assumption); (case a => walk_at "kp"))
  | (refine' Rd.Kp.own ?a ?n; (case n => walk_at "nn"); (case a => walk_at "kp"))
  | (refine' Rd.Kp.put ?a ?n; (case n => simp); (case a => walk_at "kp"))
  | (refine' Rd.Kp.trans ?a ?b; (case b => assumption); (case a => walk_at "kp")))
local macro_rules | `(tactic| walk_at "kit") => `(tactic| first
  | exact Rd.kt_NoneType_int
  | exact Rd.kt_NoneType_bool
  | exact Rd.kt_NoneType_str
  | exact Rd.kt_NoneType_list
  | exact Rd.kt_NoneType_tuple
  | exact Rd.kt_NoneType_dict
  | exact Rd.kt_bool_int
  | exact Rd.kt_bool_bool
  | exact Rd.kt_bool_str
  | exact Rd.kt_bool_list
  | exact Rd.kt_bool_tuple
  | exact Rd.kt_bool_dict
  | exact Rd.kt_int_int
  | exact Rd.kt_int_bool
  | exact Rd.kt_int_str
  | exact Rd.kt_int_list
  | exact Rd.kt_int_tuple
  | exact Rd.kt_int_dict
  | exact Rd.kt_str_int
  | exact Rd.kt_str_bool
  | exact Rd.kt_str_str
  | exact Rd.kt_str_list
  | exact Rd.kt_str_tuple
  | exact Rd.kt_str_dict
  | exact Rd.kt_list_int
  | exact Rd.kt_list_bool
  | exact Rd.kt_list_str
  | exact Rd.kt_list_list
  | exact Rd.kt_list_tuple
  | exact Rd.kt_list_dict
  | exact Rd.kt_tuple_int
  | exact Rd.kt_tuple_bool
  | exact Rd.kt_tuple_str
  | exact Rd.kt_tuple_list
  | exact Rd.kt_tuple_tuple
  | exact Rd.kt_tuple_dict
  | exact Rd.kt_dict_int
  | exact Rd.kt_dict_bool
  | exact Rd.kt_dict_str
  | exact Rd.kt_dict_list
  | exact Rd.kt_dict_tuple
  | exact Rd.kt_dict_dict
  | assumption)
local macro_rules | `(tactic| walk_at "ty") => `(tactic| first
  | exact .base (.int _)
  | exact .base (.str _)
  | exact .base (.bl _)
  | exact .base .non
  | (refine .base (.lst ?h); (case h => walk_at "hp"))
  | (refine .base (.tup ?h); (case h => walk_at "hp"))
  | assumption)
local macro_rules | `(tactic| walk_at "rd") => `(tactic| repeat' (first
  | with_reducible refine' Rd.r_seq ?_
  | ((with_reducible refine' Rd.r_var ?h1 ?_); (case h1 => exact rfl))
  | with_reducible refine' Rd.r_c ?_
  | with_reducible refine' Rd.r_op ?_
  | with_reducible refine' Rd.r_un ?_
  | with_reducible refine' Rd.r_U ?_
  | with_reducible refine' Rd.r_I0 ?_
  | ((with_reducible refine' Rd.r_I ?hI ?_); (case hI => walk_at "side"))
  | ((with_reducible refine' Rd.r_eq ?hS ?_); (case hS => exact rfl))
  | ((with_reducible refine' Rd.r_ne ?hS ?_); (case hS => exact rfl))
  | with_reducible refine' Rd.r_test ?_
  | with_reducible refine' Rd.r_B ?_
  | with_reducible refine' Rd.r_bl ?_
  | with_reducible refine' Rd.r_not ?_
  | with_reducible refine' Rd.r_and ?_
  | with_reducible refine' Rd.r_or ?_
  | with_reducible refine' Rd.r_ifE ?_
  | with_reducible refine' Rd.r_nil ?_
  | with_reducible refine' Rd.r_cons ?_
  | with_reducible refine' Rd.r_cb ?_
  | with_reducible refine' Rd.r_tup ?_
  | with_reducible refine' Rd.r_lst ?_
  | with_reducible refine' Rd.r_call ?_
  | with_reducible refine' Rd.r_callS ?_
  | with_reducible refine' Rd.r_sl ?_
  | with_reducible refine' Rd.r_nopart ?_
  | with_reducible refine' Rd.r_part ?_
  | with_reducible refine' Rd.r_int ?_
  | with_reducible refine' Rd.r_bm ?_
  | with_reducible refine' Rd.r_bm0 ?_
  | with_reducible refine' Rd.r_m0 ?_
  | with_reducible refine' Rd.r_m1 ?_
  | with_reducible refine' Rd.r_str ?_
  | with_reducible refine' Rd.r_if ?_
  | with_reducible refine' L2.iteT ?_
  | with_reducible refine' L2.iteF ?_
  | with_reducible refine' Rd.iteNT ?_
  | with_reducible refine' Rd.iteNF ?_
  | with_reducible refine' Rd.r_isN0 ?_
  | with_reducible refine' Rd.r_notN0 ?_
  | ((with_reducible refine' Rd.r_isN1 ?hb ?_); (case hb => exact nofun))
  | ((with_reducible refine' Rd.r_notN1 ?hb ?_); (case hb => exact nofun))
  | with_reducible refine' Rd.r_ret ?_
  | with_reducible refine' Rd.r_retN ?_
  | with_reducible refine' Rd.r_next ?_
  | with_reducible refine' Rd.r_break ?_
  | with_reducible refine' Rd.r_cont ?_
  | with_reducible refine' Rd.r_drop ?_
  | with_reducible refine' Rd.r_asg ?_
  | ((with_reducible refine' Rd.r_name ?h2 ?_); (case h2 => exact rfl))
  | with_reducible refine' Rd.r_sub ?_
  | with_reducible refine' Rd.r_tpar ?_
  | ((with_reducible refine' Rd.r_par2 ?h2 ?_); (case h2 => exact rfl))
  | with_reducible refine' Rd.r_for ?_
  | with_reducible refine' Rd.r_iRng1 ?_
  | with_reducible refine' Rd.r_iList ?_
  | with_reducible refine' Rd.r_iTup ?_
  | with_reducible refine' Rd.r_int1 ?_
  | with_reducible refine' Rd.r_intB ?_
  | with_reducible refine' Rd.r_abs ?_
  | ((with_reducible refine' Rd.r_ixLt ?h3 ?h4 ?_); (case h3 => walk_at "hp"); (case h4 => exact rfl))
  | ((with_reducible refine' Rd.r_setL ?h3 ?h4 ?_); (case h3 => walk_at "hp"); (case h4 => exact rfl))
  | ((with_reducible refine' Rd.r_lenL' (Rd.sqL_of ?h3) ?_); (case h3 => walk_at "hp"))
  | ((with_reducible refine' Rd.r_lenS ?h3 ?_); (case h3 => assumption))
  | with_reducible refine' Rd.r_andV ?_
  | with_reducible refine' Rd.r_orV ?_
  | with_reducible refine' Rd.r_notV ?_
  | with_reducible refine' Rd.r_mk ?_
  | ((with_reducible refine' Rd.r_mkX ?h3 ?h4 ?_); (case h3 => exact rfl); (case h4 => decide))
  | ((with_reducible refine' Rd.r_isi ?h3 ?h4 ?h5 ?_); (case h3 => first | exact .ty _ | exact .own _); (case h4 => walk_at "ty"); (case h5 => walk_at "kit"))
  | with_reducible refine' Rd.r_lc ?_
  | with_reducible refine' Rd.r_yes ?_
  | with_reducible refine' Rd.r_iStr ?_
  | with_reducible refine' Rd.r_iEnum ?_
  | with_reducible refine' Rd.r_lc2 ?_
  | with_reducible refine' Rd.r_revT' ?_
  | with_reducible refine' Rd.r_max2 ?_
  | with_reducible refine' Rd.r_fldS ?_
  | ((with_reducible refine' Rd.r_fldI ?h1 ?h2 ?h3 ?h4 ?h5 ?_); (case h1 => exact rfl); (case h2 => walk_at "hp"); (case h3 => assumption); (case h4 => assumption); (case h5 => exact rfl))
  | with_reducible refine' Rd.r_chain ?_
  | with_reducible refine' Rd.r_make ?_
  ))
namespace K34
open PySem PySem.Spec PyProof.Rows L2 Rd PySem.W
section
variable {P : Program} {w : World} {K : PySem.W.Frag} {mg : Str → Option Value} {base : Heap}
theorem drop_cons' {α : Type} {l : List α} {i : Nat} (h : i < l.length) : l.drop i = l[i] :: l.drop (i + 1) := List.drop_eq_getElem_cons h
/-! taken -/
def spTaken : Sp := fun vs H Q _ => ∃ (a : Addr) (ws : List Str) (i : Nat) (m : Str), vs = [.ref a, .int i, .str m] ∧ H a = some (.lst (ws.map V.str)) ∧ Q (.int ((i + lead m (ws.drop i) : Nat) : Int)) H
abbrev sTaken : Stmt := topS 32
theorem scTaken : FnScope ["words", "at", "mark"] ["words", "at", "mark"] (defScope (topS 32)) := ⟨rfl, rfl, rfl, by decide +kernel, rfl, by decide +kernel, by decide +kernel⟩
theorem ok_taken {f : Addr} {fd : FuncData} (F : Fn K "taken" 32 [] f fd) (G : Gm mg) : FnOk P w K mg base (L2.CX P w) 1 f fd ["words", "at", "mark"] spTaken := by
  refine F.ok scTaken (fun vs H Q E h => ?_) (fun cdv A outer s H vs Q E hr h => ?_)
  · obtain ⟨_, _, _, _, rfl, _⟩ := h
    rfl
  · obtain ⟨a, ws, i, m, rfl, ha, q⟩ := h
    have nd := scTaken.nd
    refine ⟨_, (C8.pss_cut (ps_while (passes_of rfl) (PW.pt (pw_and (pt_cmpR op_lt (pv 1) (pe_callB c_len (by rfl) G.len bt_len (pa_cons (pv 0) pa_nil)) (nomark _)) (pw_and1 (pt_cmpR op_eq (pe_ix ix_list (pv 0) (pv 1) (fun _ _ => rfl)) (pv 2) (nomark _))))) (pss_one (ps_set (i := 1) nd rfl (.inl rfl) (pe_op op_add (pv 1) pe_int))))
      (pss_one (ps_ret (pv 1)))), ?_⟩
    try dsimp only [Rd.cxK]
    refine r_cut (fun σ' H' => σ' = [some (.ref a), some (.int ((i + lead m (ws.drop i) : Nat) : Int)), some (.str m)] ∧ H' = H) ?_ ?_
    · refine r_while (fun n σ' H' => ∃ j : Nat, σ' = [some (.ref a), some (.int (j : Nat)), some (.str m)] ∧ H' = H ∧ n = ws.length - j ∧ j + lead m (ws.drop j) = i + lead m (ws.drop i)) ⟨_, i, rfl, rfl, rfl, rfl⟩ ?_
      rintro n σ' H' ⟨j, rfl, rfl, rfl, e⟩
      walk_at "rd"
      refine iteD (fun h1 => ?_) (fun h1 => ?_)
      · have hj : j < ws.length := by rw [List.length_map] at h1; omega
        walk_at "rd"
        refine r_ixLt ha (atI_nat (getmap (List.getElem?_eq_getElem hj))) ?_
        walk_at "rd"
        refine iteD (fun h2 => ?_) (fun h2 => ?_)
        · refine r_turn ?_
          walk_at "rd"
          refine ⟨_, ?_, j + 1, rfl, rfl, rfl, ?_⟩
          · omega
          · rw [← e, drop_cons' hj, show lead m (ws[j] :: ws.drop (j + 1)) = lead m (ws.drop (j + 1)) + 1 from by rw [lead, if_pos (V.str.inj h2)]]
            omega
        · refine ⟨?_, rfl⟩
          rw [← e, drop_cons' hj, show lead m (ws[j] :: ws.drop (j + 1)) = 0 from by rw [lead, if_neg (fun z => h2 (congrArg V.str z))]]
          rfl
      · have hj : ws.length ≤ j := by rw [List.length_map] at h1; omega
        walk_at "rd"
        refine ⟨?_, rfl⟩
        rw [← e, List.drop_eq_nil_of_le hj]
        rfl
    · rintro σ' H' ⟨rfl, rfl⟩
      walk_at "rd"
      exact q
/-! orders_from -/
def spOrdersFrom : Sp := fun vs H Q _ => ∃ (a : Addr) (ws : List Str) (i : Nat), vs = [.ref a, .int i] ∧ H a = some (.lst (ws.map V.str)) ∧ ws.length ≤ 1000 ∧ (∀ x ∈ ws, x.length ≤ 100000) ∧ ∀ p H', H p = none → H' p = some (.lst ((ords (ws.drop i)).map V.int)) → Kp [] H H' → Q (.ref p) H'
abbrev sOrdersFrom : Stmt := topS 33
theorem scOrdersFrom : FnScope ["words", "at", "found"] ["words", "at"] (defScope (topS 33)) := ⟨rfl, rfl, rfl, by decide +kernel, rfl, by decide +kernel, by decide +kernel⟩
theorem ok_ordersFrom {f : Addr} {fd : FuncData} (F : Fn K "orders_from" 33 [] f fd) (G : Gm mg) (C_orderIn : CalX P w K mg base 1 "order_in" spOrderIn []) : FnOk P w K mg base (L2.CX P w) 2 f fd ["words", "at"] spOrdersFrom := by
  refine F.ok scOrdersFrom (fun vs H Q E h => ?_) (fun cdv A outer s H vs Q E hr h => ?_)
  · obtain ⟨_, _, _, rfl, _⟩ := h
    rfl
  · obtain ⟨a, ws, i, rfl, ha, hl, hw, q⟩ := h
    have nd := scOrdersFrom.nd
    refine ⟨_, (pss_cons (ps_set (i := 2) nd rfl (.inl rfl) (pe_lst pa_nil))
      (C8.pss_cut (ps_while (passes_of rfl) (PW.pt (pw_and (pt_cmpR op_lt (pv 1) (pe_callB c_len (by rfl) G.len bt_len (pa_cons (pv 0) pa_nil)) (nomark _)) (pw_and1 (pt_cmpR (op_neD hr.units) (pe_cx C_orderIn hr (by decide) (by rfl) pX0 (pa_cons (pe_ix ix_list (pv 0) (pv 1) (fun _ _ => rfl)) pa_nil)) (pe_lst pa_nil) (nomark _))))) (pss_cons (ps_expr (pe_bm PySem.F.plainAttrs_list PySem.F.slot_list_extend PySem.F.type_list_extend mt_extend (pv 2) (pa_cons (pe_cx C_orderIn hr (by decide) (by rfl) pX0 (pa_cons (pe_ix ix_list (pv 0) (pv 1) (fun _ _ => rfl)) pa_nil)) pa_nil)))
      (pss_one (ps_set (i := 1) nd rfl (.inl rfl) (pe_op op_add (pv 1) pe_int)))))
      (pss_one (ps_ret (pv 2))))), ?_⟩
    try dsimp only [Rd.cxK]
    walk_at "rd"
    refine ⟨Nat.zero_le _, fun r nr => ?_⟩
    walk_at "rd"
    have har : H a ≠ none := by rw [ha]; simp
    refine r_cut (fun σ' H' => ∃ j : Nat, σ' = [some (.ref a), some (.int j), some (.ref r)] ∧ H' r = some (.lst ((ords (ws.drop i)).map V.int)) ∧ Kp [] H H') ?_ ?_
    · refine r_while (fun n σ' H' => ∃ (j : Nat) (l : List Int), σ' = [some (.ref a), some (.int j), some (.ref r)] ∧ n = ws.length - j ∧ H' r = some (.lst (l.map V.int)) ∧ Kp [] H H' ∧ l ++ ords (ws.drop j) = ords (ws.drop i) ∧ l.length + ws.length ≤ 1000 + j) ⟨_, i, [], rfl, rfl, upd_same, (Kp.refl _ _).own nr, rfl, by simp; omega⟩ ?_
      rintro n σ' H' ⟨j, l, rfl, rfl, hr1, k, e, hlen⟩
      walk_at "rd"
      refine ⟨a, _, rfl, .inl (sqL_of (k.get ha)), ?_⟩
      walk_at "rd"
      refine iteD (fun h1 => ?_) (fun h1 => ?_)
      · have hj : j < ws.length := by rw [List.length_map] at h1; omega
        walk_at "rd"
        refine r_ixLt (k.get ha) (atI_nat (getmap (List.getElem?_eq_getElem hj))) ?_
        walk_at "rd"
        refine ⟨_, rfl, hw _ (List.getElem_mem hj), fun p1 H1 hp1 k1 => ?_⟩
        walk_at "rd"
        refine ⟨Nat.zero_le _, fun p2 np2 => ?_⟩
        walk_at "rd"
        have k2 : Kp [] H1 (upd H1 p2 (.lst [])) := (Kp.refl _ _).new np2
        refine r_neD (.lst (sqL_of (k2.get hp1)) (dpInts _)) (.lst (sqL_of upd_same) .nil) (shInts _) rfl ?_
        walk_at "rd"
        cases eo : ordIn ws[j] with
        | none =>
          have e1 : PyData.eqv (.list ((none : Option Int).toList.map PyData.int)) (.list []) = true := rfl
          rw [e1]
          walk_at "rd"
          refine ⟨j, rfl, ?_, (k.trans k1).trans k2⟩
          rw [drop_cons' hj, show ords (ws[j] :: ws.drop (j + 1)) = [] from by rw [ords, eo], List.append_nil] at e
          rw [← e]
          exact k2.get (k1.get hr1)
        | some n =>
          have e1 : PyData.eqv (.list ((some n).toList.map PyData.int)) (.list []) = false := rfl
          rw [e1]
          walk_at "rd"
          refine r_turn ?_
          have k02 := (k.trans k1).trans k2
          walk_at "rd"
          have hr2 := k2.get (k1.get hr1)
          refine ⟨tyL hr2, ?_⟩
          walk_at "rd"
          refine r_ixLt (k02.get ha) (atI_nat (getmap (List.getElem?_eq_getElem hj))) ?_
          walk_at "rd"
          refine ⟨_, rfl, hw _ (List.getElem_mem hj), fun p3 H3 hp3 k3 => ?_⟩
          rw [eo] at hp3
          walk_at "rd"
          refine r_ext (k3.get hr2) hp3 (by rw [sizeLine_eq, List.length_map]; show l.length + 1 ≤ _; omega) ?_
          walk_at "rd"
          refine ⟨_, ?_, j + 1, l ++ [n], rfl, rfl, ?_, (k02.trans k3).own nr, ?_, ?_⟩
          · omega
          · rw [upd_same, List.map_append]; rfl
          · rw [← e, drop_cons' hj, List.append_assoc]
            show l ++ (n :: ords (ws.drop (j + 1))) = l ++ ords (ws[j] :: ws.drop (j + 1))
            rw [show ords (ws[j] :: ws.drop (j + 1)) = n :: ords (ws.drop (j + 1)) from by rw [ords, eo]]
          · rw [List.length_append]; show l.length + 1 + _ ≤ _; omega
      · have hj : ws.length ≤ j := by rw [List.length_map] at h1; omega
        walk_at "rd"
        refine ⟨j, rfl, ?_, k⟩
        rw [← e, List.drop_eq_nil_of_le hj]
        show H' r = some (.lst ((l ++ []).map V.int))
        rw [List.append_nil]
        exact hr1
    · rintro σ' H' ⟨j, rfl, hr1, k⟩
      walk_at "rd"
      exact q r H' nr hr1 k
end
end K34

set_option Elab.async false
set_option linter.all false
set_option maxRecDepth 100000
set_option maxHeartbeats 4000000
set_option pp.maxSteps 1200
local macro_rules | `(tactic| walk_at "side") => `(tactic| first
  | exact rfl
  | omega
  | exact ⟨by omega, by omega⟩
  | exact Or.inl ⟨by omega, by omega⟩
  | exact Or.inr ⟨by omega, by omega⟩
  | exact ⟨by decide, by decide, by decide⟩
  | exact ⟨by omega, by omega, by omega⟩
  | decide)
local macro_rules | `(tactic| walk_at "ne") => `(tactic| first
  | assumption
  | (apply Ne.symm; assumption)
  | exact L2.ne_of_none ‹_› ‹_›
  | exact (L2.ne_of_none ‹_› ‹_›).symm)
local macro_rules | `(tactic| walk_at "hp") => `(tactic| first
  | assumption
  | exact L2.upd_same
  | (refine (L2.upd_ne ?n).trans ?r; (case n => walk_at "ne"); (case r => walk_at "hp"))
  | (refine Rd.Kp.get ?k ?r; (case k => assumption); (case r => walk_at "hp")))
local macro_rules | `(tactic| walk_at "nn") => `(tactic| first
  | assumption
  | exact (Rd.nu ‹_›).2
  | (refine Rd.Kp.none ?k ?h; (case k => assumption); (case h => assumption)))
local macro_rules | `(tactic| walk_at "kp") => `(tactic| first
  | exact Rd.Kp.refl _ _
  | assumption
  | (refine' Rd.Kp.new ?a ?n; (case n => assumption); (case a => walk_at "kp"))
  | (refine' Rd.Kp.own ?a ?n; (case n => walk_at "nn"); (case a => walk_at "kp"))
  | (refine' Rd.Kp.put ?a ?n; (case n => simp); (case a => walk_at "kp"))
  | (refine' Rd.Kp.trans ?a ?b; (case b => assumption); (case a => walk_at "kp")))
local macro_rules | `(tactic| walk_at "kit") => `(tactic| first
  | exact Rd.kt_NoneType_int
  | exact Rd.kt_NoneType_bool
  | exact Rd.kt_NoneType_str
  | exact Rd.kt_NoneType_list
  | exact Rd.kt_NoneType_tuple
  | exact Rd.kt_NoneType_dict
  | exact Rd.kt_bool_int
  | exact Rd.kt_bool_bool
  | exact Rd.kt_bool_str
  | exact Rd.kt_bool_list
  | exact Rd.kt_bool_tuple
  | exact Rd.kt_bool_dict
  | exact Rd.kt_int_int
  | exact Rd.kt_int_bool
  | exact Rd.kt_int_str
  | exact Rd.kt_int_list
  | exact Rd.kt_int_tuple
  | exact Rd.kt_int_dict
  | exact Rd.kt_str_int
  | exact Rd.kt_str_bool
  | exact Rd.kt_str_str
  | exact Rd.kt_str_list
  | exact Rd.kt_str_tuple
  | exact Rd.kt_str_dict
  | exact Rd.kt_list_int
  | exact Rd.kt_list_bool
  | exact Rd.kt_list_str
  | exact Rd.kt_list_list
  | exact Rd.kt_list_tuple
  | exact Rd.kt_list_dict
  | exact Rd.kt_tuple_int
  | exact Rd.kt_tuple_bool
  | exact Rd.kt_tuple_str
  | exact Rd.kt_tuple_list
  | exact Rd.kt_tuple_tuple
  | exact Rd.kt_tuple_dict
  | exact Rd.kt_dict_int
  | exact Rd.kt_dict_bool
  | exact Rd.kt_dict_str
  | exact Rd.kt_dict_list
  | exact Rd.kt_dict_tuple
  | exact Rd.kt_dict_dict
  | assumption)
local macro_rules | `(tactic| walk_at "ty") => `(tactic| first
  | exact .base (.int _)
  | exact .base (.str _)
  | exact .base (.bl _)
  | exact .base .non
  | (refine .base (.lst ?h); (case h => walk_at "hp"))
  | (refine .base (.tup ?h); (case h => walk_at "hp"))
  | assumption)
local macro_rules | `(tactic| walk_at "rd") => `(tactic| repeat' (first
  | with_reducible refine' Rd.r_seq ?_
  | ((with_reducible refine' Rd.r_var ?h1 ?_); (case h1 => exact rfl))
  | with_reducible refine' Rd.r_c ?_
  | with_reducible refine' Rd.r_op ?_
  | with_reducible refine' Rd.r_un ?_
  | with_reducible refine' Rd.r_U ?_
  | with_reducible refine' Rd.r_I0 ?_
  | ((with_reducible refine' Rd.r_I ?hI ?_); (case hI => walk_at "side"))
  | ((with_reducible refine' Rd.r_eq ?hS ?_); (case hS => exact rfl))
  | ((with_reducible refine' Rd.r_ne ?hS ?_); (case hS => exact rfl))
  | with_reducible refine' Rd.r_test ?_
  | with_reducible refine' Rd.r_B ?_
  | with_reducible refine' Rd.r_bl ?_
  | with_reducible refine' Rd.r_not ?_
  | with_reducible refine' Rd.r_and ?_
  | with_reducible refine' Rd.r_or ?_
  | with_reducible refine' Rd.r_ifE ?_
  | with_reducible refine' Rd.r_nil ?_
  | with_reducible refine' Rd.r_cons ?_
  | with_reducible refine' Rd.r_cb ?_
  | with_reducible refine' Rd.r_tup ?_
  | with_reducible refine' Rd.r_lst ?_
  | with_reducible refine' Rd.r_call ?_
  | with_reducible refine' Rd.r_callS ?_
  | with_reducible refine' Rd.r_sl ?_
  | with_reducible refine' Rd.r_nopart ?_
  | with_reducible refine' Rd.r_part ?_
  | with_reducible refine' Rd.r_int ?_
  | with_reducible refine' Rd.r_bm ?_
  | with_reducible refine' Rd.r_bm0 ?_
  | with_reducible refine' Rd.r_m0 ?_
  | with_reducible refine' Rd.r_m1 ?_
  | with_reducible refine' Rd.r_str ?_
  | with_reducible refine' Rd.r_if ?_
  | with_reducible refine' L2.iteT ?_
  | with_reducible refine' L2.iteF ?_
  | with_reducible refine' Rd.iteNT ?_
  | with_reducible refine' Rd.iteNF ?_
  | with_reducible refine' Rd.r_isN0 ?_
  | with_reducible refine' Rd.r_notN0 ?_
  | ((with_reducible refine' Rd.r_isN1 ?hb ?_); (case hb => exact nofun))
  | ((with_reducible refine' Rd.r_notN1 ?hb ?_); (case hb => exact nofun))
  | with_reducible refine' Rd.r_ret ?_
  | with_reducible refine' Rd.r_retN ?_
  | with_reducible refine' Rd.r_next ?_
  | with_reducible refine' Rd.r_break ?_
  | with_reducible refine' Rd.r_cont ?_
  | with_reducible refine' Rd.r_drop ?_
  | with_reducible refine' Rd.r_asg ?_
  | ((with_reducible refine' Rd.r_name ?h2 ?_); (case h2 => exact rfl))
  | with_reducible refine' Rd.r_sub ?_
  | with_reducible refine' Rd.r_tpar ?_
  | ((with_reducible refine' Rd.r_par2 ?h2 ?_); (case h2 => exact rfl))
  | with_reducible refine' Rd.r_for ?_
  | with_reducible refine' Rd.r_iRng1 ?_
  | with_reducible refine' Rd.r_iList ?_
  | with_reducible refine' Rd.r_iTup ?_
  | with_reducible refine' Rd.r_int1 ?_
  | with_reducible refine' Rd.r_intB ?_
  | with_reducible refine' Rd.r_abs ?_
  | ((with_reducible refine' Rd.r_ixLt ?h3 ?h4 ?_); (case h3 => walk_at "hp"); (case h4 => exact rfl))
  | ((with_reducible refine' Rd.r_setL ?h3 ?h4 ?_); (case h3 => walk_at "hp"); (case h4 => exact rfl))
  | ((with_reducible refine' Rd.r_lenL' (Rd.sqL_of ?h3) ?_); (case h3 => walk_at "hp"))
  | ((with_reducible refine' Rd.r_lenS ?h3 ?_); (case h3 => assumption))
  | with_reducible refine' Rd.r_andV ?_
  | with_reducible refine' Rd.r_orV ?_
  | with_reducible refine' Rd.r_notV ?_
  | with_reducible refine' Rd.r_mk ?_
  | ((with_reducible refine' Rd.r_mkX ?h3 ?h4 ?_); (case h3 => exact rfl); (case h4 => decide))
  | ((with_reducible refine' Rd.r_isi ?h3 ?h4 ?h5 ?_); (case h3 => first | exact .ty _ | exact .own _); (case h4 => walk_at "ty"); (case h5 => walk_at "kit"))
  | with_reducible refine' Rd.r_lc ?_
  | with_reducible refine' Rd.r_yes ?_
  | with_reducible refine' Rd.r_iStr ?_
  | with_reducible refine' Rd.r_iEnum ?_
  | with_reducible refine' Rd.r_lc2 ?_
  | with_reducible refine' Rd.r_revT' ?_
  | with_reducible refine' Rd.r_max2 ?_
  | with_reducible refine' Rd.r_fldS ?_
  | ((with_reducible refine' Rd.r_fldI ?h1 ?h2 ?h3 ?h4 ?h5 ?_); (case h1 => exact rfl); (case h2 => walk_at "hp"); (case h3 => assumption); (case h4 => assumption); (case h5 => exact rfl))
  | with_reducible refine' Rd.r_chain ?_
  | with_reducible refine' Rd.r_make ?_
  ))
namespace K34
open PySem PySem.Spec PyProof.Rows L2 Rd PySem.W
def ringW (r : List Int) : List Str := ("*" : Str) :: r.map tx
def signW (h c : Nat) (l : List Int) (rs : List (List Int)) : List Str := List.replicate h ("o" : Str) ++ l.map tx ++ rs.flatMap ringW ++ List.replicate c ("x" : Str)
def signT (h c : Nat) (l : List Int) (rs : List (List Int)) : Str := if signW h c l rs = [] then "-" else Txt.join " " (signW h c l rs)
theorem rep_flat (n : Nat) (x : Str) : (List.replicate n [V.str x]).flatten = (List.replicate n x).map V.str := by
  induction n with
  | zero => rfl
  | succ n ih => rw [List.replicate_succ, List.replicate_succ, List.flatten_cons, ih]; rfl
theorem dp_rows {K : PySem.W.Frag} {H : Hp} : ∀ {ms : List V} {rs : List (List Int)}, DpAll K H ms (rs.map tI) → ∃ ps : List (Addr × List Int), ms = ps.map (fun q => V.ref q.1) ∧ ps.map (·.2) = rs ∧ ∀ q ∈ ps, SqT K H q.1 (q.2.map V.int)
  | _, [], h => by
    have h' : DpAll K H _ [] := h
    cases h'; exact ⟨[], rfl, rfl, fun q hq => absurd hq (by simp)⟩
  | _, r :: rs, h => by
    have h' : DpAll K H _ (tI r :: rs.map tI) := h
    cases h' with
    | cons h1 h2 =>
      obtain ⟨p, rfl, hp⟩ := dp_tI_inv h1
      obtain ⟨ps, rfl, e, hps⟩ := dp_rows h2
      refine ⟨(p, r) :: ps, rfl, by rw [List.map_cons, e], fun q hq => ?_⟩
      rcases List.mem_cons.mp hq with rfl | hq
      · exact hp
      · exact hps q hq
def Wd (x : Str) : Prop := x.length ≤ 3 ∧ PyData.canLay0 (.str x) = true
instance (x : Str) : Decidable (Wd x) := inferInstanceAs (Decidable (_ ∧ _))
theorem tx_wd' : ∀ k : Fin 119, Wd (tx (2 + k.val : Int)) := by decide +kernel
theorem tx_wd {n : Int} (h : 2 ≤ n ∧ n ≤ 120) : Wd (tx n) := by
  have := tx_wd' ⟨(n - 2).toNat, by omega⟩
  have e : (2 + ((n - 2).toNat : Nat) : Int) = n := by omega
  simp only [e] at this
  exact this
theorem wd_o : Wd "o" := by decide +kernel
theorem wd_s : Wd "*" := by decide +kernel
theorem wd_x : Wd "x" := by decide +kernel
theorem signW_ok (h c : Nat) (l : List Int) (rs : List (List Int)) (hl : Ord l) (hr : ∀ r ∈ rs, Ord r) : ∀ x ∈ signW h c l rs, Wd x := by
  intro x hx
  unfold signW at hx
  simp only [List.mem_append, List.mem_map, List.mem_flatMap] at hx
  rcases hx with ((hx | ⟨n, hn, rfl⟩) | ⟨r, hr', hx⟩) | hx
  · rw [List.eq_of_mem_replicate hx]; exact wd_o
  · exact tx_wd (hl n hn)
  · rcases List.mem_cons.mp hx with rfl | hx
    · exact wd_s
    · obtain ⟨n, hn, rfl⟩ := List.mem_map.mp hx
      exact tx_wd (hr r hr' n hn)
  · rw [List.eq_of_mem_replicate hx]; exact wd_x
theorem sum_le {ws : List Str} {b : Nat} (h : ∀ x ∈ ws, x.length ≤ b) : (ws.map (·.length)).sum ≤ ws.length * b := by
  induction ws with
  | nil => exact Nat.zero_le _
  | cons x ws ih =>
    have h1 := h x List.mem_cons_self
    have h2 := ih fun y hy => h y (List.mem_cons_of_mem _ hy)
    rw [List.map_cons, List.sum_cons, List.length_cons, Nat.add_mul]
    omega
section
variable {P : Program} {w : World} {K : PySem.W.Frag} {mg : Str → Option Value} {base : Heap}
/-! sign_text -/
def spSignText (K : PySem.W.Frag) (CS : Addr) : Sp := fun vs H Q _ => ∃ (p : Addr) (h c : Nat) (l : List Int) (rs : List (List Int)), vs = [.ref p] ∧ SigAt K CS H p h c l rs ∧ Ord l ∧ (∀ r ∈ rs, Ord r) ∧ (signW h c l rs).length ≤ 1000 ∧
  ∀ H', Kp [] H H' → Q (.str (signT h c l rs)) H'
abbrev sSignText : Stmt := topS 34
theorem scSignText : FnScope ["signature", "words", "order", "ring"] ["signature"] (defScope (topS 34)) := ⟨rfl, rfl, rfl, by decide +kernel, rfl, by decide +kernel, by decide +kernel⟩
theorem ok_signText {f CS : Addr} {fd : FuncData} (F : Fn K "sign_text" 34 [] f fd) (G : Gm mg) (S : SigC K CS) (C_needSig : CalX P w K mg base 3 "need_signature" (spNeedSig K CS) []) : FnOk P w K mg base (L2.CX P w) 4 f fd ["signature"] (spSignText K CS) := by
  refine F.ok scSignText (fun vs H Q E h => ?_) (fun cdv A outer s H vs Q E hr h => ?_)
  · obtain ⟨_, _, _, _, _, rfl, _⟩ := h
    rfl
  · obtain ⟨p, h, c, l, rs, rfl, s1, hl, hrs, hlen, q⟩ := h
    have nd := scSignText.nd
    obtain ⟨cl, nh, nca, nco, nm, np⟩ := S
    refine ⟨_, (pss_cons (ps_expr (pe_cx C_needSig hr (by decide) (by rfl) pX0 (pa_cons pe_str (pa_cons (pv 0) pa_nil))))
      (pss_cons (ps_set (i := 1) nd rfl (.inl rfl) (pe_op op_cat (pe_op op_rep (pe_lst (pa_cons (C8.pe_gc (by rfl) G.HANDLE) pa_nil)) (pe_fld (pv 0) rfl)) (pe_lc (own := [("order", 2)]) (by rfl) nd (pi_tup (pe_fld (pv 0) rfl)) (blkOk_by (own := [("order", 2)]) (N := ["signature", "words", "order", "ring"]) (sc := defScope sSignText) (by decide +kernel)) (fun _ _ _ _ _ => (pg_name (i := 2) nd rfl (.inl rfl))) (fun _ _ _ _ _ => pts_nil) (fun _ _ _ _ _ => (pe_callTy c_strI (by rfl) G.str bt_str (pa_cons (pv 2) pa_nil))))))
      (C8.pss_cut (ps_for (passes_of rfl) rfl (pi_tup (pe_fld (pv 0) rfl)) (pg_name (i := 3) nd rfl (.inl rfl)) (pss_one (ps_set (i := 1) nd rfl (.inl rfl) (pe_op op_cat (pe_op op_cat (pv 1) (pe_lst (pa_cons (C8.pe_gc (by rfl) G.RING) pa_nil))) (pe_lc (own := [("order", 2)]) (by rfl) nd (pi_tup (pv 3)) (blkOk_by (own := [("order", 2)]) (N := ["signature", "words", "order", "ring"]) (sc := defScope sSignText) (by decide +kernel)) (fun _ _ _ _ _ => (pg_name (i := 2) nd rfl (.inl rfl))) (fun _ _ _ _ _ => pts_nil) (fun _ _ _ _ _ => (pe_callTy c_strI (by rfl) G.str bt_str (pa_cons (pv 2) pa_nil))))))))
      (pss_cons (ps_set (i := 1) nd rfl (.inl rfl) (pe_op op_cat (pv 1) (pe_op op_rep (pe_lst (pa_cons (C8.pe_gc (by rfl) G.CAP) pa_nil)) (pe_fld (pv 0) rfl))))
      (pss_one (ps_ret (pe_ifExp (pt_cmpR (op_neD hr.units) (pv 1) (pe_lst pa_nil) (nomark _)) (pe_join pe_str (pv 1)) (C8.pe_gc (by rfl) G.NONE)))))))), ?_⟩
    try dsimp only [Rd.cxK]
    walk_at "rd"
    refine ⟨_, p, h, c, l, rs, rfl, s1, ?_⟩
    obtain ⟨dx, pc, pm, pp, ms, a1, a2, a3, a4, a5⟩ := s1
    obtain ⟨ps, rfl, rfl, hps⟩ := dp_rows a4
    unfold sigF at a1
    have hlen' : h + l.length + ((ps.map (·.2)).flatMap ringW).length + c ≤ 1000 := by
      unfold signW at hlen
      simp only [List.length_append, List.length_replicate, List.length_map] at hlen
      exact hlen
    walk_at "rd"
    refine ⟨by show (1 : Nat) ≤ sizeLine; decide, fun b1 nb1 => ?_⟩
    walk_at "rd"
    refine r_rep upd_same (by omega) (by omega) (by rw [sizeLine_eq]; show 1 * (Int.toNat (h : Int)) ≤ _; omega) fun b2 nb2 => ?_
    rw [Int.toNat_natCast, rep_flat]
    have k2 : Kp [] H (upd (upd H b1 (.lst [.str "o"])) b2 (.lst ((List.replicate h ("o" : Str)).map V.str))) := ((Kp.refl _ _).new nb1).new nb2
    have hb2 : (upd (upd H b1 (.lst [.str "o"])) b2 (.lst ((List.replicate h ("o" : Str)).map V.str))) b2 = some (.lst ((List.replicate h ("o" : Str)).map V.str)) := upd_same
    generalize upd (upd H b1 (.lst [.str "o"])) b2 (.lst ((List.replicate h ("o" : Str)).map V.str)) = H2 at *
    have a1' := k2.get a1
    have a2' := k2.get a2
    walk_at "rd"
    refine q_lcT l V.int (fun D pre H3 => H3 D = some (.lst ((pre.map tx).map V.str)) ∧ Kp [] H2 H3) (sqT_of a2') (fun D nD => ⟨upd_same, by walk_at "kp"⟩) (fun D pre H3 nD h3 => sqT_of (h3.2.get a2')) (fun D pre x post H3 nD e h3 => ?_) (fun D H3 nD h3 => ?_)
    · have hx : 2 ≤ x ∧ x ≤ 120 := hl x (by rw [e]; simp)
      have hpre : pre.length < l.length := by rw [e]; simp
      walk_at "rd"
      refine ⟨rfl, ?_⟩
      walk_at "rd"
      refine r_strI (Nat.lt_of_lt_of_le (by omega : x.natAbs < 1000) (by decide)) ?_
      refine ⟨_, h3.1, by rw [sizeLine_eq, List.length_map, List.length_map]; omega, ?_, h3.2.own nD⟩
      rw [upd_same, List.map_append, List.map_append]; rfl
    obtain ⟨hD, k3⟩ := h3
    refine r_cat (k3.get hb2) hD (by rw [sizeLine_eq]; simp only [List.length_map, List.length_replicate]; omega) fun b3 nb3 => ?_
    walk_at "rd"
    have k4 : Kp [] H (upd H3 b3 (.lst ((List.replicate h ("o" : Str)).map V.str ++ (l.map tx).map V.str))) := (k2.trans k3).new nb3
    have hb4 : (upd H3 b3 (.lst ((List.replicate h ("o" : Str)).map V.str ++ (l.map tx).map V.str))) b3 = some (.lst ((List.replicate h ("o" : Str) ++ l.map tx).map V.str)) := by rw [upd_same, List.map_append]
    generalize upd H3 b3 (.lst ((List.replicate h ("o" : Str)).map V.str ++ (l.map tx).map V.str)) = H4 at *
    refine r_cut (fun σ' H' => ∃ (b : Addr) (o1 o2 : Option V), σ' = [some (.ref p), some (.ref b), o1, o2] ∧ H' b = some (.lst ((List.replicate h ("o" : Str) ++ l.map tx ++ (ps.map (·.2)).flatMap ringW).map V.str)) ∧ Kp [] H H') ?_ ?_
    · have a1'' := k4.get a1
      walk_at "rd"
      refine q_forT ps (fun q => V.ref q.1) (fun pre σ' H' => ∃ (b : Addr) (o1 o2 : Option V), σ' = [some (.ref p), some (.ref b), o1, o2] ∧ H' b = some (.lst ((List.replicate h ("o" : Str) ++ l.map tx ++ (pre.map (·.2)).flatMap ringW).map V.str)) ∧ Kp [] H H') (sqT_of (k4.get a3)) ⟨b3, _, _, rfl, by rw [hb4]; simp, k4⟩ (fun pre σ' H' h' => by obtain ⟨_, _, _, _, _, k⟩ := h'; exact sqT_of (k.get a3)) (fun pre x post σ' H' e h' => ?_) (fun σ' H' h' => h')
      obtain ⟨b, o1, o2, rfl, hb, k⟩ := h'
      have hx : x ∈ ps := by rw [e]; simp
      have hxo : Ord x.2 := hrs _ (List.mem_map.mpr ⟨x, hx, rfl⟩)
      have hcount : h + l.length + ((pre.map (·.2)).flatMap ringW).length + 1 + x.2.length ≤ 1000 := by
        have e2 : ((ps.map (·.2)).flatMap ringW).length = ((pre.map (·.2)).flatMap ringW).length + (1 + x.2.length) + ((post.map (·.2)).flatMap ringW).length := by
          rw [e, List.map_append, List.flatMap_append, List.length_append, List.map_cons, List.flatMap_cons, List.length_append]
          have : (ringW x.2).length = 1 + x.2.length := by unfold ringW; rw [List.length_cons, List.length_map]; omega
          omega
        omega
      walk_at "rd"
      refine ⟨by show (1 : Nat) ≤ sizeLine; decide, fun b5 nb5 => ?_⟩
      have k5 : Kp [] H' (upd H' b5 (.lst [.str "*"])) := (Kp.refl _ _).new nb5
      refine r_cat (k5.get hb) upd_same (by rw [sizeLine_eq]; simp only [List.length_map, List.length_append, List.length_replicate, List.length_cons, List.length_nil]; omega) fun b6 nb6 => ?_
      have hb6 : (upd (upd H' b5 (.lst [.str "*"])) b6 (.lst ((List.replicate h ("o" : Str) ++ l.map tx ++ (pre.map (·.2)).flatMap ringW).map V.str ++ [.str "*"]))) b6 = some (.lst ((List.replicate h ("o" : Str) ++ l.map tx ++ (pre.map (·.2)).flatMap ringW ++ [("*" : Str)]).map V.str)) := by simp only [upd_same, List.map_append, List.map_cons, List.map_nil]
      have k6 : Kp [] H (upd (upd H' b5 (.lst [.str "*"])) b6 (.lst ((List.replicate h ("o" : Str) ++ l.map tx ++ (pre.map (·.2)).flatMap ringW).map V.str ++ [.str "*"]))) := (k.trans k5).new nb6
      generalize upd (upd H' b5 (.lst [.str "*"])) b6 (.lst ((List.replicate h ("o" : Str) ++ l.map tx ++ (pre.map (·.2)).flatMap ringW).map V.str ++ [.str "*"])) = H6 at *
      walk_at "rd"
      refine q_lcT x.2 V.int (fun D pre H7 => H7 D = some (.lst ((pre.map tx).map V.str)) ∧ Kp [] H6 H7) (k6.sqT (by simp) (hps x hx)) (fun D nD => ⟨upd_same, by walk_at "kp"⟩) (fun D pre H7 nD h7 => (k6.trans h7.2).sqT (by simp) (hps x hx)) (fun D pre2 y post2 H7 nD e7 h7 => ?_) (fun D H7 nD h7 => ?_)
      · have hy : 2 ≤ y ∧ y ≤ 120 := hxo y (by rw [e7]; simp)
        have hpre2 : pre2.length < x.2.length := by rw [e7]; simp
        walk_at "rd"
        refine ⟨rfl, ?_⟩
        walk_at "rd"
        refine r_strI (Nat.lt_of_lt_of_le (by omega : y.natAbs < 1000) (by decide)) ?_
        refine ⟨_, h7.1, by rw [sizeLine_eq, List.length_map, List.length_map]; omega, ?_, h7.2.own nD⟩
        rw [upd_same, List.map_append, List.map_append]; rfl
      obtain ⟨hD7, k7⟩ := h7
      refine r_cat (k7.get hb6) hD7 (by rw [sizeLine_eq]; simp only [List.length_map, List.length_append, List.length_replicate, List.length_cons, List.length_nil]; omega) fun b8 nb8 => ?_
      walk_at "rd"
      refine ⟨b8, _, _, rfl, ?_, (k6.trans k7).new nb8⟩
      rw [upd_same, ← List.map_append, List.map_append (f := fun q : Addr × List Int => q.2), List.flatMap_append]
      simp [ringW]
    · rintro σ' H' ⟨b, o1, o2, rfl, hb, k⟩
      have a1'' := k.get a1
      walk_at "rd"
      refine ⟨by show (1 : Nat) ≤ sizeLine; decide, fun b5 nb5 => ?_⟩
      have k5 : Kp [] H' (upd H' b5 (.lst [.str "x"])) := (Kp.refl _ _).new nb5
      have a1t := k5.get a1''
      walk_at "rd"
      refine r_rep upd_same (by omega) (by omega) (by rw [sizeLine_eq]; show 1 * (Int.toNat (c : Int)) ≤ _; omega) fun b6 nb6 => ?_
      rw [Int.toNat_natCast, rep_flat] at *
      have k6 : Kp [] H' (upd (upd H' b5 (.lst [.str "x"])) b6 (.lst ((List.replicate c ("x" : Str)).map V.str))) := k5.new nb6
      refine r_cat (k6.get hb) upd_same (by rw [sizeLine_eq]; simp only [List.length_map, List.length_append, List.length_replicate]; omega) fun b7 nb7 => ?_
      walk_at "rd"
      have hW : (List.replicate h ("o" : Str) ++ l.map tx ++ (ps.map (·.2)).flatMap ringW).map V.str ++ (List.replicate c ("x" : Str)).map V.str = (signW h c l (ps.map (·.2))).map V.str := by rw [← List.map_append]; rfl
      rw [hW] at *
      have k7 : Kp [] H (upd (upd (upd H' b5 (.lst [.str "x"])) b6 (.lst ((List.replicate c ("x" : Str)).map V.str))) b7 (.lst ((signW h c l (ps.map (·.2))).map V.str))) := (k.trans k6).new nb7
      have hb7 : (upd (upd (upd H' b5 (.lst [.str "x"])) b6 (.lst ((List.replicate c ("x" : Str)).map V.str))) b7 (.lst ((signW h c l (ps.map (·.2))).map V.str))) b7 = some (.lst ((signW h c l (ps.map (·.2))).map V.str)) := upd_same
      generalize upd (upd (upd H' b5 (.lst [.str "x"])) b6 (.lst ((List.replicate c ("x" : Str)).map V.str))) b7 (.lst ((signW h c l (ps.map (·.2))).map V.str)) = H7 at *
      refine ⟨Nat.zero_le _, fun b8 nb8 => ?_⟩
      have k8 : Kp [] H7 (upd H7 b8 (.lst [])) := (Kp.refl _ _).new nb8
      refine r_neD (.lst (sqL_of (k8.get hb7)) (dpStrs _)) (.lst (sqL_of upd_same) .nil) (shStrs _ fun x hx => (signW_ok h c l _ hl hrs x hx).2) rfl ?_
      walk_at "rd"
      have qq := q _ ((k7).trans k8)
      have hb8 := k8.get hb7
      have hsum := sum_le fun x hx => (signW_ok h c l _ hl hrs x hx).1
      unfold signT at qq
      generalize signW h c l (ps.map (·.2)) = W at *
      have ee : PyData.eqv (.list (W.map PyData.str)) (.list []) = decide (W = []) := eqvStrs W []
      rw [ee]
      by_cases hw : W = []
      · rw [if_pos hw] at qq
        rw [decide_eq_true hw]
        walk_at "rd"
        exact qq
      · rw [if_neg hw] at qq
        rw [decide_eq_false hw]
        walk_at "rd"
        refine ⟨_, b7, W, rfl, rfl, .inl (sqL_of hb8), ?_, qq⟩
        show _ + W.length * 1 ≤ _
        omega
end
end K34

set_option Elab.async false
set_option linter.all false
set_option maxRecDepth 100000
set_option maxHeartbeats 4000000
set_option pp.maxSteps 1200
local macro_rules | `(tactic| walk_at "side") => `(tactic| first
  | exact rfl
  | omega
  | exact ⟨by omega, by omega⟩
  | exact Or.inl ⟨by omega, by omega⟩
  | exact Or.inr ⟨by omega, by omega⟩
  | exact ⟨by decide, by decide, by decide⟩
  | exact ⟨by omega, by omega, by omega⟩
  | decide)
local macro_rules | `(tactic| walk_at "ne") => `(tactic| first
  | assumption
  | (apply Ne.symm; assumption)
  | exact L2.ne_of_none ‹_› ‹_›
  | exact (L2.ne_of_none ‹_› ‹_›).symm)
local macro_rules | `(tactic| walk_at "hp") => `(tactic| first
  | assumption
  | exact L2.upd_same
  | (refine (L2.upd_ne ?n).trans ?r; (case n => walk_at "ne"); (case r => walk_at "hp"))
  | (refine Rd.Kp.get ?k ?r; (case k => assumption); (case r => walk_at "hp")))
local macro_rules | `(tactic| walk_at "nn") => `(tactic| first
  | assumption
  | exact (Rd.nu ‹_›).2
  | (refine Rd.Kp.none ?k ?h; (case k => assumption); (case h => assumption)))
local macro_rules | `(tactic| walk_at "kp") => `(tactic| first
  | exact Rd.Kp.refl _ _
  | assumption
  | (refine' Rd.Kp.new ?a ?n; (case n => assumption); (case a => walk_at "kp"))
  | (refine' Rd.Kp.own ?a ?n; (case n => walk_at "nn"); (case a => walk_at "kp"))
  | (refine' Rd.Kp.put ?a ?n; (case n => simp); (case a => walk_at "kp"))
  | (refine' Rd.Kp.trans ?a ?b; (case b => assumption); (case a => walk_at "kp")))
local macro_rules | `(tactic| walk_at "kit") => `(tactic| first
  | exact Rd.kt_NoneType_int
  | exact Rd.kt_NoneType_bool
  | exact Rd.kt_NoneType_str
  | exact Rd.kt_NoneType_list
  | exact Rd.kt_NoneType_tuple
  | exact Rd.kt_NoneType_dict
  | exact Rd.kt_bool_int
  | exact Rd.kt_bool_bool
  | exact Rd.kt_bool_str
  | exact Rd.kt_bool_list
  | exact Rd.kt_bool_tuple
  | exact Rd.kt_bool_dict
  | exact Rd.kt_int_int
  | exact Rd.kt_int_bool
  | exact Rd.kt_int_str
  | exact Rd.kt_int_list
  | exact Rd.kt_int_tuple
  | exact Rd.kt_int_dict
  | exact Rd.kt_str_int
  | exact Rd.kt_str_bool
  | exact Rd.kt_str_str
  | exact Rd.kt_str_list
  | exact Rd.kt_str_tuple
  | exact Rd.kt_str_dict
  | exact Rd.kt_list_int
  | exact Rd.kt_list_bool
  | exact Rd.kt_list_str
  | exact Rd.kt_list_list
  | exact Rd.kt_list_tuple
  | exact Rd.kt_list_dict
  | exact Rd.kt_tuple_int
  | exact Rd.kt_tuple_bool
  | exact Rd.kt_tuple_str
  | exact Rd.kt_tuple_list
  | exact Rd.kt_tuple_tuple
  | exact Rd.kt_tuple_dict
  | exact Rd.kt_dict_int
  | exact Rd.kt_dict_bool
  | exact Rd.kt_dict_str
  | exact Rd.kt_dict_list
  | exact Rd.kt_dict_tuple
  | exact Rd.kt_dict_dict
  | assumption)
local macro_rules | `(tactic| walk_at "ty") => `(tactic| first
  | exact .base (.int _)
  | exact .base (.str _)
  | exact .base (.bl _)
  | exact .base .non
  | (refine .base (.lst ?h); (case h => walk_at "hp"))
  | (refine .base (.tup ?h); (case h => walk_at "hp"))
  | assumption)
local macro_rules | `(tactic| walk_at "rd") => `(tactic| repeat' (first
  | with_reducible refine' Rd.r_seq ?_
  | ((with_reducible refine' Rd.r_var ?h1 ?_); (case h1 => exact rfl))
  | with_reducible refine' Rd.r_c ?_
  | with_reducible refine' Rd.r_op ?_
  | with_reducible refine' Rd.r_un ?_
  | with_reducible refine' Rd.r_U ?_
  | with_reducible refine' Rd.r_I0 ?_
  | ((with_reducible refine' Rd.r_I ?hI ?_); (case hI => walk_at "side"))
  | ((with_reducible refine' Rd.r_eq ?hS ?_); (case hS => exact rfl))
  | ((with_reducible refine' Rd.r_ne ?hS ?_); (case hS => exact rfl))
  | with_reducible refine' Rd.r_test ?_
  | with_reducible refine' Rd.r_B ?_
  | with_reducible refine' Rd.r_bl ?_
  | with_reducible refine' Rd.r_not ?_
  | with_reducible refine' Rd.r_and ?_
  | with_reducible refine' Rd.r_or ?_
  | with_reducible refine' Rd.r_ifE ?_
  | with_reducible refine' Rd.r_nil ?_
  | with_reducible refine' Rd.r_cons ?_
  | with_reducible refine' Rd.r_cb ?_
  | with_reducible refine' Rd.r_tup ?_
  | with_reducible refine' Rd.r_lst ?_
  | with_reducible refine' Rd.r_call ?_
  | with_reducible refine' Rd.r_callS ?_
  | with_reducible refine' Rd.r_sl ?_
  | with_reducible refine' Rd.r_nopart ?_
  | with_reducible refine' Rd.r_part ?_
  | with_reducible refine' Rd.r_int ?_
  | with_reducible refine' Rd.r_bm ?_
  | with_reducible refine' Rd.r_bm0 ?_
  | with_reducible refine' Rd.r_m0 ?_
  | with_reducible refine' Rd.r_m1 ?_
  | with_reducible refine' Rd.r_str ?_
  | with_reducible refine' Rd.r_if ?_
  | with_reducible refine' L2.iteT ?_
  | with_reducible refine' L2.iteF ?_
  | with_reducible refine' Rd.iteNT ?_
  | with_reducible refine' Rd.iteNF ?_
  | with_reducible refine' Rd.r_isN0 ?_
  | with_reducible refine' Rd.r_notN0 ?_
  | ((with_reducible refine' Rd.r_isN1 ?hb ?_); (case hb => exact nofun))
  | ((with_reducible refine' Rd.r_notN1 ?hb ?_); (case hb => exact nofun))
  | with_reducible refine' Rd.r_ret ?_
  | with_reducible refine' Rd.r_retN ?_
  | with_reducible refine' Rd.r_next ?_
  | with_reducible refine' Rd.r_break ?_
  | with_reducible refine' Rd.r_cont ?_
  | with_reducible refine' Rd.r_drop ?_
  | with_reducible refine' Rd.r_asg ?_
  | ((with_reducible refine' Rd.r_name ?h2 ?_); (case h2 => exact rfl))
  | with_reducible refine' Rd.r_sub ?_
  | with_reducible refine' Rd.r_tpar ?_
  | ((with_reducible refine' Rd.r_par2 ?h2 ?_); (case h2 => exact rfl))
  | with_reducible refine' Rd.r_for ?_
  | with_reducible refine' Rd.r_iRng1 ?_
  | with_reducible refine' Rd.r_iList ?_
  | with_reducible refine' Rd.r_iTup ?_
  | with_reducible refine' Rd.r_int1 ?_
  | with_reducible refine' Rd.r_intB ?_
  | with_reducible refine' Rd.r_abs ?_
  | ((with_reducible refine' Rd.r_ixLt ?h3 ?h4 ?_); (case h3 => walk_at "hp"); (case h4 => exact rfl))
  | ((with_reducible refine' Rd.r_setL ?h3 ?h4 ?_); (case h3 => walk_at "hp"); (case h4 => exact rfl))
  | ((with_reducible refine' Rd.r_lenL' (Rd.sqL_of ?h3) ?_); (case h3 => walk_at "hp"))
  | ((with_reducible refine' Rd.r_lenS ?h3 ?_); (case h3 => assumption))
  | with_reducible refine' Rd.r_andV ?_
  | with_reducible refine' Rd.r_orV ?_
  | with_reducible refine' Rd.r_notV ?_
  | with_reducible refine' Rd.r_mk ?_
  | ((with_reducible refine' Rd.r_mkX ?h3 ?h4 ?_); (case h3 => exact rfl); (case h4 => decide))
  | ((with_reducible refine' Rd.r_isi ?h3 ?h4 ?h5 ?_); (case h3 => first | exact .ty _ | exact .own _); (case h4 => walk_at "ty"); (case h5 => walk_at "kit"))
  | with_reducible refine' Rd.r_lc ?_
  | with_reducible refine' Rd.r_yes ?_
  | with_reducible refine' Rd.r_iStr ?_
  | with_reducible refine' Rd.r_iEnum ?_
  | with_reducible refine' Rd.r_lc2 ?_
  | with_reducible refine' Rd.r_revT' ?_
  | with_reducible refine' Rd.r_max2 ?_
  | with_reducible refine' Rd.r_fldS ?_
  | ((with_reducible refine' Rd.r_fldI ?h1 ?h2 ?h3 ?h4 ?h5 ?_); (case h1 => exact rfl); (case h2 => walk_at "hp"); (case h3 => assumption); (case h4 => assumption); (case h5 => exact rfl))
  | with_reducible refine' Rd.r_chain ?_
  | with_reducible refine' Rd.r_make ?_
  ))
namespace K34
open PySem PySem.Spec PyProof.Rows L2 Rd PySem.W
def ReadEnd (K : PySem.W.Frag) (CS CN CT : Addr) (H : Hp) (Q : VK) (E : XK) : Told → Prop
  | .inl i => ∀ d H', H' d = some (.xd [("item", .int (i : Nat))]) → Kp [] H H' → E (.ref CT) (some d) H'
  | .inr (h, c, cs, rs) => (h ≤ 600 → c ≤ 600 → ∀ p H', SigAt K CS H' p (h : Nat) (c : Nat) (sortI cs) (sortR (rs.map leastRing)) → Kp [] H H' → Q (.ref p) H') ∧
    (600 < h → ∀ d H', H' d = some (.xd [("part", .str "handles")]) → Kp [] H H' → E (.ref CN) (some d) H') ∧
    (h ≤ 600 → 600 < c → ∀ d H', H' d = some (.xd [("part", .str "caps")]) → Kp [] H H' → E (.ref CN) (some d) H')
section
variable {P : Program} {w : World} {K : PySem.W.Frag} {mg : Str → Option Value} {base : Heap}
def spReadSign (K : PySem.W.Frag) (CS CN CT : Addr) : Sp := fun vs H Q E =>
  (∃ x : Str, vs = [.str x] ∧ x.length ≤ 100000 ∧ Txt.split x " " ≠ [] ∧ (Txt.split x " ").length ≤ 1000 ∧ (∀ y ∈ Txt.split x " ", y.length ≤ 100000) ∧ ReadEnd K CS CN CT H Q E (readP (Txt.split x " "))) ∨
  (∃ (v : V) (t : Value), vs = [v] ∧ TyX K H v t ∧ PySem.W.kitOne K t (.type "str") = some false ∧ ∀ d H', H' d = some (.xd [("item", .int 0)]) → Kp [] H H' → E (.ref CT) (some d) H')
abbrev sReadSign : Stmt := topS 35
theorem scReadSign : FnScope ["text", "words", "handles", "cones", "at", "rings", "end"] ["text"] (defScope (topS 35)) := ⟨rfl, rfl, rfl, by decide +kernel, rfl, by decide +kernel, by decide +kernel⟩
theorem ok_readSign {f CS CN CT : Addr} {fd : FuncData} (F : Fn K "read_sign" 35 [] f fd) (G : Gm mg) (X_BadText : ExcX P w K mg base "BadText" CT ["item"]) (M_Signature : MakX P w K mg base 5 "Signature" CS (spInit K CS CN) [])
    (C_taken : CalX P w K mg base 1 "taken" spTaken []) (C_ordersFrom : CalX P w K mg base 2 "orders_from" spOrdersFrom []) : FnOk P w K mg base (L2.CX P w) 7 f fd ["text"] (spReadSign K CS CN CT) := by
  refine F.ok scReadSign (fun vs H Q E h => ?_) (fun cdv A outer s H vs Q E hr h => ?_)
  · rcases h with ⟨_, rfl, _⟩ | ⟨_, _, rfl, _⟩ <;> rfl
  · have nd := scReadSign.nd
    refine ⟨_, (C8.pss_cut (ps_if (pt_not (pt_val (pe_callB call_isi (by rfl) G.isinstance bt_isinstance (pa_cons (pv 0) (pa_cons (pe_ty (by rfl) G.str bt_str) pa_nil))))) (pss_one (ps_raise rfl (takes_of rfl rfl rfl rfl) (pmk_x X_BadText hr (by decide) (by rfl) (pa_cons pe_int pa_nil)))) pss_nil)
      (pss_cons (ps_set (i := 1) nd rfl (.inl rfl) (pe_split (pv 0) pe_str))
      (pss_cons (ps_if (pt_cmpR op_eq (pe_ix ix_list (pv 1) pe_int (fun _ _ => rfl)) (C8.pe_gc (by rfl) G.NONE) (nomark _)) (C8.pss_cut (ps_if (pt_cmpR op_gt (pe_callB c_len (by rfl) G.len bt_len (pa_cons (pv 1) pa_nil)) pe_int (nomark _)) (pss_one (ps_raise rfl (takes_of rfl rfl rfl rfl) (pmk_x X_BadText hr (by decide) (by rfl) (pa_cons pe_int pa_nil)))) pss_nil)
      (pss_one (ps_ret (pe_mkx M_Signature hr (by decide) (by rfl) (pXE (E := E) (takes_of rfl rfl rfl rfl)) (pa_cons pe_int (pa_cons pe_int (pa_cons (pe_tup pa_nil) (pa_cons (pe_tup pa_nil) pa_nil)))))))) pss_nil)
      (pss_cons (ps_set (i := 2) nd rfl (.inl rfl) (pe_cx C_taken hr (by decide) (by rfl) pX0 (pa_cons (pv 1) (pa_cons pe_int (pa_cons (C8.pe_gc (by rfl) G.HANDLE) pa_nil)))))
      (pss_cons (ps_set (i := 3) nd rfl (.inl rfl) (pe_cx C_ordersFrom hr (by decide) (by rfl) pX0 (pa_cons (pv 1) (pa_cons (pv 2) pa_nil))))
      (pss_cons (ps_par (i := 4) (j := 5) (by rfl) nd rfl rfl (by decide) rfl rfl (pa_cons (pe_op op_add (pv 2) (pe_callB c_len (by rfl) G.len bt_len (pa_cons (pv 3) pa_nil))) (pa_cons (pe_lst pa_nil) pa_nil)) (by rfl))
      (C8.pss_cut (ps_while (passes_of rfl) (PW.pt (pw_and (pt_cmpR op_lt (pv 4) (pe_callB c_len (by rfl) G.len bt_len (pa_cons (pv 1) pa_nil)) (nomark _)) (pw_and1 (pt_cmpR op_eq (pe_ix ix_list (pv 1) (pv 4) (fun _ _ => rfl)) (C8.pe_gc (by rfl) G.RING) (nomark _))))) (pss_cons (ps_expr (pe_bm PySem.F.plainAttrs_list PySem.F.slot_list_append PySem.F.type_list_append mt_append (pv 5) (pa_cons (pe_cx C_ordersFrom hr (by decide) (by rfl) pX0 (pa_cons (pv 1) (pa_cons (pe_op op_add (pv 4) pe_int) pa_nil))) pa_nil)))
      (pss_one (ps_set (i := 4) nd rfl (.inl rfl) (pe_op op_add (pe_op op_add (pv 4) pe_int) (pe_callB c_len (by rfl) G.len bt_len (pa_cons (pe_ix ix_list (pv 5) (pe_un un_neg pe_int) (fun _ _ => rfl)) pa_nil)))))))
      (C8.pss_cut (ps_set (i := 6) nd rfl (.inl rfl) (pe_ifExp (pt_cmpR op_gt (pv 2) pe_int (nomark _)) (pv 4) (pe_cx C_taken hr (by decide) (by rfl) pX0 (pa_cons (pv 1) (pa_cons (pv 4) (pa_cons (C8.pe_gc (by rfl) G.CAP) pa_nil))))))
      (C8.pss_cut (ps_if (pt_cmpR op_lt (pv 6) (pe_callB c_len (by rfl) G.len bt_len (pa_cons (pv 1) pa_nil)) (nomark _)) (pss_one (ps_raise rfl (takes_of rfl rfl rfl rfl) (pmk_x X_BadText hr (by decide) (by rfl) (pa_cons (pv 6) pa_nil)))) pss_nil)
      (pss_one (ps_ret (pe_mkx M_Signature hr (by decide) (by rfl) (pXE (E := E) (takes_of rfl rfl rfl rfl)) (pa_cons (pv 2) (pa_cons (pe_op op_sub (pv 6) (pv 4)) (pa_cons (pv 3) (pa_cons (pv 5) pa_nil)))))))))))))))), ?_⟩
    try dsimp only [Rd.cxK]
    rcases h with ⟨x, rfl, hx, hne, hwl, hws, hq⟩ | ⟨v, t, rfl, ht, hk, q⟩
    · refine r_cut (fun σ' H' => σ' = [some (.str x), none, none, none, none, none, none] ∧ H' = H) ?_ ?_
      · walk_at "rd"
        exact ⟨rfl, rfl⟩
      rintro σ' H0 ⟨rfl, rfl⟩
      walk_at "rd"
      refine ⟨_, _, rfl, rfl, by decide, by rw [sizeLine_eq]; omega, fun a na => ?_⟩
      generalize Txt.split x " " = ws at *
      have k1 : Kp [] H0 (upd H0 a (.lst (ws.map V.str))) := (Kp.refl _ _).new na
      have ha : (upd H0 a (.lst (ws.map V.str))) a = some (.lst (ws.map V.str)) := upd_same
      generalize upd H0 a (.lst (ws.map V.str)) = H1 at *
      walk_at "rd"
      obtain ⟨w0, wt, rfl⟩ := List.exists_cons_of_ne_nil hne
      refine r_ixLt ha (atI_nat (j := 0) rfl) ?_
      walk_at "rd"
      have k01 : Kp [] H0 H1 := k1
      refine iteD (fun h0 => ?_) (fun h0 => ?_)
      · have e0 : w0 = "-" := V.str.inj h0
        have er : readP (w0 :: wt) = if 1 < (w0 :: wt).length then .inl 1 else .inr (0, 0, [], []) := by
          unfold readP
          rw [if_pos (by rw [e0]; rfl)]
        rw [er] at hq
        refine r_cut (fun σ' H2 => (w0 :: wt).length ≤ 1 ∧ σ' = [some (.str x), some (.ref a), none, none, none, none, none] ∧ H2 = H1) ?_ ?_
        · walk_at "rd"
          refine iteD (fun h1 => ?_) (fun h1 => ?_)
          · rw [if_pos (by rw [List.length_map] at h1; omega)] at hq
            walk_at "rd"
            exact fun d nd => hq d _ upd_same (k01.new nd)
          · walk_at "rd"
            exact ⟨by rw [List.length_map] at h1; omega, rfl, rfl⟩
        rintro σ' H2 ⟨h1, rfl, rfl⟩
        rw [if_neg (by omega)] at hq
        obtain ⟨hq, _, _⟩ := hq
        walk_at "rd"
        refine ⟨Nat.zero_le _, fun t1 nt1 => ?_⟩
        walk_at "rd"
        refine ⟨Nat.zero_le _, fun t2 nt2 => ?_⟩
        walk_at "rd"
        intro p dx np ndx ne
        have k3 : Kp [] H0 (upd (upd H2 t1 (.tup [])) t2 (.tup [])) := (k01.new nt1).new nt2
        have ht2 : (upd (upd H2 t1 (.tup [])) t2 (.tup [])) t2 = some (.tup []) := upd_same
        have ht1 : (upd (upd H2 t1 (.tup [])) t2 (.tup [])) t1 = some (.tup []) := (upd_ne (nu nt2).1.symm).trans upd_same
        generalize upd (upd H2 t1 (.tup [])) t2 (.tup []) = H3 at *
        have k4 : Kp [] H3 (upd (upd H3 dx (.own p)) p (.ins CS dx [])) := ((Kp.refl _ _).own ndx).own np
        refine ⟨p, dx, t1, t2, 0, 0, [], [], rfl, upd_same, by decide, by decide, .inl rfl, .inr (k4.get ht1), fun x hx => absurd hx (by simp), by simp, ⟨[], .inr (k4.get ht2), fun q hq => absurd hq (by simp), rfl, by simp⟩, fun _ _ H4 hs kk => ⟨rfl, hq (by decide) (by decide) p H4 hs (k3.trans (kp_made np ndx kk))⟩, fun z => absurd z (by decide), fun _ z => absurd z (by decide)⟩
      · have er : readP (w0 :: wt) = parse (w0 :: wt) := by
          unfold readP
          rw [if_neg (show ¬ (w0 :: wt).head? = some ("-" : Str) from fun z => h0 (congrArg V.str (Option.some.inj z)))]
        rw [er] at hq
        generalize w0 :: wt = ws at *
        walk_at "rd"
        refine ⟨a, ws, 0, "o", rfl, ha, ?_⟩
        rw [Nat.zero_add, List.drop_zero]
        walk_at "rd"
        have hq' := hq
        unfold parse at hq'
        dsimp only at hq'
        have b1 := lead_le "o" ws
        generalize hh : lead "o" ws = h at *
        refine ⟨a, ws, h, rfl, ha, hwl, hws, fun pc H2 npc hpc k2 => ?_⟩
        have b2 := ords_le (ws.drop h)
        have oc := ords_ok (ws.drop h)
        generalize hcs : ords (ws.drop h) = cs at *
        have ha2 := k2.get ha
        walk_at "rd"
        refine ⟨Nat.zero_le _, fun pr npr => ?_⟩
        walk_at "rd"
        rw [List.length_map]
        have k3 : Kp [] H1 (upd H2 pr (.lst [])) := k2.new npr
        have hpr3 : (upd H2 pr (.lst [])) pr = some (.lst (([] : List (Addr × List Int)).map fun q => V.ref q.1)) := upd_same
        have hcr : pc ≠ pr := fun z => by rw [z] at hpc; rw [hpc] at npr; cases npr
        have npr1 : H1 pr = none := k2.none npr
        have hpc3 : (upd H2 pr (.lst [])) pc = some (.lst (cs.map V.int)) := (upd_ne hcr).trans hpc
        generalize upd H2 pr (.lst []) = H3 at *
        rw [List.length_drop] at b2
        have hrl := rings_le ws.length (ws.drop (h + cs.length))
        rw [List.length_drop] at hrl
        have hro := rings_ok ws.length (ws.drop (h + cs.length))
        refine r_cut (fun σ' H' => ∃ ps : List (Addr × List Int), σ' = [some (.str x), some (.ref a), some (.int (h : Nat)), some (.ref pc), some (.int ((h + cs.length + ringLen (rings ws.length (ws.drop (h + cs.length))) : Nat) : Int)), some (.ref pr), none] ∧ Kp [] H1 H' ∧
          H' pc = some (.lst (cs.map V.int)) ∧ H' pr = some (.lst (ps.map fun q => V.ref q.1)) ∧ (∀ q ∈ ps, H' q.1 = some (.lst (q.2.map V.int))) ∧ ps.map (·.2) = rings ws.length (ws.drop (h + cs.length))) ?_ ?_
        · refine r_while (fun n σ' H' => ∃ (j : Nat) (ps : List (Addr × List Int)) (f : Nat), σ' = [some (.str x), some (.ref a), some (.int (h : Nat)), some (.ref pc), some (.int (j : Nat)), some (.ref pr), none] ∧ Kp [] H1 H' ∧
            H' pc = some (.lst (cs.map V.int)) ∧ H' pr = some (.lst (ps.map fun q => V.ref q.1)) ∧ (∀ q ∈ ps, H' q.1 = some (.lst (q.2.map V.int))) ∧ n = ws.length - j ∧ ws.length ≤ f + j ∧ h + cs.length ≤ j ∧ j = h + cs.length + ringLen (ps.map (·.2)) ∧
            ps.map (·.2) ++ rings f (ws.drop j) = rings ws.length (ws.drop (h + cs.length)) ∧ ps.length ≤ j) ⟨_, h + cs.length, [], ws.length, by simp, k3, hpc3, hpr3, fun q hq => absurd hq (by simp), rfl, by omega, by omega, rfl, rfl, by simp⟩ ?_
          rintro n σ' H' ⟨j, ps, f, rfl, k, hc, hp, hps, rfl, hf, hj0, hj1, e, hpl⟩
          have haj := k.get ha
          walk_at "rd"
          refine iteD (fun h1 => ?_) (fun h1 => ?_)
          · have hj : j < ws.length := by rw [List.length_map] at h1; omega
            walk_at "rd"
            refine r_ixLt haj (atI_nat (getmap (List.getElem?_eq_getElem hj))) ?_
            walk_at "rd"
            refine iteD (fun h2 => ?_) (fun h2 => ?_)
            · have hs : ws[j] = "*" := V.str.inj h2
              obtain ⟨f', rfl⟩ : ∃ f', f = f' + 1 := ⟨f - 1, by omega⟩
              rw [drop_cons' hj, show rings (f' + 1) (ws[j] :: ws.drop (j + 1)) = ords (ws.drop (j + 1)) :: rings f' ((ws.drop (j + 1)).drop (ords (ws.drop (j + 1))).length) from by rw [rings, if_pos hs]] at e
              refine r_turn ?_
              walk_at "rd"
              refine ⟨tyL hp, ?_⟩
              walk_at "rd"
              refine ⟨a, ws, j + 1, rfl, haj, hwl, hws, fun q1 H4 nq1 hq1 k4 => ?_⟩
              have b3 := ords_le (ws.drop (j + 1))
              rw [List.length_drop] at b3
              generalize ords (ws.drop (j + 1)) = ol at *
              walk_at "rd"
              refine r_app (k4.get hp) (by rw [sizeLine_eq, List.length_map]; omega) ?_
              walk_at "rd"
              have hnr : q1 ≠ pr := fun z => by
                rw [z, hp] at nq1; cases nq1
              have k5 : Kp [] H1 (upd H4 pr (.lst (ps.map (fun q => V.ref q.1) ++ [.ref q1]))) := (k.trans k4).own npr1
              have hq5 : (upd H4 pr (.lst (ps.map (fun q => V.ref q.1) ++ [.ref q1]))) q1 = some (.lst (ol.map V.int)) := (upd_ne hnr).trans hq1
              have hc5 : (upd H4 pr (.lst (ps.map (fun q => V.ref q.1) ++ [.ref q1]))) pc = some (.lst (cs.map V.int)) := (upd_ne hcr).trans (k4.get hc)
              have hp5 : (upd H4 pr (.lst (ps.map (fun q => V.ref q.1) ++ [.ref q1]))) pr = some (.lst ((ps ++ [(q1, ol)]).map fun q => V.ref q.1)) := by rw [upd_same, List.map_append]; rfl
              have hps5 : ∀ q ∈ ps, (upd H4 pr (.lst (ps.map (fun q => V.ref q.1) ++ [.ref q1]))) q.1 = some (.lst (q.2.map V.int)) := fun q hq => by
                have h6 := hps q hq
                refine (upd_ne (fun z => ?_)).trans (k4.get h6)
                rw [z, hp] at h6
                have h7 := HO.lst.inj (Option.some.inj h6)
                cases ps with
                | nil => cases hq
                | cons b t =>
                  cases hq2 : q.2 with
                  | nil => rw [hq2] at h7; cases h7
                  | cons y l => rw [hq2] at h7; cases (List.cons.inj h7).1
              generalize upd H4 pr (.lst (ps.map (fun q => V.ref q.1) ++ [.ref q1])) = H5 at *
              refine r_ixLt hp5 (by rw [List.map_append]; exact atI_last _ _) ?_
              walk_at "rd"
              rw [List.length_map]
              refine ⟨_, ?_, j + 1 + ol.length, ps ++ [(q1, ol)], f', ?_, k5, hc5, hp5, fun q hq => ?_, rfl, by omega, by omega, ?_, ?_, ?_⟩
              · omega
              · have ej : ((j : Int) + 1 + (ol.length : Nat)) = ((j + 1 + ol.length : Nat) : Int) := by omega
                rw [ej]; rfl
              · rcases List.mem_append.mp hq with hq | hq
                · exact hps5 q hq
                · rw [List.mem_singleton.mp hq]; exact hq5
              · have er2 : ∀ A B, ringLen (A ++ B) = ringLen A + ringLen B := fun A B => by
                  induction A with
                  | nil => exact (Nat.zero_add _).symm
                  | cons r A ih => show 1 + r.length + ringLen (A ++ B) = 1 + r.length + ringLen A + ringLen B; omega
                rw [List.map_append, er2]
                show _ = _ + (_ + (1 + ol.length + 0))
                omega
              · rw [← e, List.map_append, List.append_assoc, List.drop_drop]
                rfl
              · rw [List.length_append]; show ps.length + 1 ≤ _; omega
            · have hs : ws[j] ≠ "*" := fun z => h2 (congrArg V.str z)
              have e0 : rings f (ws.drop j) = [] := by
                rw [drop_cons' hj]
                cases f with
                | zero => rfl
                | succ f => rw [rings, if_neg hs]
              rw [e0, List.append_nil] at e
              refine ⟨ps, ?_, k, hc, hp, hps, e⟩
              rw [hj1, e]
          · have hj : ws.length ≤ j := by rw [List.length_map] at h1; omega
            have e0 : rings f (ws.drop j) = [] := by
              rw [List.drop_eq_nil_of_le hj]
              cases f <;> rfl
            rw [e0, List.append_nil] at e
            walk_at "rd"
            refine ⟨ps, ?_, k, hc, hp, hps, e⟩
            rw [hj1, e]
        · rintro σ' H' ⟨ps, rfl, k, hc, hp, hps, hrs⟩
          generalize rings ws.length (ws.drop (h + cs.length)) = rs at *
          have ha2 : h + cs.length + ringLen rs ≤ ws.length := by omega
          generalize hA : h + cs.length + ringLen rs = A at *
          refine r_cut (fun σ' H2 => ∃ e : Nat, σ' = [some (.str x), some (.ref a), some (.int (h : Nat)), some (.ref pc), some (.int (A : Nat)), some (.ref pr), some (.int (e : Nat))] ∧ H2 = H' ∧ A ≤ e ∧ (h = 0 ∨ e = A) ∧
            ReadEnd K CS CN CT H0 Q E (if e < ws.length then .inl e else .inr (h, e - A, cs, rs)) ∧ e ≤ ws.length) ?_ ?_
          · have haj := k.get ha
            walk_at "rd"
            refine iteD (fun z => ?_) (fun z => ?_)
            · have ez : 0 < h := by omega
              simp only [if_pos ez] at hq'
              walk_at "rd"
              exact ⟨A, rfl, rfl, Nat.le_refl _, .inr rfl, hq', ha2⟩
            · have ez : ¬ 0 < h := by omega
              simp only [if_neg ez] at hq'
              walk_at "rd"
              refine ⟨a, ws, A, "x", rfl, haj, ?_⟩
              walk_at "rd"
              have := lead_le "x" (ws.drop A)
              rw [List.length_drop] at this
              exact ⟨_, rfl, rfl, Nat.le_add_right _ _, .inl (by omega), hq', by omega⟩
          · rintro σ' H2 ⟨e, rfl, rfl, he, he0, hq2, he2⟩
            have haj := k.get ha
            refine r_cut (fun σ' H3 => ws.length ≤ e ∧ σ' = [some (.str x), some (.ref a), some (.int (h : Nat)), some (.ref pc), some (.int (A : Nat)), some (.ref pr), some (.int (e : Nat))] ∧ H3 = H2) ?_ ?_
            · walk_at "rd"
              refine iteD (fun z => ?_) (fun z => ?_)
              · rw [List.length_map] at z
                rw [if_pos (by omega)] at hq2
                walk_at "rd"
                exact fun d nd => hq2 d _ upd_same ((k01.trans k).new nd)
              · rw [List.length_map] at z
                walk_at "rd"
                exact ⟨by omega, rfl, rfl⟩
            · rintro σ' H3 ⟨z, rfl, rfl⟩
              rw [if_neg (by omega)] at hq2
              obtain ⟨u1, u2, u3⟩ := hq2
              walk_at "rd"
              intro p dx np ndx ne
              have k4 : Kp [] H3 (upd (upd H3 dx (.own p)) p (.ins CS dx [])) := ((Kp.refl _ _).own ndx).own np
              have kk : Kp [] H0 H3 := k01.trans k
              have ec : ((e : Int) - (A : Nat)) = ((e - A : Nat) : Int) := by omega
              rw [ec]
              have hcl : cs.length ≤ 1000 := by omega
              have hpl : ps.length ≤ 1000 := by
                have : ps.length ≤ ringLen rs := by
                  rw [← hrs]
                  clear hps hp hrs
                  induction ps with
                  | nil => exact Nat.zero_le _
                  | cons q t ih => show t.length + 1 ≤ 1 + q.2.length + ringLen (t.map (·.2)); omega
                omega
              have hrl2 : ∀ r ∈ rs, r.length ≤ 1000 := fun r hr => by
                have : ∀ rs : List (List Int), r ∈ rs → r.length ≤ ringLen rs := fun rs h => by
                  induction rs with
                  | nil => cases h
                  | cons b t ih =>
                    show _ ≤ 1 + b.length + ringLen t
                    rcases List.mem_cons.mp h with rfl | h
                    · omega
                    · have := ih h; omega
                have := this rs hr
                omega
              refine ⟨p, dx, pc, pr, (h : Nat), (e - A : Nat), cs, rs, rfl, upd_same, by omega, by omega, ?_, .inl (k4.get hc), oc, hcl, ⟨ps, .inl (k4.get hp), fun q hq => ⟨.inl (k4.get (hps q hq)), hro q.2 (by rw [← hrs]; exact List.mem_map.mpr ⟨q, hq, rfl⟩), hrl2 q.2 (by rw [← hrs]; exact List.mem_map.mpr ⟨q, hq, rfl⟩)⟩, hrs, hpl⟩, fun y1 y2 H4 hs kp => ⟨rfl, u1 (by omega) (by omega) p H4 hs (kk.trans (kp_made np ndx kp))⟩, fun y d H4 hd kp => u2 (by omega) d H4 hd (kk.trans (kp_made np ndx kp)), fun y1 y2 d H4 hd kp => u3 (by omega) (by omega) d H4 hd (kk.trans (kp_made np ndx kp))⟩
              omega
    · refine r_cut (fun _ _ => False) ?_ (fun _ _ z => z.elim)
      walk_at "rd"
      exact fun d nd => q d _ upd_same ((Kp.refl _ _).new nd)
end
end K34

local macro_rules | `(tactic| walk_at "side") => `(tactic| first
  | exact rfl
  | omega
  | exact ⟨by omega, by omega⟩
  | exact Or.inl ⟨by omega, by omega⟩
  | exact Or.inr ⟨by omega, by omega⟩
  | exact ⟨by decide, by decide, by decide⟩
  | exact ⟨by omega, by omega, by omega⟩
  | decide)
local macro_rules | `(tactic| walk_at "ne") => `(tactic| first
  | assumption
  | (apply Ne.symm; assumption)
  | exact L2.ne_of_none ‹_› ‹_›
  | exact (L2.ne_of_none ‹_› ‹_›).symm)
local macro_rules | `(tactic| walk_at "hp") => `(tactic| first
  | assumption
  | exact L2.upd_same
  | (refine (L2.upd_ne ?n).trans ?r; (case n => walk_at "ne"); (case r => walk_at "hp"))
  | (refine Rd.Kp.get ?k ?r; (case k => assumption); (case r => walk_at "hp")))
local macro_rules | `(tactic| walk_at "nn") => `(tactic| first
  | assumption
  | exact (Rd.nu ‹_›).2
  | (refine Rd.Kp.none ?k ?h; (case k => assumption); (case h => assumption)))
local macro_rules | `(tactic| walk_at "kp") => `(tactic| first
  | exact Rd.Kp.refl _ _
  | assumption
  | (refine' Rd.Kp.new ?a ?n; (case n => assumption); (case a => walk_at "kp"))
  | (refine' Rd.Kp.own ?a ?n; (case n => walk_at "nn"); (case a => walk_at "kp"))
  | (refine' Rd.Kp.put ?a ?n; (case n => simp); (case a => walk_at "kp"))
  | (refine' Rd.Kp.trans ?a ?b; (case b => assumption); (case a => walk_at "kp")))
local macro_rules | `(tactic| walk_at "kit") => `(tactic| first
  | exact Rd.kt_NoneType_int
  | exact Rd.kt_NoneType_bool
  | exact Rd.kt_NoneType_str
  | exact Rd.kt_NoneType_list
  | exact Rd.kt_NoneType_tuple
  | exact Rd.kt_NoneType_dict
  | exact Rd.kt_bool_int
  | exact Rd.kt_bool_bool
  | exact Rd.kt_bool_str
  | exact Rd.kt_bool_list
  | exact Rd.kt_bool_tuple
  | exact Rd.kt_bool_dict
  | exact Rd.kt_int_int
  | exact Rd.kt_int_bool
  | exact Rd.kt_int_str
  | exact Rd.kt_int_list
  | exact Rd.kt_int_tuple
  | exact Rd.kt_int_dict
  | exact Rd.kt_str_int
  | exact Rd.kt_str_bool
  | exact Rd.kt_str_str
  | exact Rd.kt_str_list
  | exact Rd.kt_str_tuple
  | exact Rd.kt_str_dict
  | exact Rd.kt_list_int
  | exact Rd.kt_list_bool
  | exact Rd.kt_list_str
  | exact Rd.kt_list_list
  | exact Rd.kt_list_tuple
  | exact Rd.kt_list_dict
  | exact Rd.kt_tuple_int
  | exact Rd.kt_tuple_bool
  | exact Rd.kt_tuple_str
  | exact Rd.kt_tuple_list
  | exact Rd.kt_tuple_tuple
  | exact Rd.kt_tuple_dict
  | exact Rd.kt_dict_int
  | exact Rd.kt_dict_bool
  | exact Rd.kt_dict_str
  | exact Rd.kt_dict_list
  | exact Rd.kt_dict_tuple
  | exact Rd.kt_dict_dict
  | assumption)
local macro_rules | `(tactic| walk_at "ty") => `(tactic| first
  | exact .base (.int _)
  | exact .base (.str _)
  | exact .base (.bl _)
  | exact .base .non
  | (refine .base (.lst ?h); (case h => walk_at "hp"))
  | (refine .base (.tup ?h); (case h => walk_at "hp"))
  | assumption)
local macro_rules | `(tactic| walk_at "rd") => `(tactic| repeat' (first
  | with_reducible refine' Rd.r_seq ?_
  | ((with_reducible refine' Rd.r_var ?h1 ?_); (case h1 => exact rfl))
  | with_reducible refine' Rd.r_c ?_
  | with_reducible refine' Rd.r_op ?_
  | with_reducible refine' Rd.r_un ?_
  | with_reducible refine' Rd.r_U ?_
  | with_reducible refine' Rd.r_I0 ?_
  | ((with_reducible refine' Rd.r_I ?hI ?_); (case hI => walk_at "side"))
  | ((with_reducible refine' Rd.r_eq ?hS ?_); (case hS => exact rfl))
  | ((with_reducible refine' Rd.r_ne ?hS ?_); (case hS => exact rfl))
  | with_reducible refine' Rd.r_test ?_
  | with_reducible refine' Rd.r_B ?_
  | with_reducible refine' Rd.r_bl ?_
  | with_reducible refine' Rd.r_not ?_
  | with_reducible refine' Rd.r_and ?_
  | with_reducible refine' Rd.r_or ?_
  | with_reducible refine' Rd.r_ifE ?_
  | with_reducible refine' Rd.r_nil ?_
  | with_reducible refine' Rd.r_cons ?_
  | with_reducible refine' Rd.r_cb ?_
  | with_reducible refine' Rd.r_tup ?_
  | with_reducible refine' Rd.r_lst ?_
  | with_reducible refine' Rd.r_call ?_
  | with_reducible refine' Rd.r_callS ?_
  | with_reducible refine' Rd.r_sl ?_
  | with_reducible refine' Rd.r_nopart ?_
  | with_reducible refine' Rd.r_part ?_
  | with_reducible refine' Rd.r_int ?_
  | with_reducible refine' Rd.r_bm ?_
  | with_reducible refine' Rd.r_bm0 ?_
  | with_reducible refine' Rd.r_m0 ?_
  | with_reducible refine' Rd.r_m1 ?_
  | with_reducible refine' Rd.r_str ?_
  | with_reducible refine' Rd.r_if ?_
  | with_reducible refine' L2.iteT ?_
  | with_reducible refine' L2.iteF ?_
  | with_reducible refine' Rd.iteNT ?_
  | with_reducible refine' Rd.iteNF ?_
  | with_reducible refine' Rd.r_isN0 ?_
  | with_reducible refine' Rd.r_notN0 ?_
  | ((with_reducible refine' Rd.r_isN1 ?hb ?_); focus (intro hh; cases hh))
  | ((with_reducible refine' Rd.r_notN1 ?hb ?_); focus (intro hh; cases hh))
  | with_reducible refine' Rd.r_ret ?_
  | with_reducible refine' Rd.r_retN ?_
  | with_reducible refine' Rd.r_next ?_
  | with_reducible refine' Rd.r_break ?_
  | with_reducible refine' Rd.r_cont ?_
  | with_reducible refine' Rd.r_drop ?_
  | with_reducible refine' Rd.r_asg ?_
  | ((with_reducible refine' Rd.r_name ?h2 ?_); (case h2 => exact rfl))
  | with_reducible refine' Rd.r_sub ?_
  | with_reducible refine' Rd.r_tpar ?_
  | ((with_reducible refine' Rd.r_par2 ?h2 ?_); (case h2 => exact rfl))
  | with_reducible refine' Rd.r_for ?_
  | with_reducible refine' Rd.r_iRng1 ?_
  | with_reducible refine' Rd.r_iList ?_
  | with_reducible refine' Rd.r_iTup ?_
  | with_reducible refine' Rd.r_int1 ?_
  | with_reducible refine' Rd.r_intB ?_
  | with_reducible refine' Rd.r_abs ?_
  | ((with_reducible refine' Rd.r_ixLt ?h3 ?h4 ?_); (case h3 => walk_at "hp"); (case h4 => exact rfl))
  | ((with_reducible refine' Rd.r_setL ?h3 ?h4 ?_); (case h3 => walk_at "hp"); (case h4 => exact rfl))
  | ((with_reducible refine' Rd.r_lenL' (Rd.sqL_of ?h3) ?_); (case h3 => walk_at "hp"))
  | ((with_reducible refine' Rd.r_lenS ?h3 ?_); (case h3 => assumption))
  | with_reducible refine' Rd.r_andV ?_
  | with_reducible refine' Rd.r_orV ?_
  | with_reducible refine' Rd.r_notV ?_
  | with_reducible refine' Rd.r_mk ?_
  | ((with_reducible refine' Rd.r_mkX ?h3 ?h4 ?_); (case h3 => exact rfl); (case h4 => decide))
  | ((with_reducible refine' Rd.r_isi ?h3 ?h4 ?h5 ?_); (case h3 => first | exact .ty _ | exact .own _); (case h4 => walk_at "ty"); (case h5 => walk_at "kit"))
  | with_reducible refine' Rd.r_lc ?_
  | with_reducible refine' Rd.r_yes ?_
  | with_reducible refine' Rd.r_iStr ?_
  | with_reducible refine' Rd.r_iEnum ?_
  | with_reducible refine' Rd.r_lc2 ?_
  | with_reducible refine' Rd.r_revT' ?_
  | with_reducible refine' Rd.r_max2 ?_
  | with_reducible refine' Rd.r_fldS ?_
  | ((with_reducible refine' Rd.r_fldI ?h1 ?h2 ?h3 ?h4 ?h5 ?_); (case h1 => exact rfl); (case h2 => walk_at "hp"); (case h3 => assumption); (case h4 => assumption); (case h5 => exact rfl))
  | with_reducible refine' Rd.r_chain ?_
  | with_reducible refine' Rd.r_make ?_
  | with_reducible refine' Rd.r_gCons ?_
  | with_reducible refine' Rd.r_gNil ?_
  ))

set_option Elab.async false
set_option linter.all false
set_option maxRecDepth 100000
set_option maxHeartbeats 4000000
set_option pp.maxSteps 1200
namespace K34
open PySem PySem.Spec PyProof.Rows L2 Rd PySem.W
/-- a pen at p: its cells, how many were begun, what is left -/
def PenAt (H : Hp) (p c : Addr) (at_ : Int) : Prop := ∃ (cells : List Int) (rest : Int), H p = some (.lst [.ref c, .int at_, .int rest]) ∧ H c = some (.lst (cells.map V.int)) ∧ c ≠ p ∧ 0 ≤ at_ ∧ 0 ≤ rest
section
variable {P : Program} {w : World} {K : PySem.W.Frag} {mg : Str → Option Value} {base : Heap}
/-! the pen -/
def spPen (K : PySem.W.Frag) : Sp := fun vs H Q _ => ∃ (a : Addr) (ns : List Int), vs = [.ref a] ∧ SqL K H a (ns.map V.int) ∧ ns.length ≤ 1000 ∧ ∀ p c H', H p = none → H c = none → PenAt H' p c 0 → Kp [] H H' → Q (.ref p) H'
abbrev sPen : Stmt := topS 37
theorem scPen : FnScope ["script", "cell"] ["script"] (defScope (topS 37)) := ⟨rfl, rfl, rfl, by decide +kernel, rfl, by decide +kernel, by decide +kernel⟩
theorem ok_pen {f : Addr} {fd : FuncData} (F : Fn K "_law_pen" 37 [] f fd) (G : Gm mg) : FnOk P w K mg base (L2.CX P w) 1 f fd ["script"] (spPen K) := by
  refine F.ok scPen (fun vs H Q E h => ?_) (fun cdv A outer s H vs Q E hr h => ?_)
  · obtain ⟨_, _, rfl, _⟩ := h
    rfl
  · obtain ⟨a, ns, rfl, ha, hl, q⟩ := h
    have nd := scPen.nd
    refine ⟨_, (pss_one (ps_ret (pe_lst (pa_cons (pe_lc (own := [("cell", 1)]) (by rfl) nd (pi_list (pe_slice sl_list (pv 0) po_none (po_some pe_int))) (blkOk_by (own := [("cell", 1)]) (N := ["script", "cell"]) (sc := defScope sPen) (by decide +kernel)) (fun _ _ _ _ _ => (pg_name (i := 1) nd rfl (.inl rfl))) (fun _ _ _ _ _ => pts_nil) (fun _ _ _ _ _ => (pe_callTy c_int (by rfl) G.int bt_int (pa_cons (pv 1) pa_nil)))) (pa_cons pe_int (pa_cons pe_int pa_nil)))))), ?_⟩
    try dsimp only [Rd.cxK]
    walk_at "rd"
    refine ⟨a, _, rfl, ha, fun b nb => ?_⟩
    have ec : ∃ ms : List Int, cutV (ns.map V.int) none (some 63) = ms.map V.int ∧ ms.length ≤ 1000 := by
      refine ⟨(ns.drop (HT.sIx (ns.map V.int).length 0 none)).take (HT.sIx (ns.map V.int).length (ns.map V.int).length (some 63) - HT.sIx (ns.map V.int).length 0 none), ?_, ?_⟩
      · unfold cutV; rw [List.map_take, List.map_drop]
      · rw [List.length_take, List.length_drop]; omega
    obtain ⟨ms, em, hm⟩ := ec
    rw [em]
    have k1 : Kp [] H (upd H b (.lst (ms.map V.int))) := (Kp.refl _ _).new nb
    have hb : (upd H b (.lst (ms.map V.int))) b = some (.lst (ms.map V.int)) := upd_same
    generalize upd H b (.lst (ms.map V.int)) = H1 at *
    walk_at "rd"
    refine q_lcL ms V.int (fun D pre H2 => H2 D = some (.lst (pre.map V.int)) ∧ Kp [] H1 H2) (sqL_of hb) (fun D nD => ⟨upd_same, by walk_at "kp"⟩) (fun D pre H2 nD h => sqL_of (h.2.get hb)) (fun D pre x post H2 nD e h => ?_) (fun D H2 nD h => ?_)
    · have hpre : pre.length < ms.length := by rw [e]; simp
      walk_at "rd"
      refine ⟨rfl, ?_⟩
      walk_at "rd"
      refine ⟨_, h.1, by rw [sizeLine_eq, List.length_map]; omega, ?_, h.2.own nD⟩
      rw [upd_same, List.map_append]; rfl
    · walk_at "rd"
      refine ⟨by show (3 : Nat) ≤ sizeLine; decide, fun p np => ?_⟩
      have k3 : Kp [] H (upd H2 p (.lst [.ref D, .int 0, .int 0])) := (k1.trans h.2).new np
      have ne : D ≠ p := fun z => by rw [← z, h.1] at np; cases np
      exact q p D _ ((k1.trans h.2).none np) (k1.none nD) ⟨ms, 0, upd_same, (upd_ne ne).trans h.1, ne, by omega, by omega⟩ k3
def spDraw : Sp := fun vs H Q _ => ∃ (p c : Addr) (m a : Int), vs = [.ref p, .int m] ∧ PenAt H p c a ∧ a ≤ 1000000 ∧ 0 < m ∧ m < 1000000 ∧
  ∀ (v a' : Int) (H' : Hp), 0 ≤ v → v < m → a' ≤ a + 1 → PenAt H' p c a' → Kp [p] H H' → Q (.int v) H'
abbrev sDraw : Stmt := topS 38
theorem scDraw : FnScope ["pen", "many", "rest", "at", "cell", "mixed"] ["pen", "many"] (defScope sDraw) := ⟨rfl, rfl, rfl, by decide +kernel, rfl, by decide +kernel, by decide +kernel⟩
theorem ok_draw {f : Addr} {fd : FuncData} {k : Nat} (F : Fn K "_law_draw" 38 [] f fd) (G : Gm mg) : FnOk P w K mg base (L2.CX P w) (k + 1) f fd ["pen", "many"] spDraw := by
  refine F.ok scDraw (fun vs H Q E h => ?_) (fun cdv A outer s H vs Q E hr h => ?_)
  · obtain ⟨p, c, m, a, rfl, _⟩ := h
    rfl
  · obtain ⟨p, c, m, a, rfl, ⟨cells, rest, hp, hc, hcp, ha0, hr0⟩, hal, hm0, hm1, q⟩ := h
    have nd := scDraw.nd
    refine ⟨_, pss_cons (ps_if (pt_cmpR op_gt (pe_ix ix_list (pv 0) pe_int (fun _ _ => rfl)) pe_int (nomark _))
        (pss_cons (ps_set (i := 2) nd rfl (.inl rfl) (pe_callTy c_int (by rfl) G.int boot_int (pa_cons (pe_ix ix_list (pv 0) pe_int (fun _ _ => rfl)) pa_nil)))
        (pss_cons (ps_asg (pe_op op_fdivN (pv 2) (pv 1)) (pg_sub (pv 0) pe_int set_list))
        (pss_one (ps_ret (pe_op op_modN (pe_callTy c_int (by rfl) G.int boot_int (pa_cons (pv 2) pa_nil)) (pv 1)))))) pss_nil)
      (pss_cons (ps_set (i := 3) nd rfl (.inl rfl) (pe_ix ix_list (pv 0) pe_int (fun _ _ => rfl)))
      (pss_cons (ps_asg (pe_op op_add (pv 3) pe_int) (pg_sub (pv 0) pe_int set_list))
      (C8.pss_cut (ps_set (i := 4) nd rfl (.inl rfl) (pe_ifExp (pt_cmpR (op_eqD (by exact (show _ from by have := hr.units; exact this))) (pe_ix ix_list (pv 0) pe_int (fun _ _ => rfl)) (pe_lst pa_nil) (nomark _))
          (pe_op op_add (pe_op op_mul pe_int (pv 3)) pe_int)
          (pe_ix ix_list (pe_ix ix_list (pv 0) pe_int (fun _ _ => rfl)) (pe_op op_modN (pe_callTy c_int (by rfl) G.int boot_int (pa_cons (pv 3) pa_nil)) (pe_callB c_len (by rfl) G.len PySem.boot_len (pa_cons (pe_ix ix_list (pv 0) pe_int (fun _ _ => rfl)) pa_nil))) (fun _ _ => rfl))))
      (C8.pss_cut (ps_if (PW.pt (pw_and (pt_cmpR op_lt (pv 3) (pe_callB c_len (by rfl) G.len PySem.boot_len (pa_cons (pe_ix ix_list (pv 0) pe_int (fun _ _ => rfl)) pa_nil)) (nomark _))
            (pw_and1 (pt_cmpR op_ge (pe_callB c_abs (by rfl) G.abs boot_abs (pa_cons (pv 4) pa_nil)) (pe_op op_pow pe_int pe_int) (nomark _)))))
          (pss_cons (ps_set (i := 2) nd rfl (.inl rfl) (pe_op op_add (pe_op op_mul pe_int (pe_op op_sub (pe_callB c_abs (by rfl) G.abs boot_abs (pa_cons (pv 4) pa_nil)) (pe_op op_pow pe_int pe_int))) (pe_callTy c_intB (by rfl) G.int boot_int (pa_cons (pe_cmpR op_lt (pv 4) pe_int (nomark _)) pa_nil))))
          (pss_cons (ps_asg (pe_op op_fdivN (pe_callTy c_int (by rfl) G.int boot_int (pa_cons (pv 2) pa_nil)) (pv 1)) (pg_sub (pv 0) pe_int set_list))
          (pss_one (ps_ret (pe_op op_modN (pe_callTy c_int (by rfl) G.int boot_int (pa_cons (pv 2) pa_nil)) (pv 1)))))) pss_nil)
      (pss_cons (ps_set (i := 5) nd rfl (.inl rfl) (pe_op op_modN (pe_callTy c_int (by rfl) G.int boot_int (pa_cons (pe_op op_pow (pe_op op_add (pe_op op_add (pe_op op_modN (pe_callTy c_int (by rfl) G.int boot_int (pa_cons (pv 4) pa_nil)) pe_int) (pe_op op_mul pe_int (pv 3))) pe_int) pe_int) pa_nil)) pe_int))
      (pss_cons (ps_set (i := 5) nd rfl (.inl rfl) (pe_op op_modN (pe_callTy c_int (by rfl) G.int boot_int (pa_cons (pe_op op_pow (pe_op op_add (pe_op op_add (pe_op op_mul (pv 5) (pe_op op_add (pe_op op_mul pe_int (pv 3)) pe_int)) (pe_op op_mul (pe_op op_mul pe_int (pv 3)) (pv 3))) pe_int) pe_int) pa_nil)) pe_int))
      (pss_one (ps_ret (pe_op op_modN (pe_callTy c_int (by rfl) G.int boot_int (pa_cons (pe_op op_fdivN (pv 5) pe_int) pa_nil)) (pv 1)))))))))), ?_⟩
    walk_at "rd"
    refine iteD (fun h => ?_) (fun h => ?_)
    · walk_at "rd"
      refine q _ a _ (fmod_rng hm0).1 (fmod_rng hm0).2 (by omega) ⟨cells, rest.fdiv m, upd_same, ?_, hcp, ha0, fdiv_nn hm0 hr0⟩ ((Kp.refl _ _).put (List.mem_singleton.mpr rfl))
      exact (upd_ne hcp).trans hc
    · walk_at "rd"
      refine r_cut (fun σ' H' => ∃ x, σ' = [some (.ref p), some (.int m), none, some (.int a), some (.int x), none] ∧ H' p = some (.lst [.ref c, .int (a + 1), .int rest]) ∧ H' c = some (.lst (cells.map V.int)) ∧ Kp [p] H H') ?_ ?_
      · walk_at "rd"
        refine ⟨Nat.zero_le _, fun t nt => ?_⟩
        have hpt : p ≠ t := fun e => by rw [← e, upd_same] at nt; cases nt
        have hct : c ≠ t := fun e => by rw [← e, upd_ne hcp, hc] at nt; cases nt
        have hc1 : ∀ o u, (upd (upd H p o) t u) c = some (.lst (cells.map V.int)) := fun o u => (upd_ne hct).trans ((upd_ne hcp).trans hc)
        have kp : ∀ o u, Kp [p] H (upd (upd H p o) t u) := fun o u => ((Kp.refl _ _).put (List.mem_singleton.mpr rfl)).own (nu nt).2
        refine r_eqD (.lst (sqL_of (hc1 _ _)) (dpInts cells)) (.lst (sqL_of upd_same) .nil) (shInts cells) rfl ?_
        walk_at "rd"
        have e1 : PyData.eqv (.list (cells.map PyData.int)) (.list []) = decide (cells = []) := by cases cells <;> rfl
        rw [e1]
        refine iteD (fun h0 => ?_) (fun h0 => ?_)
        · walk_at "rd"
          exact ⟨_, rfl, (upd_ne hpt).trans upd_same, hc1 _ _, kp _ _⟩
        · walk_at "rd"
          have hn : 0 < ((cells.map V.int).length : Int) := by
            cases cells with
            | nil => exact absurd rfl h0
            | cons _ _ => show (0 : Int) < ((List.length (_ :: _) : Nat) : Int); rw [List.length_cons]; omega
          refine r_I (by omega) ?_
          obtain ⟨x, _, hx⟩ := atI_ints (l := cells) (i := a.fmod ((cells.map V.int).length : Int)) (fmod_rng hn).1 (fmod_rng hn).2
          refine r_ixLt (hc1 _ _) hx ?_
          walk_at "rd"
          exact ⟨_, rfl, (upd_ne hpt).trans upd_same, hc1 _ _, kp _ _⟩
      · rintro σ' H' ⟨x, rfl, hp', hc', kp⟩
        refine r_cut (fun σ2 H2 => σ2 = [some (.ref p), some (.int m), none, some (.int a), some (.int x), none] ∧ H2 = H') ?_ ?_
        · walk_at "rd"
          refine iteD (fun h1 => ?_) (fun h1 => ?_)
          · walk_at "rd"
            refine iteD (fun h2 => ?_) (fun h2 => ?_)
            · walk_at "rd"
              refine q _ (a + 1) _ (fmod_rng hm0).1 (fmod_rng hm0).2 (by omega) ⟨cells, _, upd_same, (upd_ne hcp).trans hc', hcp, by omega, fdiv_nn hm0 ?_⟩ (kp.put (List.mem_singleton.mpr rfl))
              have e18 : (10 : Int) ^ (Int.toNat 18) = 1000000000000000000 := by decide
              rw [e18] at h2 ⊢
              have : (0 : Int) ≤ (if (decide (x < 0)) = true then 1 else 0) := by split <;> omega
              omega
            · walk_at "rd"
              exact ⟨rfl, rfl⟩
          · walk_at "rd"
            exact ⟨rfl, rfl⟩
        · rintro σ2 H2 ⟨rfl, rfl⟩
          walk_at "rd"
          have r0 := fmod_rng (i := x) (m := 2147483549) (by decide)
          refine r_I ⟨by decide, by decide, by omega⟩ ?_
          walk_at "rd"
          have r1 := fmod_rng (i := (x.fmod 2147483549 + 8273 * a + 2111) ^ Int.toNat 3) (m := 2147483629) (by decide)
          generalize ((x.fmod 2147483549 + 8273 * a + 2111) ^ Int.toNat 3).fmod 2147483629 = y at r1 ⊢
          have b1 : 0 ≤ y * (2 * a + 311) ∧ y * (2 * a + 311) ≤ 2147483629 * 2000311 := ⟨Int.mul_nonneg r1.1 (by omega), Int.mul_le_mul (by omega) (by omega) (by omega) (by omega)⟩
          have b2 : 0 ≤ 2111 * a * a ∧ 2111 * a * a ≤ 2111000000 * 1000000 := ⟨Int.mul_nonneg (by omega) ha0, Int.mul_le_mul (by omega) (by omega) (by omega) (by omega)⟩
          refine r_I ⟨by decide, by decide, by omega⟩ ?_
          walk_at "rd"
          refine q _ (a + 1) _ (fmod_rng hm0).1 (fmod_rng hm0).2 (by omega) ⟨cells, rest, hp', hc', hcp, by omega, hr0⟩ kp
/-! a pick of a list -/
def spPick (K : PySem.W.Frag) : Sp := fun vs H Q _ => ∃ (p c l : Addr) (xs : List V) (a : Int), vs = [.ref p, .ref l] ∧ PenAt H p c a ∧ a ≤ 1000000 ∧ H l = some (.lst xs) ∧ p ≠ l ∧ xs ≠ [] ∧ xs.length < 1000 ∧
  ∀ (v : V) (a' : Int) (H' : Hp), v ∈ xs → a' ≤ a + 1 → PenAt H' p c a' → Kp [p] H H' → Q v H'
abbrev sPick : Stmt := topS 39
theorem scPick : FnScope ["pen", "some"] ["pen", "some"] (defScope (topS 39)) := ⟨rfl, rfl, rfl, by decide +kernel, rfl, by decide +kernel, by decide +kernel⟩
theorem ok_pick {f : Addr} {fd : FuncData} (F : Fn K "_law_pick" 39 [] f fd) (G : Gm mg) (C_draw : CalX P w K mg base 1 "_law_draw" spDraw []) : FnOk P w K mg base (L2.CX P w) 2 f fd ["pen", "some"] (spPick K) := by
  refine F.ok scPick (fun vs H Q E h => ?_) (fun cdv A outer s H vs Q E hr h => ?_)
  · obtain ⟨_, _, _, _, _, rfl, _⟩ := h
    rfl
  · obtain ⟨p, c, l, xs, a, rfl, hp, ha, hl, hne, hx, hx2, q⟩ := h
    have nd := scPick.nd
    refine ⟨_, (pss_one (ps_ret (pe_ix ix_list (pv 1) (pe_cx C_draw hr (by decide) (by rfl) pX0 (pa_cons (pv 0) (pa_cons (pe_callB c_len (by rfl) G.len bt_len (pa_cons (pv 1) pa_nil)) pa_nil))) (fun _ _ => rfl)))), ?_⟩
    try dsimp only [Rd.cxK]
    walk_at "rd"
    have hx0 : 0 < xs.length := List.length_pos_iff.mpr hx
    refine ⟨p, c, _, a, rfl, hp, ha, by omega, by omega, fun v a' H' v0 v1 ha' hp' k => ?_⟩
    obtain ⟨y, h1, h2⟩ := atI_of (xs := xs) v0 v1
    refine r_ixLt (k l _ (fun z => hne (List.mem_singleton.mp z).symm) hl) h2 ?_
    exact q y a' H' (List.mem_of_getElem? h1) ha' hp' k
end
end K34

set_option Elab.async false
set_option linter.all false
set_option maxRecDepth 100000
set_option maxHeartbeats 4000000
set_option pp.maxSteps 1200
namespace K34
open PySem PySem.Spec PyProof.Rows L2 Rd PySem.W
theorem digs_mem (c : Nat) : decide (c ∈ ("0123456789" : Str).cps.toList) = dig c := by
  have e : ("0123456789" : Str).cps.toList = [48, 49, 50, 51, 52, 53, 54, 55, 56, 57] := by decide +kernel
  rw [e]
  unfold dig
  rw [← Bool.decide_and]
  refine decide_eq_decide.mpr ?_
  simp only [List.mem_cons, List.not_mem_nil, or_false]
  omega
def ordV (x : Str) : V := match ordIn x with
  | some n => .int n
  | none => .non
theorem ordV_none {x : Str} (h : ordIn x = none) : ordV x = .non := by unfold ordV; rw [h]
section
variable {P : Program} {w : World} {K : PySem.W.Frag} {mg : Str → Option Value} {base : Heap}
/-! the law's own order -/
def spLOrder : Sp := fun vs H Q _ => ∃ x : Str, vs = [.str x] ∧ x.length ≤ 100000 ∧ PyData.canLay0 (.str x) = true ∧ ∀ H', Kp [] H H' → Q (ordV x) H'
abbrev sLOrder : Stmt := topS 41
theorem scLOrder : FnScope ["word", "sign"] ["word"] (defScope (topS 41)) := ⟨rfl, rfl, rfl, by decide +kernel, rfl, by decide +kernel, by decide +kernel⟩
theorem ok_lorder {f : Addr} {fd : FuncData} (F : Fn K "_law_order" 41 [] f fd) (G : Gm mg) : FnOk P w K mg base (L2.CX P w) 1 f fd ["word"] spLOrder := by
  refine F.ok scLOrder (fun vs H Q E h => ?_) (fun cdv A outer s H vs Q E hr h => ?_)
  · obtain ⟨_, rfl, _⟩ := h
    rfl
  · obtain ⟨x, rfl, hl, hc, q⟩ := h
    have nd := scLOrder.nd
    refine ⟨_, (pss_cons (ps_if (PW.pt (pw_or (pt_cmpR op_eq (pv 0) pe_str (nomark _)) (pw_or (pt_cmpR op_gt (pe_callB c_lenS (by rfl) G.len bt_len (pa_cons (pv 0) pa_nil)) pe_int (nomark _)) (pw_or (pt_cmpR (op_neD hr.units) (pe_lc (own := [("sign", 1)]) (by rfl) nd (pi_str (pv 0)) (blkOk_by (own := [("sign", 1)]) (N := ["word", "sign"]) (sc := defScope sLOrder) (by decide +kernel)) (fun _ _ _ _ _ => (pg_name (i := 1) nd rfl (.inl rfl))) (fun _ _ _ _ _ => (pts_one (pt_cmpR op_notInS (pv 1) pe_str rfl))) (fun _ _ _ _ _ => (pv 1))) (pe_lst pa_nil) (nomark _)) (pw_or1 (pt_cmpR op_eq (pe_ix ix_str (pv 0) pe_int (fun _ _ => rfl)) pe_str (nomark _))))))) (pss_one (ps_ret pe_non)) pss_nil)
      (pss_one (ps_ret (pe_ifExp (pt_chain op_le op_le pe_int (pe_callTy c_intS (by rfl) G.int bt_int (pa_cons (pv 0) pa_nil)) pe_int) (pe_callTy c_intS (by rfl) G.int bt_int (pa_cons (pv 0) pa_nil)) pe_non)))), ?_⟩
    try dsimp only [Rd.cxK]
    have hz : x.length ≤ sizeLine := by rw [sizeLine_eq]; omega
    have no : ordIn x = none → ∀ H', Kp [] H H' → Q .non H' := fun e H' k => by have := q H' k; rwa [ordV_none e] at this
    have nd0 : digW x = false → ordIn x = none := fun e => by unfold ordIn; rw [e]; rfl
    walk_at "rd"
    refine iteD (fun h0 => ?_) (fun h0 => ?_)
    · walk_at "rd"
      refine no (nd0 ?_) H (Kp.refl _ _)
      rw [V.str.inj h0]; rfl
    have hx0 : 0 < x.cps.size := by
      rcases Nat.eq_zero_or_pos x.cps.size with z | z
      · obtain ⟨a⟩ := x
        have : a = #[] := Array.size_eq_zero_iff.mp z
        rw [this] at h0
        exact absurd rfl h0
      · exact z
    walk_at "rd"
    refine iteD (fun h3 => ?_) (fun h3 => ?_)
    · walk_at "rd"
      refine no (nd0 ?_) H (Kp.refl _ _)
      unfold digW
      rw [decide_eq_false (show ¬ x.cps.size ≤ 3 from by have : x.length = x.cps.size := rfl; omega), Bool.false_and, Bool.and_false]
    walk_at "rd"
    refine q_lcS (fun D pre H1 => H1 D = some (.lst ((pre.filter fun c => !dig c).map fun c => V.str ⟨#[c]⟩)) ∧ Kp [] H H1) (fun D nD => ⟨upd_same, by walk_at "kp"⟩) (fun D pre c post H1 nD e h1 => ?_) (fun D H1 nD h1 => ?_)
    · have hpre : pre.length < x.cps.size := by have := congrArg List.length e; rw [Array.length_toList] at this; simp at this; omega
      walk_at "rd"
      refine ⟨rfl, ?_⟩
      walk_at "rd"
      refine ⟨c, _, rfl, rfl, ?_⟩
      walk_at "rd"
      rw [digs_mem]
      refine iteB (fun hd => ?_) (fun hd => ?_)
      · walk_at "rd"
        refine ⟨_, h1.1, by rw [sizeLine_eq, List.length_map]; have := List.length_filter_le (fun c => !dig c) pre; have : x.length = x.cps.size := rfl; omega, ?_, h1.2.own nD⟩
        rw [upd_same, List.filter_append, show [c].filter (fun c => !dig c) = [c] from List.filter_cons_of_pos (p := fun c => !dig c) hd, List.map_append]; rfl
      · refine ⟨?_, h1.2⟩
        rw [List.filter_append, show [c].filter (fun c => !dig c) = [] from List.filter_cons_of_neg (p := fun c => !dig c) (by rw [hd]; exact Bool.false_ne_true), List.append_nil]; exact h1.1
    obtain ⟨hD, k1⟩ := h1
    walk_at "rd"
    refine ⟨Nat.zero_le _, fun b nb => ?_⟩
    walk_at "rd"
    have k2 : Kp [] H1 (upd H1 b (.lst [])) := (Kp.refl _ _).new nb
    have em : ((x.cps.toList.filter fun c => !dig c).map fun c => V.str ⟨#[c]⟩) = ((x.cps.toList.filter fun c => !dig c).map fun c => (⟨#[c]⟩ : Str)).map V.str := by rw [List.map_map]; rfl
    have hok : ∀ y ∈ ((x.cps.toList.filter fun c => !dig c).map fun c => (⟨#[c]⟩ : Str)), PyData.canLay0 (.str y) = true := fun y hy => by
      obtain ⟨c, hc', rfl⟩ := List.mem_map.mp hy
      have h5 := (List.mem_filter.mp hc').1
      have h6 : x.cps.all (fun c => decide (c < 0x110000)) = true := hc
      have h7 := Array.all_eq_true'.mp h6 c (Array.mem_toList_iff.mp h5)
      show (#[c] : Array Nat).all (fun c => decide (c < 0x110000)) = true
      simpa using h7
    rw [em] at hD
    refine r_neD (.lst (sqL_of (k2.get hD)) (dpStrs _)) (.lst (sqL_of upd_same) .nil) (shStrs _ hok) rfl ?_
    have ee := eqvStrs ((x.cps.toList.filter fun c => !dig c).map fun c => (⟨#[c]⟩ : Str)) []
    have ee2 : PyData.eqv (.list (((x.cps.toList.filter fun c => !dig c).map fun c => (⟨#[c]⟩ : Str)).map PyData.str)) (.list []) = decide (((x.cps.toList.filter fun c => !dig c).map fun c => (⟨#[c]⟩ : Str)) = []) := ee
    rw [ee2]
    have k12 := k1.trans k2
    walk_at "rd"
    by_cases hall : (x.cps.toList.filter fun c => !dig c) = []
    · rw [decide_eq_true (by rw [hall]; rfl)]
      have hdig : digW x = true := by
        unfold digW
        rw [decide_eq_true hx0, decide_eq_true (show x.cps.size ≤ 3 from by have : x.length = x.cps.size := rfl; omega), Bool.true_and, Bool.true_and]
        refine Array.all_eq_true'.mpr fun c hc' => ?_
        have := List.filter_eq_nil_iff.mp hall c (Array.mem_toList_iff.mpr hc')
        simpa using this
      obtain ⟨n, en, n0, n1, hn⟩ := digW_facts hdig
      have eo : ordIn x = if tx n = x ∧ 2 ≤ n ∧ n ≤ 120 then some n else none := by unfold ordIn; rw [hdig, en]; rfl
      obtain ⟨c0, hc0, hat⟩ : ∃ c0, x.cps[0]? = some c0 ∧ atI x.cps.toList 0 = some c0 := by
        refine ⟨x.cps[0], Array.getElem?_eq_getElem hx0, ?_⟩
        exact atI_nat (j := 0) (by rw [Array.getElem?_toList]; exact Array.getElem?_eq_getElem hx0)
      walk_at "rd"
      refine ⟨x, 0, c0, rfl, rfl, hz, hat, ?_⟩
      walk_at "rd"
      refine iteD (fun h5 => ?_) (fun h5 => ?_)
      · walk_at "rd"
        have e48 : c0 = 48 := by
          have h6 := V.str.inj h5
          have h7 : (#[c0] : Array Nat) = #[48] := congrArg Str.cps h6
          simpa using h7
        refine no ?_ _ k12
        rw [eo, if_neg]
        rintro ⟨h6, h7, _⟩
        rcases hn with ⟨_, h8 | h8⟩ | ⟨h8, _⟩
        · rw [hc0, e48] at h8; exact h8 rfl
        · omega
        · exact h8 h6
      · have ht : tx n = x := by
          rcases hn with ⟨h6, _⟩ | ⟨_, h8⟩
          · exact h6
          · rw [hc0] at h8
            exact absurd (by rw [Option.some.inj h8]; rfl) h5
        have qq := q _ k12
        unfold ordV at qq
        rw [eo] at qq
        walk_at "rd"
        refine r_intS en (by omega) ?_
        walk_at "rd"
        refine iteD (fun h6 => ?_) (fun h6 => ?_)
        · walk_at "rd"
          refine iteD (fun h7 => ?_) (fun h7 => ?_)
          · walk_at "rd"
            refine r_intS en (by omega) ?_
            rw [if_pos ⟨ht, h6, h7⟩] at qq
            exact qq
          · walk_at "rd"
            rw [if_neg (fun z => h7 z.2.2)] at qq
            exact qq
        · walk_at "rd"
          rw [if_neg (fun z => h6 z.2.1)] at qq
          exact qq
    · rw [decide_eq_false (fun z => hall (List.map_eq_nil_iff.mp z))]
      walk_at "rd"
      refine no (nd0 ?_) _ k12
      unfold digW
      have : x.cps.all dig = false := by
        rw [Bool.eq_false_iff]
        intro z
        refine hall (List.filter_eq_nil_iff.mpr fun c hc' => ?_)
        have := Array.all_eq_true'.mp z c (Array.mem_toList_iff.mp hc')
        rw [this]; exact Bool.false_ne_true
      rw [this, Bool.and_false, Bool.and_false]
end
end K34

set_option Elab.async false
set_option maxRecDepth 100000
set_option maxHeartbeats 4000000
namespace K34
open PySem PySem.Spec PyProof.Rows
def addLast (n : Int) : List (List Int) → List (List Int)
  | [] => []
  | [r] => [r ++ [n]]
  | r :: r2 :: rs => r :: addLast n (r2 :: rs)
/-- the law's own reading -/
def runL (h c : Nat) (cs : List Int) (rs : List (List Int)) (i : Nat) : List Str → Told
  | [] => .inr (h, c, cs, rs)
  | w :: ws =>
    if w = ("-" : Str) ∧ i = 0 then .inl 1
    else if w = ("o" : Str) ∧ c = 0 ∧ cs = [] ∧ rs = [] then runL (h + 1) c cs rs (i + 1) ws
    else match ordIn w with
      | some n => if c = 0 then (if rs = [] then runL h c (cs ++ [n]) rs (i + 1) ws else runL h c cs (addLast n rs) (i + 1) ws) else .inl i
      | none => if w = ("*" : Str) ∧ c = 0 then runL h c cs (rs ++ [[]]) (i + 1) ws else if w = ("x" : Str) ∧ h = 0 then runL h (c + 1) cs rs (i + 1) ws else .inl i
def lawRead (ws : List Str) : Told := if ws = [("-" : Str)] then .inr (0, 0, [], []) else runL 0 0 [] [] 0 ws
theorem addLast_snoc (n : Int) (r : List Int) : ∀ rs, addLast n (rs ++ [r]) = rs ++ [r ++ [n]]
  | [] => rfl
  | [a] => rfl
  | a :: b :: rs => by
    show a :: addLast n (b :: (rs ++ [r])) = _
    have := addLast_snoc n r (b :: rs)
    rw [List.cons_append] at this
    rw [this]; rfl
theorem ord_o : ordIn "o" = none := by decide +kernel
theorem ord_s : ordIn "*" = none := by decide +kernel
theorem ord_x : ordIn "x" = none := by decide +kernel
theorem ord_m : ordIn "-" = none := by decide +kernel
end K34

set_option Elab.async false
set_option linter.all false
set_option maxRecDepth 100000
set_option maxHeartbeats 4000000
set_option pp.maxSteps 1200
namespace K34
open PySem PySem.Spec PyProof.Rows L2 Rd PySem.W
structure LS (H2 : Hp) (sp cr : Addr) (cs : List Int) (ps : List (Addr × List Int)) (H : Hp) : Prop where
  s : H sp = some (.lst (cs.map V.int))
  c : H cr = some (.lst (ps.map fun q => V.ref q.1))
  p : ∀ q ∈ ps, H q.1 = some (.lst (q.2.map V.int)) ∧ q.1 ≠ sp ∧ q.1 ≠ cr ∧ H2 q.1 = none
  nd : (ps.map (·.1)).Nodup
  k : Kp [] H2 H
theorem LS.keep {H2 H H' : Hp} {sp cr : Addr} {cs : List Int} {ps : List (Addr × List Int)} (l : LS H2 sp cr cs ps H) (k : Kp [] H H') : LS H2 sp cr cs ps H' := ⟨k.get l.s, k.get l.c, fun q hq => ⟨k.get (l.p q hq).1, (l.p q hq).2⟩, l.nd, l.k.trans k⟩
def lI (r : List Int) : PyData := .list (r.map .int)
theorem dp_rowsL {K : PySem.W.Frag} {H : Hp} : ∀ {ps : List (Addr × List Int)}, (∀ q ∈ ps, H q.1 = some (.lst (q.2.map V.int))) → DpAll K H (ps.map fun q => V.ref q.1) ((ps.map (·.2)).map lI)
  | [], _ => .nil
  | q :: ps, h => .cons (.lst (sqL_of (h q List.mem_cons_self)) (dpInts _)) (dp_rowsL fun r hr => h r (List.mem_cons_of_mem _ hr))
theorem can_rowsL : ∀ rs : List (List Int), PyData.canLayAll0 (rs.map lI) = true
  | [] => rfl
  | r :: rs => by
    show (PyData.canLayAll0 (r.map .int) && PyData.canLayAll0 (rs.map lI)) = true
    rw [canInts, can_rowsL rs]; rfl
theorem dep_rowsL : ∀ rs : List (List Int), PyData.depthAll (rs.map lI) ≤ 1
  | [] => Nat.zero_le _
  | r :: rs => by
    show max (PyData.depthAll (r.map .int) + 1) (PyData.depthAll (rs.map lI)) ≤ 1
    rw [depInts]
    have := dep_rowsL rs
    omega
theorem sh_rowsL (rs : List (List Int)) : SeqAt.shaped (.list (rs.map lI)) = true := by
  show (PyData.canLayAll0 (rs.map lI) && decide (PyData.depthAll (rs.map lI) + 1 ≤ 64)) = true
  rw [can_rowsL, decide_eq_true (by have := dep_rowsL rs; omega)]; rfl
/-- spots == [], circles == [] -/
theorem LS.eqS {K : PySem.W.Frag} {H2 H H' : Hp} {sp cr b : Addr} {cs : List Int} {ps : List (Addr × List Int)} {Q : VK} (l : LS H2 sp cr cs ps H) (hb : H b = some (.lst [])) (q : Q (.bl (decide (cs = []))) H) : rEqD K (.ref sp) (.ref b) H Q := by
  refine r_eqD (.lst (sqL_of l.s) (dpInts cs)) (.lst (sqL_of hb) .nil) (shInts cs) rfl ?_
  have e : PyData.eqv (.list (cs.map PyData.int)) (.list []) = decide (cs = []) := by cases cs <;> rfl
  rw [e]; exact q
theorem LS.eqC {K : PySem.W.Frag} {H2 H H' : Hp} {sp cr b : Addr} {cs : List Int} {ps : List (Addr × List Int)} {Q : VK} (l : LS H2 sp cr cs ps H) (hb : H b = some (.lst [])) (q : Q (.bl (decide (ps = []))) H) : rEqD K (.ref cr) (.ref b) H Q := by
  refine r_eqD (.lst (sqL_of l.c) (dp_rowsL fun q hq => (l.p q hq).1)) (.lst (sqL_of hb) .nil) (sh_rowsL _) rfl ?_
  have e : PyData.eqv (.list ((ps.map (·.2)).map lI)) (.list []) = decide (ps = []) := by cases ps <;> rfl
  rw [e]; exact q
/-- what holds ahead of the turn n -/
def LI (x : Str) (a sp cr : Addr) (ws : List Str) (H2 : Hp) (n : Nat) (σ' : S0) (H' : Hp) : Prop := ∃ (h c : Nat) (cs : List Int) (ps : List (Addr × List Int)) (o6 o7 o8 : Option V), σ' = [some (.str x), some (.ref a), some (.int (h : Nat)), some (.int (c : Nat)), some (.ref sp), some (.ref cr), o6, o7, o8] ∧
  LS H2 sp cr cs ps H' ∧ runL 0 0 [] [] 0 ws = runL h c cs (ps.map (·.2)) n (ws.drop n) ∧ cs.length ≤ n ∧ ps.length ≤ n ∧ ∀ q ∈ ps, q.2.length ≤ n
section
variable {P : Program} {w : World} {K : PySem.W.Frag} {mg : Str → Option Value} {base : Heap}
/-! the law's own reading -/
def LReadEnd (H : Hp) (Q : VK) : Told → Prop
  | .inl i => ∀ p H', H' p = some (.tup [.str "text", .int (i : Nat)]) → Kp [] H H' → Q (.ref p) H'
  | .inr (h, c, cs, rs) => ∀ (p a b : Addr) (ps : List (Addr × List Int)) (H' : Hp), H' p = some (.tup [.int (h : Nat), .int (c : Nat), .ref a, .ref b]) → H' a = some (.lst (cs.map V.int)) → H' b = some (.lst (ps.map fun q => V.ref q.1)) →
      (∀ q ∈ ps, H' q.1 = some (.lst (q.2.map V.int))) → ps.map (·.2) = rs → Kp [] H H' → Q (.ref p) H'
def spLRead : Sp := fun vs H Q _ => ∃ x : Str, vs = [.str x] ∧ x.length ≤ 100000 ∧ (Txt.split x " ").length ≤ 1000 ∧ (∀ y ∈ Txt.split x " ", y.length ≤ 100000 ∧ PyData.canLay0 (.str y) = true) ∧ LReadEnd H Q (lawRead (Txt.split x " "))
abbrev sLRead : Stmt := topS 42
theorem scLRead : FnScope ["text", "words", "handles", "caps", "spots", "circles", "at", "word", "order"] ["text"] (defScope (topS 42)) := ⟨rfl, rfl, rfl, by decide +kernel, rfl, by decide +kernel, by decide +kernel⟩
theorem ok_lread {f : Addr} {fd : FuncData} (F : Fn K "_law_read" 42 [] f fd) (G : Gm mg) (C_lorder : CalX P w K mg base 1 "_law_order" spLOrder []) : FnOk P w K mg base (L2.CX P w) 2 f fd ["text"] spLRead := by
  refine F.ok scLRead (fun vs H Q E h => ?_) (fun cdv A outer s H vs Q E hr h => ?_)
  · obtain ⟨_, rfl, _⟩ := h
    rfl
  · obtain ⟨x, rfl, hl, hwl, hws, hq⟩ := h
    have nd := scLRead.nd
    refine ⟨_, (pss_cons (ps_set (i := 1) nd rfl (.inl rfl) (pe_split (pv 0) pe_str))
      (pss_cons (ps_if (pt_cmpR (op_eqD hr.units) (pv 1) (pe_lst (pa_cons pe_str pa_nil)) (nomark _)) (pss_one (ps_ret (pe_tup (pa_cons pe_int (pa_cons pe_int (pa_cons (pe_lst pa_nil) (pa_cons (pe_lst pa_nil) pa_nil))))))) pss_nil)
      (pss_cons (ps_asg (pe_tup (pa_cons pe_int (pa_cons pe_int (pa_cons (pe_lst pa_nil) (pa_cons (pe_lst pa_nil) (pa_cons pe_int pa_nil)))))) (pg_tup rfl (pgs_cons (pg_name (i := 2) nd rfl (.inl rfl)) (pgs_cons (pg_name (i := 3) nd rfl (.inl rfl)) (pgs_cons (pg_name (i := 4) nd rfl (.inl rfl)) (pgs_cons (pg_name (i := 5) nd rfl (.inl rfl)) (pgs_cons (pg_name (i := 6) nd rfl (.inl rfl)) pgs_nil)))))))
      (C8.pss_cut (ps_for (passes_of rfl) rfl (pi_enum (by rfl) G.enumerate (pa_cons (pv 1) pa_nil)) (pg_tup rfl (pgs_cons (pg_name (i := 6) nd rfl (.inl rfl)) (pgs_cons (pg_name (i := 7) nd rfl (.inl rfl)) pgs_nil))) (pss_cons (ps_set (i := 8) nd rfl (.inl rfl) (pe_cx C_lorder hr (by decide) (by rfl) pX0 (pa_cons (pv 7) pa_nil)))
      (C8.pss_cut (ps_if (PW.pt (pw_and (pt_cmpR op_eq (pv 7) pe_str (nomark _)) (pw_and1 (pt_cmpR op_eq (pv 6) pe_int (nomark _))))) (pss_one (ps_ret (pe_tup (pa_cons pe_str (pa_cons pe_int pa_nil))))) pss_nil)
      (pss_one (ps_if (pt_post (PW.pt (pw_and (pt_cmpR op_eq (pv 7) pe_str (nomark _)) (pw_and (pt_cmpR op_eq (pv 3) pe_int (nomark _)) (pw_and (pt_cmpR (op_eqD hr.units) (pv 4) (pe_lst pa_nil) (nomark _)) (pw_and1 (pt_cmpR (op_eqD hr.units) (pv 5) (pe_lst pa_nil) (nomark _)))))))) (pss_one (ps_set (i := 2) nd rfl (.inl rfl) (pe_op op_add (pv 2) pe_int))) (pss_one (ps_if (pt_post (PW.pt (pw_and (pt_cmpR op_notN1 (pv 8) pe_non (nomark _)) (pw_and1 (pt_cmpR op_eq (pv 3) pe_int (nomark _)))))) (pss_one (ps_if (pt_cmpR (op_eqD hr.units) (pv 5) (pe_lst pa_nil) (nomark _)) (pss_one (ps_expr (pe_bm PySem.F.plainAttrs_list PySem.F.slot_list_append PySem.F.type_list_append mt_append (pv 4) (pa_cons (pv 8) pa_nil)))) (pss_one (ps_expr (pe_bm PySem.F.plainAttrs_list PySem.F.slot_list_append PySem.F.type_list_append mt_append (pe_ix ix_list (pv 5) (pe_un un_neg pe_int) (fun _ _ => rfl)) (pa_cons (pv 8) pa_nil)))))) (pss_one (ps_if (pt_post (PW.pt (pw_and (pt_cmpR op_eq (pv 7) pe_str (nomark _)) (pw_and1 (pt_cmpR op_eq (pv 3) pe_int (nomark _)))))) (pss_one (ps_expr (pe_bm PySem.F.plainAttrs_list PySem.F.slot_list_append PySem.F.type_list_append mt_append (pv 5) (pa_cons (pe_lst pa_nil) pa_nil)))) (pss_one (ps_if (PW.pt (pw_and (pt_cmpR op_eq (pv 7) pe_str (nomark _)) (pw_and1 (pt_cmpR op_eq (pv 2) pe_int (nomark _))))) (pss_one (ps_set (i := 3) nd rfl (.inl rfl) (pe_op op_add (pv 3) pe_int))) (pss_one (ps_ret (pe_tup (pa_cons pe_str (pa_cons (pv 6) pa_nil))))))))))))))))
      (pss_one (ps_ret (pe_tup (pa_cons (pv 2) (pa_cons (pv 3) (pa_cons (pv 4) (pa_cons (pv 5) pa_nil))))))))))), ?_⟩
    try dsimp only [Rd.cxK]
    walk_at "rd"
    refine ⟨_, _, rfl, rfl, by decide, by rw [sizeLine_eq]; omega, fun a na => ?_⟩
    generalize Txt.split x " " = ws at *
    have k1 : Kp [] H (upd H a (.lst (ws.map V.str))) := (Kp.refl _ _).new na
    have ha : (upd H a (.lst (ws.map V.str))) a = some (.lst (ws.map V.str)) := upd_same
    generalize upd H a (.lst (ws.map V.str)) = H1 at *
    walk_at "rd"
    refine ⟨by show (1 : Nat) ≤ sizeLine; decide, fun b nb => ?_⟩
    have kb : Kp [] H1 (upd H1 b (.lst [.str "-"])) := (Kp.refl _ _).new nb
    refine r_eqD (.lst (sqL_of (kb.get ha)) (dpStrs _)) (.lst (sqL_of upd_same) (dpStrs [("-" : Str)])) (shStrs _ fun y hy => (hws y hy).2) (by decide +kernel) ?_
    have ee : PyData.eqv (.list (ws.map PyData.str)) (.list ([("-" : Str)].map PyData.str)) = decide (ws = [("-" : Str)]) := eqvStrs ws [("-" : Str)]
    rw [ee]
    have k2 : Kp [] H (upd H1 b (.lst [.str "-"])) := k1.trans kb
    have ha2 := kb.get ha
    generalize upd H1 b (.lst [.str "-"]) = H2 at *
    walk_at "rd"
    refine iteD (fun h0 => ?_) (fun h0 => ?_)
    · have el : lawRead ws = .inr (0, 0, [], []) := by unfold lawRead; rw [if_pos h0]
      rw [el] at hq
      walk_at "rd"
      refine ⟨Nat.zero_le _, fun p1 np1 => ?_⟩
      have k3 : Kp [] H2 (upd H2 p1 (.lst [])) := (Kp.refl _ _).new np1
      have h3 : (upd H2 p1 (.lst [])) p1 = some (.lst []) := upd_same
      generalize upd H2 p1 (.lst []) = H3 at *
      walk_at "rd"
      refine ⟨Nat.zero_le _, fun p2 np2 => ?_⟩
      have k4 : Kp [] H3 (upd H3 p2 (.lst [])) := (Kp.refl _ _).new np2
      have h4 : (upd H3 p2 (.lst [])) p2 = some (.lst []) := upd_same
      generalize upd H3 p2 (.lst []) = H4 at *
      walk_at "rd"
      refine ⟨by show (4 : Nat) ≤ sizeLine; decide, fun p3 np3 => ?_⟩
      have k5 : Kp [] H4 (upd H4 p3 (.tup [.int 0, .int 0, .ref p1, .ref p2])) := (Kp.refl _ _).new np3
      exact hq p3 p1 p2 [] _ upd_same (k5.get (k4.get h3)) (k5.get h4) (fun q hq => absurd hq (by simp)) rfl (((k2.trans k3).trans k4).trans k5)
    · have el : lawRead ws = runL 0 0 [] [] 0 ws := by unfold lawRead; rw [if_neg h0]
      rw [el] at hq
      walk_at "rd"
      refine ⟨Nat.zero_le _, fun sp nsp => ?_⟩
      have k3 : Kp [] H2 (upd H2 sp (.lst [])) := (Kp.refl _ _).new nsp
      have h3 : (upd H2 sp (.lst [])) sp = some (.lst []) := upd_same
      generalize upd H2 sp (.lst []) = H3 at *
      walk_at "rd"
      refine ⟨Nat.zero_le _, fun cr ncr => ?_⟩
      have k4 : Kp [] H3 (upd H3 cr (.lst [])) := (Kp.refl _ _).new ncr
      have h4 : (upd H3 cr (.lst [])) cr = some (.lst []) := upd_same
      have ncr2 : H2 cr = none := k3.none ncr
      have hsc : sp ≠ cr := fun z => by rw [← z, h3] at ncr; cases ncr
      generalize upd H3 cr (.lst []) = H4 at *
      have h3' := k4.get h3
      walk_at "rd"
      refine ⟨by show (5 : Nat) ≤ sizeLine; decide, fun t nt => ?_⟩
      have k5 : Kp [] H4 (upd H4 t (.tup [.int 0, .int 0, .ref sp, .ref cr, .int 0])) := (Kp.refl _ _).new nt
      have h5 : (upd H4 t (.tup [.int 0, .int 0, .ref sp, .ref cr, .int 0])) t = some (.tup [.int 0, .int 0, .ref sp, .ref cr, .int 0]) := upd_same
      generalize upd H4 t (.tup [.int 0, .int 0, .ref sp, .ref cr, .int 0]) = H5 at *
      refine ⟨t, _, rfl, sqT_of h5, rfl, ?_⟩
      walk_at "rd"
      have k25 : Kp [] H2 H5 := (k3.trans k4).trans k5
      refine r_cut (fun σ' H' => LI x a sp cr ws H2 ws.length σ' H') ?_ ?_
      · have ha5 := k25.get ha2
        walk_at "rd"
        refine q_forE ws V.str (fun pre σ' H' => LI x a sp cr ws H2 pre.length σ' H') (sqL_of ha5) ⟨0, 0, [], [], _, _, _, rfl, ⟨k5.get h3', k5.get h4, fun q hq => absurd hq (by simp), by simp, k25⟩, rfl, Nat.le_refl _, Nat.le_refl _, fun q hq => absurd hq (by simp)⟩ (fun pre σ' H' h' => by obtain ⟨_, _, _, _, _, _, _, _, l, _⟩ := h'; exact sqL_of (l.k.get ha2)) (fun pre y post σ' H' T e h' nT => ?_) (fun σ' H' h' => h')
        obtain ⟨h, c, cs, ps, o6, o7, o8, rfl, l, er, hcl, hpl, hql⟩ := h'
        have hpre : pre.length < ws.length := by rw [e]; simp
        have hy : y.length ≤ 100000 ∧ PyData.canLay0 (.str y) = true := hws y (by rw [e]; simp)
        have ed : ws.drop pre.length = y :: ws.drop (pre.length + 1) := by
          have := List.drop_eq_getElem_cons hpre
          rw [this]
          congr 1
          simp [e]
        rw [ed] at er
        have hlen : (pre ++ [y]).length = pre.length + 1 := by simp
        rw [hlen]
        refine ⟨T, _, rfl, sqT_of upd_same, rfl, ?_⟩
        have l6 := l.keep ((Kp.refl _ _).new nT : Kp [] H' (upd H' T (.tup [.int (pre.length : Nat), .str y])))
        generalize upd H' T (.tup [.int (pre.length : Nat), .str y]) = H6 at *
        walk_at "rd"
        refine ⟨y, rfl, hy.1, hy.2, fun H7 k7 => ?_⟩
        have l7 := l6.keep k7
        clear l l6
        have kH : Kp [] H H7 := k2.trans l7.k
        walk_at "rd"
        refine r_cut (fun σ' H8 => ¬ (y = "-" ∧ pre.length = 0) ∧ σ' = [some (.str x), some (.ref a), some (.int (h : Nat)), some (.int (c : Nat)), some (.ref sp), some (.ref cr), some (.int (pre.length : Nat)), some (.str y), some (ordV y)] ∧ H8 = H7) ?_ ?_
        · walk_at "rd"
          refine iteD (fun z1 => ?_) (fun z1 => ?_)
          · walk_at "rd"
            refine iteD (fun z2 => ?_) (fun z2 => ?_)
            · walk_at "rd"
              refine ⟨by show (2 : Nat) ≤ sizeLine; decide, fun p np => ?_⟩
              have e1 : runL h c cs (ps.map (·.2)) pre.length (y :: ws.drop (pre.length + 1)) = .inl 1 := by
                rw [runL, if_pos ⟨V.str.inj z1, by have := V.int.inj z2; omega⟩]
              rw [er, e1] at hq
              exact hq p _ upd_same (kH.new np)
            · walk_at "rd"
              exact ⟨fun z => z2 (by rw [z.2]; rfl), rfl, rfl⟩
          · walk_at "rd"
            exact ⟨fun z => z1 (congrArg V.str z.1), rfl, rfl⟩
        rintro σ' H8 ⟨hm, rfl, rfl⟩
        have cast1 : (((h : Nat) : Int) + 1) = ((h + 1 : Nat) : Int) := by omega
        have castc : (((c : Nat) : Int) + 1) = ((c + 1 : Nat) : Int) := by omega
        refine r_if (r_post (fun b H9 => b = decide (y = "o" ∧ c = 0 ∧ cs = [] ∧ ps = []) ∧ LS H2 sp cr cs ps H9 ∧ Kp [] H H9) ?_ ?_)
        · walk_at "rd"
          refine iteD (fun z1 => ?_) (fun z1 => ?_)
          · walk_at "rd"
            refine iteD (fun z2 => ?_) (fun z2 => ?_)
            · walk_at "rd"
              refine ⟨Nat.zero_le _, fun b nb => ?_⟩
              have kb : Kp [] H8 (upd H8 b (.lst [])) := (Kp.refl _ _).new nb
              refine (l7.keep kb).eqS (H' := H8) upd_same ?_
              have l8 := l7.keep kb
              have kH8 := kH.trans kb
              generalize upd H8 b (.lst []) = H9 at *
              walk_at "rd"
              refine iteD (fun z3 => ?_) (fun z3 => ?_)
              · walk_at "rd"
                refine ⟨Nat.zero_le _, fun b2 nb2 => ?_⟩
                have kb2 : Kp [] H9 (upd H9 b2 (.lst [])) := (Kp.refl _ _).new nb2
                refine (l8.keep kb2).eqC (H' := H8) upd_same ?_
                walk_at "rd"
                refine ⟨decide_eq_decide.mpr ⟨fun z4 => ⟨V.str.inj z1, by have := V.int.inj z2; omega, z3, z4⟩, fun z => z.2.2.2⟩, l8.keep kb2, kH8.trans kb2⟩
              · exact ⟨(decide_eq_false fun z => z3 z.2.2.1).symm, l8, kH8⟩
            · exact ⟨(decide_eq_false fun z => z2 (by rw [z.2.1]; rfl)).symm, l7, kH⟩
          · exact ⟨(decide_eq_false fun z => z1 (congrArg V.str z.1)).symm, l7, kH⟩
        clear l7 kH k7
        rintro _ H9 ⟨rfl, l9, kH9⟩
        refine iteD (fun z0 => ?_) (fun z0 => ?_)
        · obtain ⟨rfl, rfl, rfl, rfl⟩ := z0
          walk_at "rd"
          rw [cast1]
          refine ⟨h + 1, 0, [], [], _, _, _, rfl, l9, ?_, Nat.zero_le _, Nat.zero_le _, fun q hq => absurd hq (by simp)⟩
          rw [er, runL, if_neg hm, if_pos ⟨rfl, rfl, rfl, rfl⟩]
        have er2 : runL 0 0 [] [] 0 ws = (match ordIn y with
          | some n => if c = 0 then (if ps.map (·.2) = [] then runL h c (cs ++ [n]) (ps.map (·.2)) (pre.length + 1) (ws.drop (pre.length + 1)) else runL h c cs (addLast n (ps.map (·.2))) (pre.length + 1) (ws.drop (pre.length + 1))) else .inl pre.length
          | none => if y = ("*" : Str) ∧ c = 0 then runL h c cs (ps.map (·.2) ++ [[]]) (pre.length + 1) (ws.drop (pre.length + 1)) else if y = ("x" : Str) ∧ h = 0 then runL h (c + 1) cs (ps.map (·.2)) (pre.length + 1) (ws.drop (pre.length + 1)) else .inl pre.length) := by
          rw [er, runL, if_neg hm, if_neg (fun z => z0 ⟨z.1, z.2.1, z.2.2.1, List.map_eq_nil_iff.mp z.2.2.2⟩)]
          try rfl
        clear er
        refine r_if (r_post (fun b H10 => b = decide ((ordIn y).isSome = true ∧ c = 0) ∧ H10 = H9) ?_ ?_)
        · walk_at "rd"
          cases eo : ordIn y with
          | none =>
            rw [ordV_none eo]
            walk_at "rd"
            exact ⟨(decide_eq_false fun z => by cases z.1).symm, rfl⟩
          | some n =>
            have ev : ordV y = .int n := by unfold ordV; rw [eo]
            rw [ev]
            walk_at "rd"
            exact ⟨decide_eq_decide.mpr ⟨fun z => ⟨rfl, by have := V.int.inj z; omega⟩, fun z => by rw [z.2]; rfl⟩, rfl⟩
        rintro _ H10 ⟨rfl, rfl⟩
        refine iteD (fun z1 => ?_) (fun z1 => ?_)
        · obtain ⟨n, eo⟩ := Option.isSome_iff_exists.mp z1.1
          have ev : ordV y = .int n := by unfold ordV; rw [eo]
          rw [ev]
          rw [eo] at er2
          dsimp only at er2
          rw [if_pos z1.2] at er2
          refine r_if ?_
          walk_at "rd"
          refine ⟨Nat.zero_le _, fun b nb => ?_⟩
          have kb : Kp [] H10 (upd H10 b (.lst [])) := (Kp.refl _ _).new nb
          refine (l9.keep kb).eqC (H' := H10) upd_same ?_
          have l11 := l9.keep kb
          generalize upd H10 b (.lst []) = H11 at *
          walk_at "rd"
          refine iteD (fun z3 => ?_) (fun z3 => ?_)
          · subst z3
            walk_at "rd"
            refine ⟨tyL l11.s, ?_⟩
            walk_at "rd"
            refine r_app l11.s (by rw [sizeLine_eq, List.length_map]; omega) ?_
            walk_at "rd"
            rw [if_pos (show ([] : List (Addr × List Int)).map (·.2) = [] from rfl)] at er2
            refine ⟨h, c, cs ++ [n], [], _, _, _, rfl, ⟨by rw [upd_same, List.map_append]; rfl, (upd_ne (Ne.symm hsc)).trans l11.c, fun q hq => absurd hq (by simp), by simp, l11.k.own nsp⟩, er2, by rw [List.length_append]; show cs.length + 1 ≤ _; omega, Nat.zero_le _, fun q hq => absurd hq (by simp)⟩
          · walk_at "rd"
            rw [if_neg (fun z => z3 (List.map_eq_nil_iff.mp z))] at er2
            obtain ⟨ps0, q0, rfl⟩ : ∃ ps0 q0, ps = ps0 ++ [q0] := ⟨ps.dropLast, ps.getLast z3, (List.dropLast_concat_getLast z3).symm⟩
            obtain ⟨hq1, hq2, hq3, hq4⟩ := l11.p q0 (by simp)
            have hnd := l11.nd
            rw [List.map_append] at hnd
            have hnew : ∀ q ∈ ps0, q.1 ≠ q0.1 := fun q hq z => by
              have := (List.nodup_append.mp hnd).2.2 q.1 (List.mem_map.mpr ⟨q, hq, rfl⟩) q0.1 (by simp)
              exact this z
            refine r_ixLt l11.c (by rw [List.map_append]; exact atI_last _ _) ?_
            refine ⟨tyL hq1, ?_⟩
            walk_at "rd"
            have hq0l := hql q0 (by simp)
            refine r_app hq1 (by rw [sizeLine_eq, List.length_map]; omega) ?_
            have e3 : (ps0 ++ [(q0.1, q0.2 ++ [n])]).map (fun q : Addr × List Int => V.ref q.1) = (ps0 ++ [q0]).map fun q => V.ref q.1 := by rw [List.map_append, List.map_append]; rfl
            refine ⟨h, c, cs, ps0 ++ [(q0.1, q0.2 ++ [n])], _, _, _, rfl, ⟨(upd_ne (Ne.symm hq2)).trans l11.s, (upd_ne (Ne.symm hq3)).trans (by rw [e3]; exact l11.c), fun q hq => ?_, by rw [List.map_append]; exact hnd, l11.k.own hq4⟩, ?_, by omega, by rw [List.length_append] at hpl ⊢; exact Nat.le_succ_of_le hpl, fun q hq => ?_⟩
            · rcases List.mem_append.mp hq with hq | hq
              · obtain ⟨g1, g2, g3, g4⟩ := l11.p q (List.mem_append_left _ hq)
                exact ⟨(upd_ne (hnew q hq)).trans g1, g2, g3, g4⟩
              · rw [List.mem_singleton.mp hq]
                exact ⟨by rw [upd_same, List.map_append]; rfl, hq2, hq3, hq4⟩
            · rw [er2, List.map_append, List.map_append]
              show _ = runL h c cs (ps0.map (·.2) ++ [q0.2 ++ [n]]) _ _
              rw [show (ps0.map (fun q : Addr × List Int => q.2) ++ [q0].map (·.2)) = ps0.map (·.2) ++ [q0.2] from rfl, addLast_snoc]
            · rcases List.mem_append.mp hq with hq | hq
              · have := hql q (List.mem_append_left _ hq); omega
              · rw [List.mem_singleton.mp hq]; show (q0.2 ++ [n]).length ≤ _; rw [List.length_append]; show q0.2.length + 1 ≤ _; omega
        have hno : ordIn y = none ∨ c ≠ 0 := by
          cases eo : ordIn y with
          | none => exact .inl rfl
          | some n => exact .inr fun z => z1 ⟨by rw [eo]; rfl, z⟩
        refine r_if (r_post (fun b H11 => b = decide (y = "*" ∧ c = 0) ∧ H11 = H10) ?_ ?_)
        · walk_at "rd"
          refine iteD (fun z2 => ?_) (fun z2 => ?_)
          · walk_at "rd"
            exact ⟨decide_eq_decide.mpr ⟨fun z => ⟨V.str.inj z2, by have := V.int.inj z; omega⟩, fun z => by rw [z.2]; rfl⟩, rfl⟩
          · exact ⟨(decide_eq_false fun z => z2 (congrArg V.str z.1)).symm, rfl⟩
        rintro _ H11 ⟨rfl, rfl⟩
        refine iteD (fun z2 => ?_) (fun z2 => ?_)
        · rw [show ordIn y = none from by rw [z2.1]; exact ord_s] at er2
          dsimp only at er2
          rw [if_pos z2] at er2
          walk_at "rd"
          refine ⟨tyL l9.c, ?_⟩
          walk_at "rd"
          refine ⟨Nat.zero_le _, fun b nb => ?_⟩
          have l11 := l9.keep ((Kp.refl _ _).new nb : Kp [] H11 (upd H11 b (.lst [])))
          have hb : (upd H11 b (.lst [])) b = some (.lst []) := upd_same
          have hbs : b ≠ sp := fun z => by rw [z, l9.s] at nb; cases nb
          have hbc : b ≠ cr := fun z => by rw [z, l9.c] at nb; cases nb
          have hb2 : H2 b = none := l9.k.none nb
          have hbp : ∀ q ∈ ps, q.1 ≠ b := fun q hq z => by have := (l9.p q hq).1; rw [z, nb] at this; cases this
          generalize upd H11 b (.lst []) = H12 at *
          walk_at "rd"
          refine r_app l11.c (by rw [sizeLine_eq, List.length_map]; omega) ?_
          refine ⟨h, c, cs, ps ++ [(b, [])], _, _, _, rfl, ⟨(upd_ne hsc).trans l11.s, by rw [upd_same, List.map_append]; rfl, fun q hq => ?_, ?_, l11.k.own ncr2⟩, ?_, by omega, by rw [List.length_append]; show ps.length + 1 ≤ _; omega, fun q hq => ?_⟩
          · rcases List.mem_append.mp hq with hq | hq
            · obtain ⟨g1, g2, g3, g4⟩ := l11.p q hq
              exact ⟨(upd_ne g3).trans g1, g2, g3, g4⟩
            · rw [List.mem_singleton.mp hq]
              exact ⟨(upd_ne hbc).trans hb, hbs, hbc, hb2⟩
          · rw [List.map_append]
            refine List.nodup_append.mpr ⟨l11.nd, by simp, fun u hu v hv z => ?_⟩
            obtain ⟨q, hq, rfl⟩ := List.mem_map.mp hu
            have : v = b := by simpa using hv
            exact hbp q hq (z.trans this)
          · rw [er2, List.map_append]; rfl
          · rcases List.mem_append.mp hq with hq | hq
            · have := hql q hq; omega
            · rw [List.mem_singleton.mp hq]; exact Nat.zero_le _
        refine r_if ?_
        walk_at "rd"
        have er3 : runL 0 0 [] [] 0 ws = (if y = ("x" : Str) ∧ h = 0 then runL h (c + 1) cs (ps.map (·.2)) (pre.length + 1) (ws.drop (pre.length + 1)) else .inl pre.length) := by
          rw [er2]
          rcases hno with eo | hc
          · rw [eo]
            dsimp only
            rw [if_neg z2]
          · cases eo : ordIn y with
            | none => dsimp only; rw [if_neg z2]
            | some n =>
              dsimp only
              rw [if_neg hc, if_neg]
              rintro ⟨rfl, _⟩
              rw [ord_x] at eo; cases eo
        have bad : ∀ (p : Addr), ¬ (y = ("x" : Str) ∧ h = 0) → H11 p = none → Q (.ref p) (upd H11 p (.tup [.str "text", .int (pre.length : Nat)])) := fun p z np => by
          rw [if_neg z] at er3
          rw [er3] at hq
          exact hq p _ upd_same (kH9.new np)
        refine iteD (fun z3 => ?_) (fun z3 => ?_)
        · walk_at "rd"
          refine iteD (fun z4 => ?_) (fun z4 => ?_)
          · have hh : h = 0 := by have := V.int.inj z4; omega
            rw [if_pos ⟨V.str.inj z3, hh⟩] at er3
            walk_at "rd"
            rw [castc]
            exact ⟨h, c + 1, cs, ps, _, _, _, rfl, l9, er3, by omega, by omega, fun q hq => by have := hql q hq; omega⟩
          · walk_at "rd"
            refine ⟨by show (2 : Nat) ≤ sizeLine; decide, fun p np => bad p (fun z => z4 (by rw [z.2]; rfl)) np⟩
        · walk_at "rd"
          refine ⟨by show (2 : Nat) ≤ sizeLine; decide, fun p np => bad p (fun z => z3 (congrArg V.str z.1)) np⟩
      · rintro σ' H' ⟨h, c, cs, ps, o6, o7, o8, rfl, l, er, _⟩
        rw [List.drop_length] at er
        rw [er] at hq
        walk_at "rd"
        refine ⟨by show (4 : Nat) ≤ sizeLine; decide, fun p np => ?_⟩
        have kp : Kp [] H' (upd H' p (.tup [.int (h : Nat), .int (c : Nat), .ref sp, .ref cr])) := (Kp.refl _ _).new np
        have l2 := l.keep kp
        exact hq p sp cr ps _ upd_same l2.s l2.c (fun q hq => (l2.p q hq).1) rfl ((k2.trans l.k).trans kp)
end
end K34

set_option Elab.async false
set_option linter.all false
set_option maxRecDepth 100000
set_option maxHeartbeats 4000000
set_option pp.maxSteps 1200
namespace K34
open PySem PySem.Spec PyProof.Rows L2 Rd PySem.W LamX
/-- x names a class, and an exception of the class at C is one of it (b) or not -/
def IsX (K : PySem.W.Frag) (mg : Str → Option Value) (C : Addr) (x : Str) (b : Bool) : Prop := ∃ D : Addr, mg x = some (.ref D) ∧ PySem.W.kitOne K (.ref C) (.ref D) = some b
structure HeardC (K : PySem.W.Frag) (mg : Str → Option Value) (CF CN CT : Addr) : Prop where
  fe : mg "FloorError" = some (.ref CF)
  exN : PySem.W.exmOne K (.ref CN) (.ref CF) = some true
  exT : PySem.W.exmOne K (.ref CT) (.ref CF) = some true
  kxN : KxC K CN
  kxT : KxC K CT
  faN : PySem.W.findIn K (.ref CN) "part" = some none
  faT : PySem.W.findIn K (.ref CT) "item" = some none
  n1 : IsX K mg CN "TooMany" false
  n2 : IsX K mg CN "NoPiece" false
  n3 : IsX K mg CN "BadText" false
  n4 : IsX K mg CN "Nothing" false
  n5 : IsX K mg CN "Rough" false
  n6 : IsX K mg CN "BadValue" false
  n7 : IsX K mg CN "BadNumber" true
  n8 : IsX K mg CN "BadBook" false
  n9 : IsX K mg CN "BadWalk" false
  n10 : IsX K mg CN "BadPaper" false
  n11 : IsX K mg CN "Misfit" false
  n12 : IsX K mg CN "BadPlace" false
  n13 : IsX K mg CN "BadPattern" false
  t1 : IsX K mg CT "TooMany" false
  t2 : IsX K mg CT "NoPiece" false
  t3 : IsX K mg CT "BadText" true
def HeardE (CN CT : Addr) (Q : VK) : XK := fun cls d H' =>
  (∃ (part : Str) (dd : Addr), cls = .ref CN ∧ d = some dd ∧ H' dd = some (.xd [("part", .str part)]) ∧ ∀ p H'', H'' p = some (.tup [.str "number", .str part]) → Kp [] H' H'' → Q (.ref p) H'') ∨
  (∃ (i : Int) (dd : Addr), cls = .ref CT ∧ d = some dd ∧ H' dd = some (.xd [("item", .int i)]) ∧ ∀ p H'', H'' p = some (.tup [.str "text", .int i]) → Kp [] H' H'' → Q (.ref p) H'')
def HeardQ (Q : VK) : VK := fun v H' => ∀ p H'', H'' p = some (.lst [v]) → Kp [] H' H'' → Q (.ref p) H''
def THeard (CN CT : Addr) : (XK → Hp → VK → Prop) → Hp → VK → Prop := fun tl H Q => ∀ H1, Kp [] H H1 → tl (HeardE CN CT Q) H1 (HeardQ Q)
abbrev sHeard : Stmt := topS 40
theorem scHeard : FnScope ["ask", "found", "caught", "error", "words", "kinds_of"] ["ask"] (defScope (topS 40)) := ⟨rfl, rfl, rfl, by decide +kernel, rfl, by decide +kernel, by decide +kernel⟩
theorem isX_gc {K : PySem.W.Frag} {mg : Str → Option Value} {C D : Addr} {x : Str} (h : mg x = some (.ref D)) : ∃ u, mg x = some u ∧ RelV (.ref D) u := ⟨_, h, rfl⟩
theorem r_isEx {K : PySem.W.Frag} {H : Hp} {Q : VK} {a C D : Addr} {fs : List (Str × V)} {b : Bool} (hx : ExAt H a C fs) (k : KxC K C) (e : PySem.W.kitOne K (.ref C) (.ref D) = some b) (q : Q (.bl b) H) : rIsEx K [.ref a, .ref D] H Q := ⟨a, C, fs, .ref D, .ref D, b, rfl, hx, k, fun u r => r, e, q⟩
theorem exAt_keep {H H' : Hp} {a D : Addr} {fs : List (Str × V)} (k : Kp [] H H') (h : ExAt H a D fs) : ExAt H' a D fs := by
  obtain ⟨dd, h1, h2⟩ := h
  exact ⟨dd, k.get h1, k.get h2⟩
theorem r_xkI {K : PySem.W.Frag} {σ : S0} {H : Hp} {Q : VK} {i : Nat} {a D : Addr} {fs : List (Str × V)} {v : V} {f : Str} (hv : σ[i]? = some (some (.ref a))) (hx : ExAt H a D fs) (k : KxC K D) (n : PySem.W.findIn K (.ref D) f = some none) (l : fs.lookup f = some v) (q : Q v H) : tXk K f (tVar i) σ H Q := ⟨_, hv, a, D, fs, v, rfl, hx, k, n, l, q⟩
theorem heard_gives {X : Cx} {g CF CN CT : Addr} {cdg : Value} {q : Str} {k : Nat} (G : Gm X.mg) (HC : HeardC X.K X.mg CF CN CT) : GivesTo3 X ["ask", "found", "caught", "error", "words", "kinds_of"] "_law_heard" (defScope (topS 40)) g cdg (defBody (topS 40)) "ask" q k (THeard CN CT) := by
  intro f c' ds dV s H Q tl act hr hc hdv h
  have nd := scHeard.nd
  obtain ⟨A1, m1, i1⟩ := HC.n1
  obtain ⟨A2, m2, i2⟩ := HC.n2
  obtain ⟨A3, m3, i3⟩ := HC.n3
  obtain ⟨A4, m4, i4⟩ := HC.n4
  obtain ⟨A5, m5, i5⟩ := HC.n5
  obtain ⟨A6, m6, i6⟩ := HC.n6
  obtain ⟨A7, m7, i7⟩ := HC.n7
  obtain ⟨A8, m8, i8⟩ := HC.n8
  obtain ⟨A9, m9, i9⟩ := HC.n9
  obtain ⟨A10, m10, i10⟩ := HC.n10
  obtain ⟨A11, m11, i11⟩ := HC.n11
  obtain ⟨A12, m12, i12⟩ := HC.n12
  obtain ⟨A13, m13, i13⟩ := HC.n13
  obtain ⟨B1, l1, j1⟩ := HC.t1
  obtain ⟨B2, l2, j2⟩ := HC.t2
  obtain ⟨B3, l3, j3⟩ := HC.t3
  obtain rfl : B1 = A1 := by rw [l1] at m1; cases m1; rfl
  obtain rfl : B2 = A2 := by rw [l2] at m2; cases m2; rfl
  obtain rfl : B3 = A3 := by rw [l3] at m3; cases m3; rfl
  have D_TooMany : ∃ u, X.mg "TooMany" = some u ∧ RelV (.ref B1) u := ⟨_, m1, rfl⟩
  have D_NoPiece : ∃ u, X.mg "NoPiece" = some u ∧ RelV (.ref B2) u := ⟨_, m2, rfl⟩
  have D_BadText : ∃ u, X.mg "BadText" = some u ∧ RelV (.ref B3) u := ⟨_, m3, rfl⟩
  have D_Nothing : ∃ u, X.mg "Nothing" = some u ∧ RelV (.ref A4) u := ⟨_, m4, rfl⟩
  have D_Rough : ∃ u, X.mg "Rough" = some u ∧ RelV (.ref A5) u := ⟨_, m5, rfl⟩
  have D_BadValue : ∃ u, X.mg "BadValue" = some u ∧ RelV (.ref A6) u := ⟨_, m6, rfl⟩
  have D_BadNumber : ∃ u, X.mg "BadNumber" = some u ∧ RelV (.ref A7) u := ⟨_, m7, rfl⟩
  have D_BadBook : ∃ u, X.mg "BadBook" = some u ∧ RelV (.ref A8) u := ⟨_, m8, rfl⟩
  have D_BadWalk : ∃ u, X.mg "BadWalk" = some u ∧ RelV (.ref A9) u := ⟨_, m9, rfl⟩
  have D_BadPaper : ∃ u, X.mg "BadPaper" = some u ∧ RelV (.ref A10) u := ⟨_, m10, rfl⟩
  have D_Misfit : ∃ u, X.mg "Misfit" = some u ∧ RelV (.ref A11) u := ⟨_, m11, rfl⟩
  have D_BadPlace : ∃ u, X.mg "BadPlace" = some u ∧ RelV (.ref A12) u := ⟨_, m12, rfl⟩
  have D_BadPattern : ∃ u, X.mg "BadPattern" = some u ∧ RelV (.ref A13) u := ⟨_, m13, rfl⟩
  refine ⟨_, (pss_cons (ps_asg (pe_tup (pa_cons pe_non (pa_cons pe_non pa_nil))) (pg_tup rfl (pgs_cons (pg_name (i := 1) nd rfl (.inl rfl)) (pgs_cons (pg_name (i := 2) nd rfl (.inl rfl)) pgs_nil))))
      (pss_cons (ps_try_keep (x := "FloorError") (n := "error") (c := .ref CF) (i := 3) (tb := fun W D σ H => σ[0]? = some (some (.ref f)) ∧ H c' = some (CodeO c' q) ∧ DV H ds dV ∧ ∃ (E0 : XK) (Q0 : VK), tl E0 H Q0 ∧ (∀ cls d H', E0 cls d H' → W cls d σ H') ∧ ∀ v H', Q0 v H' → D.nx (σ.set 1 (some v)) H') (ts := fun a cls d => tAsg (tVar 3) (gName 2)) (Wout := fun _ _ _ _ => False) rfl rfl nd rfl rfl ⟨by rfl, by decide, .inl HC.fe⟩ rfl LamX.takes0 (fun W pn xe tk _ => pss_one (ps_set (i := 1) nd rfl (.inl rfl) (act W pn xe _ _ tk))) (fun a oe cls d pn _ _ => pss_one (ps_set (i := 2) nd rfl (.inl rfl) (pv 3))))
      (pss_cons (ps_if (pt_cmpR op_isN1 (pv 2) pe_non (nomark _)) (pss_one (ps_ret (pe_lst (pa_cons (pv 1) pa_nil)))) pss_nil)
      (pss_cons (ps_if (pt_val (pe_callB c_isEx (by rfl) G.isinstance bt_isinstance (pa_cons (pv 2) (pa_cons (C8.pe_gc (by rfl) D_TooMany) pa_nil)))) (pss_one (ps_ret (pe_tup (pa_cons pe_str (pa_cons (pe_xk (pv 2)) (pa_cons (pe_xk (pv 2)) pa_nil)))))) pss_nil)
      (pss_cons (ps_if (pt_val (pe_callB c_isEx (by rfl) G.isinstance bt_isinstance (pa_cons (pv 2) (pa_cons (C8.pe_gc (by rfl) D_NoPiece) pa_nil)))) (pss_one (ps_ret (pe_tup (pa_cons pe_str (pa_cons (pe_xk (pv 2)) pa_nil))))) pss_nil)
      (pss_cons (ps_if (pt_val (pe_callB c_isEx (by rfl) G.isinstance bt_isinstance (pa_cons (pv 2) (pa_cons (C8.pe_gc (by rfl) D_BadText) pa_nil)))) (pss_one (ps_ret (pe_tup (pa_cons pe_str (pa_cons (pe_xk (pv 2)) pa_nil))))) pss_nil)
      (pss_cons (ps_if (pt_val (pe_callB c_isExT (by rfl) G.isinstance bt_isinstance (pa_cons (pv 2) (pa_cons (pe_tup (pa_cons (C8.pe_gc (by rfl) D_Nothing) (pa_cons (C8.pe_gc (by rfl) D_Rough) pa_nil))) pa_nil)))) (pss_one (ps_ret (pe_ifExp (pt_val (pe_callB c_isEx (by rfl) G.isinstance bt_isinstance (pa_cons (pv 2) (pa_cons (C8.pe_gc (by rfl) D_Nothing) pa_nil)))) (pe_tup (pa_cons pe_str pa_nil)) (pe_tup (pa_cons pe_str pa_nil))))) pss_nil)
      (pss_cons (ps_set (i := 4) nd rfl (.inl rfl) (pe_lst (pa_cons pe_str (pa_cons pe_str (pa_cons pe_str (pa_cons pe_str (pa_cons pe_str (pa_cons pe_str (pa_cons pe_str (pa_cons pe_str pa_nil))))))))))
      (pss_cons (ps_set (i := 5) nd rfl (.inl rfl) (pe_lst (pa_cons (pe_callB c_isEx (by rfl) G.isinstance bt_isinstance (pa_cons (pv 2) (pa_cons (C8.pe_gc (by rfl) D_BadValue) pa_nil))) (pa_cons (pe_callB c_isEx (by rfl) G.isinstance bt_isinstance (pa_cons (pv 2) (pa_cons (C8.pe_gc (by rfl) D_BadNumber) pa_nil))) (pa_cons (pe_callB c_isEx (by rfl) G.isinstance bt_isinstance (pa_cons (pv 2) (pa_cons (C8.pe_gc (by rfl) D_BadBook) pa_nil))) (pa_cons (pe_callB c_isEx (by rfl) G.isinstance bt_isinstance (pa_cons (pv 2) (pa_cons (C8.pe_gc (by rfl) D_BadWalk) pa_nil))) (pa_cons (pe_callB c_isEx (by rfl) G.isinstance bt_isinstance (pa_cons (pv 2) (pa_cons (C8.pe_gc (by rfl) D_BadPaper) pa_nil))) pa_nil)))))))
      (pss_cons (ps_set (i := 5) nd rfl (.inl rfl) (pe_op op_cat (pv 5) (pe_lst (pa_cons (pe_callB c_isEx (by rfl) G.isinstance bt_isinstance (pa_cons (pv 2) (pa_cons (C8.pe_gc (by rfl) D_Misfit) pa_nil))) (pa_cons (pe_callB c_isEx (by rfl) G.isinstance bt_isinstance (pa_cons (pv 2) (pa_cons (C8.pe_gc (by rfl) D_BadPlace) pa_nil))) (pa_cons (pe_callB c_isEx (by rfl) G.isinstance bt_isinstance (pa_cons (pv 2) (pa_cons (C8.pe_gc (by rfl) D_BadPattern) pa_nil))) pa_nil))))))
      (pss_one (ps_ret (pe_ifExp (pt_cmpR op_eq (pe_bm PySem.F.plainAttrs_list PySem.F.slot_list_count PySem.F.type_list_count (mt_lcountD hr) (pv 5) (pa_cons pe_bl pa_nil)) pe_int (nomark _)) (pe_tup (pa_cons (pe_ix ix_list (pv 4) (pe_bm PySem.F.plainAttrs_list PySem.F.slot_list_index PySem.F.type_list_index mt_index (pv 5) (pa_cons pe_bl pa_nil)) (fun _ _ => rfl)) (pa_cons (pe_xk (pv 2)) pa_nil))) (pe_tup (pa_cons pe_str pa_nil))))))))))))))), ?_⟩
  dsimp only [Rd.cxnK]
  walk_at "rd"
  refine ⟨by show (2 : Nat) ≤ sizeLine; decide, fun t nt => ?_⟩
  have k1 : Kp [] H (upd H t (.tup [.non, .non])) := (Kp.refl _ _).new nt
  have ht : (upd H t (.tup [.non, .non])) t = some (.tup [.non, .non]) := upd_same
  generalize upd H t (.tup [.non, .non]) = H1 at *
  refine ⟨t, _, rfl, sqT_of ht, rfl, ?_⟩
  walk_at "rd"
  have hdv1 : DV H1 ds dV := by
    rcases hdv with z | ⟨T, z1, z2, z3⟩
    · exact .inl z
    · exact .inr ⟨T, z1, k1.get z2, z3⟩
  refine ⟨rfl, k1.get hc, hdv1, HeardE CN CT Q, HeardQ Q, h H1 k1, fun cls d H2 hE => ?_, fun v H2 hQ => ?_⟩
  · rcases hE with ⟨part, dd, rfl, rfl, hdd, q⟩ | ⟨it, dd, rfl, rfl, hdd, q⟩
    · refine ⟨true, HC.exN, fun _ a na => ?_, fun z => by cases z⟩
      have k2 : Kp [] H2 (upd H2 a (excK a (.ref CN) (some dd))) := (Kp.refl _ _).new na
      have hx : ExAt (upd H2 a (excK a (.ref CN) (some dd))) a CN [("part", .str part)] := ⟨dd, upd_same, k2.get hdd⟩
      generalize hH3 : upd H2 a (excK a (.ref CN) (some dd)) = H3 at *
      walk_at "rd"
      rw [hH3]
      walk_at "rd"
      refine r_isEx hx HC.kxN i1 ?_
      walk_at "rd"
      refine r_isEx hx HC.kxN i2 ?_
      walk_at "rd"
      refine r_isEx hx HC.kxN i3 ?_
      walk_at "rd"
      refine ⟨by show (2 : Nat) ≤ sizeLine; decide, fun t1 nt1 => ?_⟩
      walk_at "rd"
      have hx1 := exAt_keep ((Kp.refl _ _).new nt1 : Kp [] H3 (upd H3 t1 (.tup [.ref A4, .ref A5]))) hx
      have k31 : Kp [] H2 (upd H3 t1 (.tup [.ref A4, .ref A5])) := k2.new nt1
      have ht1 : (upd H3 t1 (.tup [.ref A4, .ref A5])) t1 = some (.tup [.ref A4, .ref A5]) := upd_same
      generalize upd H3 t1 (.tup [.ref A4, .ref A5]) = H4 at *
      refine ⟨a, CN, t1, _, [.ref A4, .ref A5], [.ref A4, .ref A5], false, rfl, hx1, HC.kxN, ht1, fun us h => ?_, ?_, ?_⟩
      · cases h with
        | cons r1 h2 =>
          cases h2 with
          | cons r2 h3 => cases h3; cases r1; cases r2; rfl
      · unfold PySem.W.kitAny
        rw [i4]
        show PySem.W.kitAny _ _ [_] = _
        unfold PySem.W.kitAny
        rw [i5]; rfl
      walk_at "rd"
      refine ⟨by show (8 : Nat) ≤ sizeLine; decide, fun wl nwl => ?_⟩
      have kw := ((Kp.refl _ _).new nwl : Kp [] H4 (upd H4 wl (.lst [.str "value", .str "number", .str "book", .str "walk", .str "paper", .str "fit", .str "place", .str "pattern"])))
      have hx2 := exAt_keep kw hx1
      have k4 := k31.trans kw
      have hwl : (upd H4 wl (.lst [.str "value", .str "number", .str "book", .str "walk", .str "paper", .str "fit", .str "place", .str "pattern"])) wl = some (.lst [.str "value", .str "number", .str "book", .str "walk", .str "paper", .str "fit", .str "place", .str "pattern"]) := upd_same
      generalize upd H4 wl (.lst [.str "value", .str "number", .str "book", .str "walk", .str "paper", .str "fit", .str "place", .str "pattern"]) = H5 at *
      walk_at "rd"
      refine r_isEx hx2 HC.kxN i6 ?_
      walk_at "rd"
      refine r_isEx hx2 HC.kxN i7 ?_
      walk_at "rd"
      refine r_isEx hx2 HC.kxN i8 ?_
      walk_at "rd"
      refine r_isEx hx2 HC.kxN i9 ?_
      walk_at "rd"
      refine r_isEx hx2 HC.kxN i10 ?_
      walk_at "rd"
      refine ⟨by show (5 : Nat) ≤ sizeLine; decide, fun b1 nb1 => ?_⟩
      have kb1 := ((Kp.refl _ _).new nb1 : Kp [] H5 (upd H5 b1 (.lst [.bl false, .bl true, .bl false, .bl false, .bl false])))
      have hb1 : (upd H5 b1 (.lst [.bl false, .bl true, .bl false, .bl false, .bl false])) b1 = some (.lst [.bl false, .bl true, .bl false, .bl false, .bl false]) := upd_same
      generalize upd H5 b1 (.lst [.bl false, .bl true, .bl false, .bl false, .bl false]) = H6 at *
      have hx3 := exAt_keep kb1 hx2
      walk_at "rd"
      refine r_isEx hx3 HC.kxN i11 ?_
      walk_at "rd"
      refine r_isEx hx3 HC.kxN i12 ?_
      walk_at "rd"
      refine r_isEx hx3 HC.kxN i13 ?_
      walk_at "rd"
      refine ⟨by show (3 : Nat) ≤ sizeLine; decide, fun b2 nb2 => ?_⟩
      have kb2 := ((Kp.refl _ _).new nb2 : Kp [] H6 (upd H6 b2 (.lst [.bl false, .bl false, .bl false])))
      refine r_cat (kb2.get hb1) upd_same (by show (8 : Nat) ≤ sizeLine; decide) fun b3 nb3 => ?_
      have k7 : Kp [] H5 (upd (upd H6 b2 (.lst [.bl false, .bl false, .bl false])) b3 (.lst ([.bl false, .bl true, .bl false, .bl false, .bl false] ++ [.bl false, .bl false, .bl false]))) := (kb1.trans kb2).new nb3
      have hb3 : (upd (upd H6 b2 (.lst [.bl false, .bl false, .bl false])) b3 (.lst ([.bl false, .bl true, .bl false, .bl false, .bl false] ++ [.bl false, .bl false, .bl false]))) b3 = some (.lst [.bl false, .bl true, .bl false, .bl false, .bl false, .bl false, .bl false, .bl false]) := upd_same
      generalize upd (upd H6 b2 (.lst [.bl false, .bl false, .bl false])) b3 (.lst ([.bl false, .bl true, .bl false, .bl false, .bl false] ++ [.bl false, .bl false, .bl false])) = H7 at *
      have hx4 := exAt_keep k7 hx2
      have hwl7 := k7.get hwl
      have k8 := k4.trans k7
      walk_at "rd"
      refine ⟨tyL hb3, ?_⟩
      walk_at "rd"
      refine ⟨b3, _, _, [.bool false, .bool true, .bool false, .bool false, .bool false, .bool false, .bool false, .bool false], .bool true, rfl, rfl, sqL_of hb3, .cons (.bl _) (.cons (.bl _) (.cons (.bl _) (.cons (.bl _) (.cons (.bl _) (.cons (.bl _) (.cons (.bl _) (.cons (.bl _) .nil))))))), .bl true, rfl, rfl, by decide, ?_⟩
      walk_at "rd"
      refine iteD (fun _ => ?_) (fun z => absurd (by first | rfl | decide | simp [PyData.eqv]) z)
      walk_at "rd"
      refine ⟨tyL hb3, ?_⟩
      walk_at "rd"
      refine ⟨b3, _, .bl true, 1, .bl true, rfl, rfl, sqL_of hb3, rfl, rfl, rfl, rfl, fun m z hm hz => ?_, ?_⟩
      · obtain rfl : m = 0 := by omega
        cases (show some (V.bl false) = some z from hz)
        rfl
      refine r_ixLt hwl7 rfl ?_
      walk_at "rd"
      refine r_xkI rfl hx4 HC.kxN HC.faN rfl ?_
      walk_at "rd"
      refine ⟨by show (2 : Nat) ≤ sizeLine; decide, fun p np => ?_⟩
      exact q p _ upd_same (k8.new np)
    · refine ⟨true, HC.exT, fun _ a na => ?_, fun z => by cases z⟩
      have k2 : Kp [] H2 (upd H2 a (excK a (.ref CT) (some dd))) := (Kp.refl _ _).new na
      have hx : ExAt (upd H2 a (excK a (.ref CT) (some dd))) a CT [("item", .int it)] := ⟨dd, upd_same, k2.get hdd⟩
      generalize hH3 : upd H2 a (excK a (.ref CT) (some dd)) = H3 at *
      walk_at "rd"
      rw [hH3]
      walk_at "rd"
      refine r_isEx hx HC.kxT j1 ?_
      walk_at "rd"
      refine r_isEx hx HC.kxT j2 ?_
      walk_at "rd"
      refine r_isEx hx HC.kxT j3 ?_
      walk_at "rd"
      refine r_xkI rfl hx HC.kxT HC.faT rfl ?_
      walk_at "rd"
      refine ⟨by show (2 : Nat) ≤ sizeLine; decide, fun p np => ?_⟩
      exact q p _ upd_same (k2.new np)
  · walk_at "rd"
    refine ⟨by show (1 : Nat) ≤ sizeLine; decide, fun p np => ?_⟩
    exact hQ p _ upd_same ((Kp.refl _ _).new np)
end K34

set_option Elab.async false
set_option maxRecDepth 100000
set_option maxHeartbeats 4000000
namespace K34
open PySem PySem.Spec PyProof.Rows Rd
/-! plain laws that the walk of the law asks -/
def Told1 (ws : List Str) : List Str := ws
theorem tl_sp : TL.tl (" " : Str) = 32 :: [] := by decide +kernel
theorem sp_ok : (" " : Str).cps.all (· < 256) = true := by decide +kernel
theorem split_tl (x : Str) : (Txt.split x " ").map TL.tl = TL.spl [32] 0 [] (TL.tl x) := by
  rw [TL.split_spl x " " (by rw [tl_sp]; simp) (TL.kind_ok sp_ok), tl_sp]
theorem spl_ne : ∀ (l acc : List Nat), TL.spl [32] 0 acc l ≠ []
  | [], acc => by rw [TL.spl_nil]; simp
  | c :: l, acc => by
    cases h : TL.pre [32] (c :: l) with
    | true => rw [TL.spl_hit h]; simp
    | false => rw [TL.spl_miss h]; exact spl_ne l _
theorem spl_mem : ∀ (l acc : List Nat), ∀ p ∈ TL.spl [32] 0 acc l, ∀ c ∈ p, c ∈ acc ∨ c ∈ l
  | [], acc, p, hp, c, hc => by
    rw [TL.spl_nil] at hp
    rw [List.mem_singleton.mp hp] at hc
    exact .inl hc
  | d :: l, acc, p, hp, c, hc => by
    cases h : TL.pre [32] (d :: l) with
    | true =>
      rw [TL.spl_hit h] at hp
      rcases List.mem_cons.mp hp with rfl | hp
      · exact .inl hc
      · rcases spl_mem l [] p hp c hc with z | z
        · exact absurd z (by simp)
        · exact .inr (List.mem_cons_of_mem _ z)
    | false =>
      rw [TL.spl_miss h] at hp
      rcases spl_mem l _ p hp c hc with z | z
      · rcases List.mem_append.mp z with z | z
        · exact .inl z
        · rw [List.mem_singleton.mp z]; exact .inr List.mem_cons_self
      · exact .inr (List.mem_cons_of_mem _ z)
theorem split_ne (x : Str) : Txt.split x " " ≠ [] := fun h => by
  have := split_tl x
  rw [h] at this
  exact spl_ne _ _ this.symm
theorem split_w (x : Str) : ((Txt.split x " ").map (·.length)).sum + (Txt.split x " ").length ≤ x.length + 1 := split_weight x " " (by decide)
theorem split_len (x : Str) : (Txt.split x " ").length ≤ x.length + 1 := by
  have := split_w x; omega
theorem le_sum {y : Str} : ∀ {ws : List Str}, y ∈ ws → y.length ≤ (ws.map (·.length)).sum
  | w :: ws, h => by
    rw [List.map_cons, List.sum_cons]
    rcases List.mem_cons.mp h with rfl | h
    · omega
    · have := le_sum h; omega
theorem split_word (x : Str) : ∀ y ∈ Txt.split x " ", y.length ≤ x.length := fun y hy => by
  have h1 := split_w x
  have h2 := le_sum hy
  have h3 : 0 < (Txt.split x " ").length := List.length_pos_of_mem hy
  omega
def cpOk (c : Nat) : Bool := decide (c < 0x110000)
theorem ok_tl (x : Str) : PyData.canLay0 (.str x) = true ↔ ∀ c ∈ TL.tl x, cpOk c = true := by
  show PyData.strOk x = true ↔ _
  unfold PyData.strOk cpOk
  rw [Array.all_eq_true']
  constructor
  · intro h c hc; exact h c (Array.mem_def.mpr hc)
  · intro h c hc; exact h c (Array.mem_def.mp hc)
theorem split_lay (x : Str) (h : PyData.canLay0 (.str x) = true) : ∀ y ∈ Txt.split x " ", PyData.canLay0 (.str y) = true := fun y hy => by
  rw [ok_tl] at h ⊢
  intro c hc
  have hm : TL.tl y ∈ TL.spl [32] 0 [] (TL.tl x) := by rw [← split_tl]; exact List.mem_map.mpr ⟨y, hy, rfl⟩
  rcases spl_mem _ _ _ hm c hc with z | z
  · exact absurd z (by simp)
  · exact h c z
theorem join_len (ws : List Str) : (Txt.join " " ws).length ≤ (ws.map (·.length)).sum + ws.length := by
  rw [TL.join_eq]
  cases ws with
  | nil => decide
  | cons a l =>
    rw [len_join_cons, List.length_cons]
    have : (" " : Str).length = 1 := rfl
    rw [this]; omega
theorem joinL_mem : ∀ (ps : List (List Nat)), ∀ c ∈ TL.joinL [32] ps, c = 32 ∨ ∃ p ∈ ps, c ∈ p
  | [], c, hc => absurd hc (by simp [TL.joinL])
  | [p], c, hc => .inr ⟨p, by simp, hc⟩
  | p :: q :: r, c, hc => by
    rcases List.mem_append.mp (show c ∈ p ++ ([32] ++ TL.joinL [32] (q :: r)) from hc) with z | z
    · exact .inr ⟨p, by simp, z⟩
    · rcases List.mem_append.mp z with z | z
      · exact .inl (List.mem_singleton.mp z)
      · rcases joinL_mem (q :: r) c z with z | ⟨u, hu, z⟩
        · exact .inl z
        · exact .inr ⟨u, List.mem_cons_of_mem _ hu, z⟩
theorem join_lay (ws : List Str) (h : ∀ y ∈ ws, PyData.canLay0 (.str y) = true) : PyData.canLay0 (.str (Txt.join " " ws)) = true := by
  rw [ok_tl, TL.join_eq, TL.tl_join, tl_sp]
  intro c hc
  rcases joinL_mem _ c hc with rfl | ⟨p, hp, z⟩
  · decide
  · obtain ⟨y, hy, rfl⟩ := List.mem_map.mp hp
    exact (ok_tl y).mp (h y hy) c z
theorem ne_om : ("o" : Str) ≠ "-" := by decide
theorem ne_so : ("*" : Str) ≠ "o" := by decide
theorem ne_sm : ("*" : Str) ≠ "-" := by decide
theorem ne_xo : ("x" : Str) ≠ "o" := by decide
theorem ne_xm : ("x" : Str) ≠ "-" := by decide
theorem ne_xs : ("x" : Str) ≠ "*" := by decide
theorem ord_ne {w m : Str} {n : Int} (h : ordIn w = some n) (hm : ordIn m = none) : w ≠ m := fun e => by rw [e, hm] at h; cases h
theorem step_o (h i : Nat) (ws : List Str) : runL h 0 [] [] i ("o" :: ws) = runL (h + 1) 0 [] [] (i + 1) ws := by
  rw [runL, if_neg fun z => ne_om z.1, if_pos ⟨rfl, rfl, rfl, rfl⟩]
theorem step_c (h i : Nat) (cs : List Int) {w : Str} {n : Int} (hw : ordIn w = some n) (ws : List Str) : runL h 0 cs [] i (w :: ws) = runL h 0 (cs ++ [n]) [] (i + 1) ws := by
  rw [runL, if_neg fun z => ord_ne hw ord_m z.1, if_neg fun z => ord_ne hw ord_o z.1]
  simp only [hw]
  rw [if_pos trivial, if_pos trivial]
theorem step_r (h i : Nat) (cs : List Int) {rs : List (List Int)} (hr : rs ≠ []) {w : Str} {n : Int} (hw : ordIn w = some n) (ws : List Str) : runL h 0 cs rs i (w :: ws) = runL h 0 cs (addLast n rs) (i + 1) ws := by
  rw [runL, if_neg fun z => ord_ne hw ord_m z.1, if_neg fun z => ord_ne hw ord_o z.1]
  simp only [hw]
  rw [if_pos trivial, if_neg hr]
theorem step_s (h i : Nat) (cs : List Int) (rs : List (List Int)) (ws : List Str) : runL h 0 cs rs i ("*" :: ws) = runL h 0 cs (rs ++ [[]]) (i + 1) ws := by
  rw [runL, if_neg fun z => ne_sm z.1, if_neg fun z => ne_so z.1]
  simp only [ord_s]
  rw [if_pos ⟨trivial, trivial⟩]
theorem step_x (c i : Nat) (cs : List Int) (rs : List (List Int)) (ws : List Str) : runL 0 c cs rs i ("x" :: ws) = runL 0 (c + 1) cs rs (i + 1) ws := by
  rw [runL, if_neg fun z => ne_xm z.1, if_neg fun z => ne_xo z.1]
  simp only [ord_x]
  rw [if_neg fun z => ne_xs z.1, if_pos ⟨trivial, trivial⟩]
theorem run_o : ∀ (ws : List Str) (h i : Nat), runL h 0 [] [] i ws = runL (h + lead "o" ws) 0 [] [] (i + lead "o" ws) (ws.drop (lead "o" ws))
  | [], h, i => rfl
  | w :: ws, h, i => by
    by_cases z : w = "o"
    · subst z
      have e : lead "o" ("o" :: ws) = lead "o" ws + 1 := by rw [lead, if_pos rfl]
      rw [e, step_o, run_o ws, List.drop_succ_cons, show h + 1 + lead "o" ws = h + (lead "o" ws + 1) by omega, show i + 1 + lead "o" ws = i + (lead "o" ws + 1) by omega]
    · have e : lead "o" (w :: ws) = 0 := by rw [lead, if_neg z]
      rw [e]; rfl
theorem run_c : ∀ (ws : List Str) (h i : Nat) (cs : List Int), runL h 0 cs [] i ws = runL h 0 (cs ++ ords ws) [] (i + (ords ws).length) (ws.drop (ords ws).length)
  | [], h, i, cs => by rw [ords, List.append_nil]; rfl
  | w :: ws, h, i, cs => by
    cases z : ordIn w with
    | some n =>
      have e : ords (w :: ws) = n :: ords ws := by rw [ords, z]
      rw [e, step_c _ _ _ z, run_c ws, List.length_cons, List.drop_succ_cons, List.append_assoc, show i + 1 + (ords ws).length = i + ((ords ws).length + 1) by omega]; rfl
    | none =>
      have e : ords (w :: ws) = [] := by rw [ords, z]
      rw [e, List.append_nil]; rfl
theorem run_r : ∀ (ws : List Str) (h i : Nat) (cs : List Int) (rs : List (List Int)) (r : List Int), runL h 0 cs (rs ++ [r]) i ws = runL h 0 cs (rs ++ [r ++ ords ws]) (i + (ords ws).length) (ws.drop (ords ws).length)
  | [], h, i, cs, rs, r => by rw [ords, List.append_nil]; rfl
  | w :: ws, h, i, cs, rs, r => by
    cases z : ordIn w with
    | some n =>
      have e : ords (w :: ws) = n :: ords ws := by rw [ords, z]
      rw [e, step_r _ _ _ (by simp) z, addLast_snoc, run_r ws, List.length_cons, List.drop_succ_cons, List.append_assoc, show i + 1 + (ords ws).length = i + ((ords ws).length + 1) by omega]; rfl
    | none =>
      have e : ords (w :: ws) = [] := by rw [ords, z]
      rw [e, List.append_nil]; rfl
theorem run_s : ∀ (f : Nat) (ws : List Str) (h i : Nat) (cs : List Int) (rs : List (List Int)), runL h 0 cs rs i ws = runL h 0 cs (rs ++ rings f ws) (i + ringLen (rings f ws)) (ws.drop (ringLen (rings f ws)))
  | 0, ws, h, i, cs, rs => by rw [rings, List.append_nil]; rfl
  | f + 1, [], h, i, cs, rs => by
    have e : rings (f + 1) [] = [] := by rw [rings]; simp
    rw [e, List.append_nil]; rfl
  | f + 1, w :: ws, h, i, cs, rs => by
    by_cases z : w = "*"
    · subst z
      have e : rings (f + 1) ("*" :: ws) = ords ws :: rings f (ws.drop (ords ws).length) := by rw [rings, if_pos rfl]
      rw [e, step_s, run_r ws, List.nil_append, run_s f (ws.drop (ords ws).length), ringLen, List.append_assoc, List.drop_drop]
      rw [show 1 + (ords ws).length + ringLen (rings f (ws.drop (ords ws).length)) = ((ords ws).length + ringLen (rings f (ws.drop (ords ws).length))) + 1 by omega, List.drop_succ_cons]
      rw [show i + 1 + (ords ws).length + ringLen (rings f (ws.drop (ords ws).length)) = i + ((ords ws).length + ringLen (rings f (ws.drop (ords ws).length)) + 1) by omega]
      rfl
    · have e : rings (f + 1) (w :: ws) = [] := by rw [rings, if_neg z]
      rw [e, List.append_nil]; rfl
theorem run_x : ∀ (ws : List Str) (c i : Nat) (cs : List Int) (rs : List (List Int)), runL 0 c cs rs i ws = runL 0 (c + lead "x" ws) cs rs (i + lead "x" ws) (ws.drop (lead "x" ws))
  | [], c, i, cs, rs => rfl
  | w :: ws, c, i, cs, rs => by
    by_cases z : w = "x"
    · subst z
      have e : lead "x" ("x" :: ws) = lead "x" ws + 1 := by rw [lead, if_pos rfl]
      rw [e, step_x, run_x ws, List.drop_succ_cons, show c + 1 + lead "x" ws = c + (lead "x" ws + 1) by omega, show i + 1 + lead "x" ws = i + (lead "x" ws + 1) by omega]
    · have e : lead "x" (w :: ws) = 0 := by rw [lead, if_neg z]
      rw [e]; rfl
theorem lead_stop (m : Str) : ∀ ws : List Str, (ws.drop (lead m ws)).head? ≠ some m
  | [] => by simp [lead]
  | w :: ws => by
    by_cases z : w = m
    · rw [lead, if_pos z, List.drop_succ_cons]; exact lead_stop m ws
    · rw [lead, if_neg z]; intro h; exact z (Option.some.inj h)
theorem ords_stop : ∀ (ws : List Str) (w : Str), (ws.drop (ords ws).length).head? = some w → ordIn w = none
  | [], w, h => by simp [ords] at h
  | v :: ws, w, h => by
    cases z : ordIn v with
    | some n =>
      have e : ords (v :: ws) = n :: ords ws := by rw [ords, z]
      rw [e, List.length_cons, List.drop_succ_cons] at h
      exact ords_stop ws w h
    | none =>
      have e : ords (v :: ws) = [] := by rw [ords, z]
      rw [e] at h
      rw [← Option.some.inj (show some v = some w from h)]; exact z
theorem rings_stop : ∀ (f : Nat) (ws : List Str), ws.length ≤ f → (ws.drop (ringLen (rings f ws))).head? ≠ some ("*" : Str) ∧ (rings f ws ≠ [] → ∀ w, (ws.drop (ringLen (rings f ws))).head? = some w → ordIn w = none)
  | 0, ws, hf => by
    obtain rfl : ws = [] := List.eq_nil_of_length_eq_zero (by omega)
    exact ⟨by simp, fun h => absurd rfl h⟩
  | f + 1, [], _ => by
    have e : rings (f + 1) [] = [] := by rw [rings]; simp
    rw [e]; exact ⟨by simp, fun h => absurd rfl h⟩
  | f + 1, w :: ws, hf => by
    by_cases z : w = "*"
    · subst z
      have e : rings (f + 1) ("*" :: ws) = ords ws :: rings f (ws.drop (ords ws).length) := by rw [rings, if_pos rfl]
      have hl : (ws.drop (ords ws).length).length ≤ f := by rw [List.length_drop]; rw [List.length_cons] at hf; omega
      have ih := rings_stop f (ws.drop (ords ws).length) hl
      have ed : ("*" :: ws : List Str).drop (ringLen (rings (f + 1) ("*" :: ws))) = (ws.drop (ords ws).length).drop (ringLen (rings f (ws.drop (ords ws).length))) := by
        rw [e, ringLen, List.drop_drop, show 1 + (ords ws).length + ringLen (rings f (ws.drop (ords ws).length)) = ((ords ws).length + ringLen (rings f (ws.drop (ords ws).length))) + 1 by omega, List.drop_succ_cons]
      rw [ed]
      refine ⟨ih.1, fun _ v hv => ?_⟩
      by_cases q : rings f (ws.drop (ords ws).length) = []
      · rw [q] at hv
        exact ords_stop ws v hv
      · exact ih.2 q v hv
    · have e : rings (f + 1) (w :: ws) = [] := by rw [rings, if_neg z]
      rw [e]; exact ⟨fun h => z (Option.some.inj h), fun h => absurd rfl h⟩
theorem run_stop {h c i : Nat} {cs : List Int} {rs : List (List Int)} {w : Str} {ws : List Str} (h1 : ¬ (w = "-" ∧ i = 0)) (h2 : ¬ (w = "o" ∧ c = 0 ∧ cs = [] ∧ rs = [])) (h3 : c = 0 → ordIn w = none) (h4 : ¬ (w = "*" ∧ c = 0)) (h5 : ¬ (w = "x" ∧ h = 0)) : runL h c cs rs i (w :: ws) = .inl i := by
  rw [runL, if_neg h1, if_neg h2]
  cases z : ordIn w with
  | some n =>
    show (if c = 0 then _ else _) = _
    rw [if_neg fun q => by rw [h3 q] at z; cases z]
  | none =>
    show (if _ then _ else _) = _
    rw [if_neg h4, if_neg h5]
theorem run_parse (ws : List Str) (h0 : ws.head? ≠ some ("-" : Str)) : runL 0 0 [] [] 0 ws = parse ws := by
  unfold parse
  dsimp only
  rw [run_o ws, Nat.zero_add, run_c (ws.drop (lead "o" ws)), List.nil_append, run_s ws.length, List.nil_append]
  simp only [List.drop_drop]
  have s1 := lead_stop "o" ws
  have s2 := ords_stop (ws.drop (lead "o" ws))
  have s3 := rings_stop ws.length ((ws.drop (lead "o" ws)).drop (ords (ws.drop (lead "o" ws))).length) (by rw [List.length_drop, List.length_drop]; omega)
  simp only [List.drop_drop] at s2 s3
  generalize hh : lead "o" ws = h at *
  generalize hc : ords (ws.drop h) = cs at *
  generalize hr : rings ws.length (ws.drop (h + cs.length)) = rs at *
  generalize ha : h + cs.length + ringLen rs = a at *
  have key : ∀ k : Nat, (k ≠ 0 → h = 0) → (h = 0 → (ws.drop (a + k)).head? ≠ some ("x" : Str)) → runL h k cs rs (a + k) (ws.drop (a + k)) = if a + k < ws.length then .inl (a + k) else .inr (h, a + k - a, cs, rs) := by
    intro k hk hx
    by_cases z : a + k < ws.length
    · rw [if_pos z]
      obtain ⟨w, t, e⟩ : ∃ w t, ws.drop (a + k) = w :: t := ⟨_, _, List.drop_eq_getElem_cons z⟩
      rw [e] at hx ⊢
      refine run_stop (fun q => ?_) (fun q => ?_) (fun q => ?_) (fun q => ?_) (fun q => hx q.2 (by rw [q.1]; rfl))
      · rw [q.2, List.drop_zero] at e
        rw [e, q.1] at h0; exact h0 rfl
      · obtain ⟨q1, q2, q3, q4⟩ := q
        rw [q3, q4] at ha
        have : a + k = h := by rw [q2, ← ha]; rfl
        rw [this] at e
        rw [e, q1] at s1; exact s1 rfl
      · subst q
        rw [Nat.add_zero] at e
        by_cases q4 : rs = []
        · rw [q4] at ha
          have : a = h + cs.length := by rw [← ha]; rfl
          rw [this] at e
          exact s2 w (by rw [e]; rfl)
        · exact s3.2 q4 w (by rw [e]; rfl)
      · have e' := e
        rw [q.2, Nat.add_zero] at e'
        rw [e', q.1] at s3; exact s3.1 rfl
    · rw [if_neg z, List.drop_eq_nil_of_le (by omega), Nat.add_sub_cancel_left]; rfl
  by_cases z : 0 < h
  · rw [if_pos z]
    have := key 0 (fun q => absurd rfl q) (fun q => by omega)
    rw [Nat.add_zero] at this
    exact this
  · rw [if_neg z]
    obtain rfl : h = 0 := by omega
    have := key (lead "x" (ws.drop a)) (fun _ => rfl) (fun _ => by rw [← List.drop_drop]; exact lead_stop "x" _)
    rw [run_x, Nat.zero_add, List.drop_drop]
    exact this
theorem lawRead_eq (ws : List Str) (h : ws ≠ []) : lawRead ws = readP ws := by
  unfold lawRead readP
  by_cases z : ws.head? = some ("-" : Str)
  · rw [if_pos z]
    obtain ⟨t, rfl⟩ : ∃ t, ws = ("-" : Str) :: t := by
      cases ws with
      | nil => cases z
      | cons w t => exact ⟨t, by rw [Option.some.inj (show some w = some ("-" : Str) from z)]⟩
    cases t with
    | nil => rfl
    | cons v t =>
      rw [if_neg (by simp), runL, if_pos ⟨rfl, rfl⟩, if_pos (by simp)]
  · rw [if_neg z, if_neg fun q => z (by rw [q]; rfl), run_parse ws z]
theorem split_join1 {parts : List Str} (hne : parts ≠ []) (hp : ∀ p ∈ parts, 32 ∉ TL.tl p) : Txt.split (Txt.join " " parts) " " = parts := TL.split_join tl_sp sp_ok hne hp
theorem free_o : 32 ∉ TL.tl ("o" : Str) := by decide
theorem free_x : 32 ∉ TL.tl ("x" : Str) := by decide
theorem free_s : 32 ∉ TL.tl ("*" : Str) := by decide
theorem free_y : 32 ∉ TL.tl ("y" : Str) := by decide
theorem free_t : ∀ k : Fin 119, 32 ∉ TL.tl (tx (2 + k.val : Int)) := by decide +kernel
theorem free_tx {n : Int} (h : 2 ≤ n ∧ n ≤ 120) : 32 ∉ TL.tl (tx n) := by
  have := free_t ⟨(n - 2).toNat, by omega⟩
  have e : (2 + ((n - 2).toNat : Nat) : Int) = n := by omega
  simp only [e] at this
  exact this
theorem split_rep (s : Str) (hs : s = "o" ∨ s = "x") (n : Nat) (h : 0 < n) : Txt.split (Txt.join " " (List.replicate n s)) " " = List.replicate n s := by
  refine split_join1 (fun e => by have := congrArg List.length e; rw [List.length_replicate] at this; simp at this; omega) fun p hp => ?_
  rw [List.eq_of_mem_replicate hp]
  rcases hs with rfl | rfl
  · exact free_o
  · exact free_x
theorem split_repy (s : Str) (hs : s = "o" ∨ s = "x") : Txt.split (Txt.join " " (List.replicate 601 s ++ [("y" : Str)])) " " = List.replicate 601 s ++ [("y" : Str)] := by
  refine split_join1 (by simp) fun p hp => ?_
  rcases List.mem_append.mp hp with hp | hp
  · rw [List.eq_of_mem_replicate hp]
    rcases hs with rfl | rfl
    · exact free_o
    · exact free_x
  · rw [List.mem_singleton.mp hp]; exact free_y
theorem runs_o : ∀ (n k i : Nat) (rest : List Str), runL k 0 [] [] i (List.replicate n ("o" : Str) ++ rest) = runL (k + n) 0 [] [] (i + n) rest
  | 0, k, i, rest => rfl
  | n + 1, k, i, rest => by
    rw [List.replicate_succ, List.cons_append, step_o, runs_o n, show k + 1 + n = k + (n + 1) by omega, show i + 1 + n = i + (n + 1) by omega]
theorem runs_x : ∀ (n k i : Nat) (cs : List Int) (rs : List (List Int)) (rest : List Str), runL 0 k cs rs i (List.replicate n ("x" : Str) ++ rest) = runL 0 (k + n) cs rs (i + n) rest
  | 0, k, i, cs, rs, rest => rfl
  | n + 1, k, i, cs, rs, rest => by
    rw [List.replicate_succ, List.cons_append, step_x, runs_x n, show k + 1 + n = k + (n + 1) by omega, show i + 1 + n = i + (n + 1) by omega]
theorem runs_c : ∀ (l : List Int), Ord l → ∀ (h i : Nat) (cs : List Int) (rest : List Str), runL h 0 cs [] i (l.map tx ++ rest) = runL h 0 (cs ++ l) [] (i + l.length) rest
  | [], _, h, i, cs, rest => by rw [List.append_nil]; rfl
  | n :: l, hl, h, i, cs, rest => by
    rw [List.map_cons, List.cons_append, step_c _ _ _ (ordIn_tx (hl n List.mem_cons_self)), runs_c l (fun x hx => hl x (List.mem_cons_of_mem _ hx)), List.append_assoc, List.length_cons, show i + 1 + l.length = i + (l.length + 1) by omega]; rfl
theorem runs_r : ∀ (l : List Int), Ord l → ∀ (h i : Nat) (cs : List Int) (rs : List (List Int)) (r : List Int) (rest : List Str), runL h 0 cs (rs ++ [r]) i (l.map tx ++ rest) = runL h 0 cs (rs ++ [r ++ l]) (i + l.length) rest
  | [], _, h, i, cs, rs, r, rest => by rw [List.append_nil]; rfl
  | n :: l, hl, h, i, cs, rs, r, rest => by
    rw [List.map_cons, List.cons_append, step_r _ _ _ (by simp) (ordIn_tx (hl n List.mem_cons_self)), addLast_snoc, runs_r l (fun x hx => hl x (List.mem_cons_of_mem _ hx)), List.append_assoc, List.length_cons, show i + 1 + l.length = i + (l.length + 1) by omega]; rfl
theorem runs_s : ∀ (q : List (List Int)), (∀ r ∈ q, Ord r) → ∀ (h i : Nat) (cs : List Int) (rs : List (List Int)) (rest : List Str), ∃ j, runL h 0 cs rs i (q.flatMap ringW ++ rest) = runL h 0 cs (rs ++ q) j rest ∧ i + (q.flatMap ringW).length = j
  | [], _, h, i, cs, rs, rest => ⟨i, by rw [List.append_nil]; rfl, rfl⟩
  | r :: q, hq, h, i, cs, rs, rest => by
    obtain ⟨j, e, ej⟩ := runs_s q (fun x hx => hq x (List.mem_cons_of_mem _ hx)) h (i + 1 + r.length) cs (rs ++ [r]) rest
    refine ⟨j, ?_, ?_⟩
    · rw [List.flatMap_cons, List.append_assoc]
      show runL h 0 cs rs i ("*" :: (r.map tx ++ (q.flatMap ringW ++ rest))) = _
      rw [step_s, runs_r r (hq r List.mem_cons_self), List.nil_append, e, List.append_assoc]; rfl
    · rw [List.flatMap_cons, List.length_append, ← ej]
      show i + ((r.map tx).length + 1 + _) = _
      rw [List.length_map]; omega
theorem run_signW (h c : Nat) (cs : List Int) (rs : List (List Int)) (hc : h = 0 ∨ c = 0) (oc : Ord cs) (or : ∀ r ∈ rs, Ord r) : runL 0 0 [] [] 0 (signW h c cs rs) = .inr (h, c, cs, rs) := by
  unfold signW
  obtain ⟨j, e, _⟩ := runs_s rs or h (0 + h + cs.length) cs [] (List.replicate c ("x" : Str))
  rw [List.append_assoc, List.append_assoc, runs_o, runs_c cs oc, Nat.zero_add, List.nil_append]
  rw [Nat.zero_add] at e
  rw [e, List.nil_append]
  rcases hc with rfl | rfl
  · have := runs_x c 0 j cs rs []
    rw [List.append_nil, Nat.zero_add] at this
    rw [this]; rfl
  · rfl
theorem signW_fine {h c : Nat} {cs : List Int} {rs : List (List Int)} (oc : Ord cs) (or : ∀ r ∈ rs, Ord r) : ∀ x ∈ signW h c cs rs, x ≠ ("-" : Str) ∧ 32 ∉ TL.tl x := by
  intro x hx
  unfold signW at hx
  simp only [List.mem_append, List.mem_map, List.mem_flatMap] at hx
  rcases hx with ((hx | ⟨n, hn, rfl⟩) | ⟨r, hr, hx⟩) | hx
  · rw [List.eq_of_mem_replicate hx]; exact ⟨ne_om, free_o⟩
  · exact ⟨ord_ne (ordIn_tx (oc n hn)) ord_m, free_tx (oc n hn)⟩
  · unfold ringW at hx
    rcases List.mem_cons.mp hx with rfl | hx
    · exact ⟨ne_sm, free_s⟩
    · obtain ⟨n, hn, rfl⟩ := List.mem_map.mp hx
      exact ⟨ord_ne (ordIn_tx (or r hr n hn)) ord_m, free_tx (or r hr n hn)⟩
  · rw [List.eq_of_mem_replicate hx]; exact ⟨ne_xm, free_x⟩
theorem readP_ne {ws : List Str} (h : ws.head? ≠ some ("-" : Str)) : readP ws = runL 0 0 [] [] 0 ws := by
  unfold readP
  rw [if_neg h, run_parse ws h]
theorem read_signW {h c : Nat} {cs : List Int} {rs : List (List Int)} (hc : h = 0 ∨ c = 0) (oc : Ord cs) (or : ∀ r ∈ rs, Ord r) : readP (signW h c cs rs) = .inr (h, c, cs, rs) := by
  rw [readP_ne, run_signW h c cs rs hc oc or]
  intro z
  obtain ⟨t, e⟩ := List.head?_eq_some_iff.mp z
  exact (signW_fine oc or ("-" : Str) (by rw [e]; simp)).1 rfl
theorem read_os (n : Nat) (_ : 0 < n) : readP (List.replicate n ("o" : Str)) = .inr (n, 0, [], []) := by
  have := read_signW (h := n) (c := 0) (cs := []) (rs := []) (.inr rfl) (fun x hx => absurd hx (by simp)) (fun x hx => absurd hx (by simp))
  have e : signW n 0 [] [] = List.replicate n ("o" : Str) := by simp [signW]
  rw [e] at this; exact this
theorem read_xs (n : Nat) (_ : 0 < n) : readP (List.replicate n ("x" : Str)) = .inr (0, n, [], []) := by
  have := read_signW (h := 0) (c := n) (cs := []) (rs := []) (.inl rfl) (fun x hx => absurd hx (by simp)) (fun x hx => absurd hx (by simp))
  have e : signW 0 n [] [] = List.replicate n ("x" : Str) := by simp [signW]
  rw [e] at this; exact this
theorem ord_y : ordIn "y" = none := by decide +kernel
theorem ne_yo : ("y" : Str) ≠ "o" := by decide
theorem ne_ys : ("y" : Str) ≠ "*" := by decide
theorem ne_yx : ("y" : Str) ≠ "x" := by decide
theorem ne_ym : ("y" : Str) ≠ "-" := by decide
theorem head_rep {s : Str} (hs : s ≠ ("-" : Str)) : (List.replicate 601 s ++ [("y" : Str)]).head? ≠ some ("-" : Str) := by
  rw [show (601 : Nat) = 600 + 1 from rfl, List.replicate_succ, List.cons_append]
  exact fun z => hs (Option.some.inj z)
theorem read_oy : readP (List.replicate 601 ("o" : Str) ++ [("y" : Str)]) = .inl 601 := by
  rw [readP_ne (head_rep ne_om), runs_o]
  exact run_stop (fun z => ne_ym z.1) (fun z => ne_yo z.1) (fun _ => ord_y) (fun z => ne_ys z.1) (fun z => ne_yx z.1)
theorem read_xy : readP (List.replicate 601 ("x" : Str) ++ [("y" : Str)]) = .inl 601 := by
  rw [readP_ne (head_rep ne_xm), runs_x]
  exact run_stop (fun z => ne_ym z.1) (fun z => ne_yo z.1) (fun _ => ord_y) (fun z => ne_ys z.1) (fun z => ne_yx z.1)
/-! orders -/
theorem sort_perm {α : Type} {le : α → α → Bool} (tr : ∀ a b c, le a b = true → le b c = true → le a c = true) (tot : ∀ a b, (le a b || le b a) = true) (anti : ∀ a b, le a b = true → le b a = true → a = b) {l m : List α} (h : l.Perm m) : l.mergeSort le = m.mergeSort le :=
  List.Perm.eq_of_pairwise (le := fun a b => le a b = true) (fun a b _ _ => anti a b) (List.pairwise_mergeSort tr tot l) (List.pairwise_mergeSort tr tot m) ((List.mergeSort_perm l le).trans (h.trans (List.mergeSort_perm m le).symm))
theorem sortI_perm {l m : List Int} (h : l.Perm m) : sortI l = sortI m :=
  sort_perm (le := leI) (fun a b c h g => by unfold leI at *; simp only [decide_eq_true_eq] at *; omega) (fun a b => by unfold leI; simp only [Bool.or_eq_true, decide_eq_true_eq]; omega) (fun a b h g => by unfold leI at *; simp only [decide_eq_true_eq] at *; omega) h
theorem sortR_perm {l m : List (List Int)} (h : l.Perm m) : sortR l = sortR m :=
  sort_perm (le := fun x y : List Int => decide (x ≤ y)) (fun a b c h g => by simp only [decide_eq_true_eq] at *; exact List.le_trans h g) (fun a b => by simp only [Bool.or_eq_true, decide_eq_true_eq]; exact List.le_total a b) (fun a b h g => by simp only [decide_eq_true_eq] at *; exact List.le_antisymm h g) h
theorem leS_iff (x y : Str) : leS x y = true ↔ x.cps.toList ≤ y.cps.toList := by
  unfold leS
  rw [Bool.not_eq_true', decide_eq_false_iff_not]
  exact List.not_lt
theorem sortS_perm {l m : List Str} (h : l.Perm m) : l.mergeSort leS = m.mergeSort leS :=
  sort_perm (fun a b c h g => by rw [leS_iff] at *; exact List.le_trans h g) (fun a b => by rw [Bool.or_eq_true, leS_iff, leS_iff]; exact List.le_total _ _) (fun a b h g => by rw [leS_iff] at *; exact TL.ext_tl (List.le_antisymm h g)) h
theorem sortI_p (l : List Int) : (sortI l).Perm l := List.mergeSort_perm l _
theorem sortR_p (l : List (List Int)) : (sortR l).Perm l := List.mergeSort_perm l _
/-! rings -/
def IsRot (l y : List Int) : Prop := ∃ a b, l = a ++ b ∧ y = b ++ a
theorem IsRot.refl (l : List Int) : IsRot l l := ⟨[], l, rfl, (List.append_nil l).symm⟩
theorem IsRot.trans {l y z : List Int} (h : IsRot l y) (g : IsRot y z) : IsRot l z := by
  obtain ⟨a, b, rfl, rfl⟩ := h
  obtain ⟨c, d, e, rfl⟩ := g
  rcases List.append_eq_append_iff.mp e with ⟨u, rfl, rfl⟩ | ⟨u, rfl, rfl⟩
  · exact ⟨u, d ++ b, by rw [List.append_assoc], by rw [List.append_assoc]⟩
  · exact ⟨a ++ c, u, by rw [List.append_assoc], by rw [List.append_assoc]⟩
theorem IsRot.rev {l y : List Int} (h : IsRot l y) : IsRot l.reverse y.reverse := by
  obtain ⟨a, b, rfl, rfl⟩ := h
  exact ⟨b.reverse, a.reverse, List.reverse_append, List.reverse_append⟩
theorem IsRot.perm {l y : List Int} (h : IsRot l y) : y.Perm l := by
  obtain ⟨a, b, rfl, rfl⟩ := h
  exact List.perm_append_comm
theorem rots_iff {n : Nat} {l y : List Int} (hn : n = max 1 l.length) : y ∈ rotsN n l ↔ IsRot l y := by
  unfold rotsN
  rw [List.mem_map]
  constructor
  · rintro ⟨i, _, rfl⟩
    exact ⟨l.take i, l.drop i, (List.take_append_drop i l).symm, rfl⟩
  · rintro ⟨a, b, rfl, rfl⟩
    by_cases z : b = []
    · subst z
      exact ⟨0, List.mem_range.mpr (by omega), by simp⟩
    · refine ⟨a.length, List.mem_range.mpr ?_, by simp⟩
      have : 0 < b.length := List.length_pos_iff.mpr z
      rw [List.length_append] at hn
      omega
theorem imgs_iff {l y : List Int} : y ∈ imgs l ↔ IsRot l y ∨ IsRot l.reverse y := by
  unfold imgs
  rw [List.mem_append, rots_iff rfl, rots_iff (by rw [List.length_reverse])]
theorem imgs_sub {l r y : List Int} (hr : r ∈ imgs l) (hy : y ∈ imgs r) : y ∈ imgs l := by
  rw [imgs_iff] at *
  rcases hr with hr | hr <;> rcases hy with hy | hy
  · exact .inl (hr.trans hy)
  · exact .inr (hr.rev.trans hy)
  · exact .inr (hr.trans hy)
  · have := hr.rev; rw [List.reverse_reverse] at this; exact .inl (this.trans hy)
theorem imgs_self (l : List Int) : l ∈ imgs l := imgs_iff.mpr (.inl (.refl l))
theorem leastI_mem : ∀ (xs : List (List Int)) (x : List Int), leastI x xs ∈ x :: xs
  | [], x => List.mem_cons_self
  | y :: xs, x => by
    show leastI (if y < x then y else x) xs ∈ _
    have := leastI_mem xs (if y < x then y else x)
    rcases List.mem_cons.mp this with e | h
    · rw [e]
      by_cases z : y < x
      · rw [if_pos z]; simp
      · rw [if_neg z]; simp
    · exact List.mem_cons_of_mem _ (List.mem_cons_of_mem _ h)
theorem leastI_le : ∀ (xs : List (List Int)) (x : List Int), ∀ y ∈ x :: xs, leastI x xs ≤ y
  | [], x, y, h => by rw [List.mem_singleton.mp h]; exact List.le_refl x
  | z :: xs, x, y, h => by
    show leastI (if z < x then z else x) xs ≤ y
    have ih := leastI_le xs (if z < x then z else x)
    have h0 := ih _ List.mem_cons_self
    rcases List.mem_cons.mp h with rfl | h
    · refine List.le_trans h0 ?_
      by_cases q : z < y
      · rw [if_pos q]; exact (List.le_total z y).elim id fun w => absurd q (List.not_lt.mpr w)
      · rw [if_neg q]; exact List.le_refl y
    · rcases List.mem_cons.mp h with rfl | h
      · refine List.le_trans h0 ?_
        by_cases q : y < x
        · rw [if_pos q]; exact List.le_refl y
        · rw [if_neg q]; exact List.not_lt.mp q
      · exact ih y (List.mem_cons_of_mem _ h)
theorem imgs_cons (l : List Int) : ∃ x xs, imgs l = x :: xs := by
  cases h : imgs l with
  | nil => have := imgs_self l; rw [h] at this; exact absurd this (by simp)
  | cons x xs => exact ⟨x, xs, rfl⟩
theorem least_mem (l : List Int) : leastRing l ∈ imgs l := by
  unfold leastRing
  obtain ⟨x, xs, e⟩ := imgs_cons l
  rw [e]; exact leastI_mem xs x
theorem least_le (l : List Int) {y : List Int} (h : y ∈ imgs l) : leastRing l ≤ y := by
  unfold leastRing
  obtain ⟨x, xs, e⟩ := imgs_cons l
  rw [e] at h ⊢
  exact leastI_le xs x y h
theorem least_idem (l : List Int) : leastRing (leastRing l) = leastRing l :=
  List.le_antisymm (least_le _ (imgs_self _)) (least_le _ (imgs_sub (least_mem l) (least_mem _)))
theorem least_perm (l : List Int) : (leastRing l).Perm l := by
  rcases imgs_iff.mp (least_mem l) with h | h
  · exact h.perm
  · exact h.perm.trans (List.reverse_perm l)
/-- what is read is what is written -/
theorem run_inv : ∀ (ws : List Str) (h c i : Nat) (cs : List Int) (rs : List (List Int)) (r : Nat × Nat × List Int × List (List Int)), runL h c cs rs i ws = .inr r → (h = 0 ∨ c = 0) → Ord cs → (∀ q ∈ rs, Ord q) →
    signW h c cs rs ++ ws = signW r.1 r.2.1 r.2.2.1 r.2.2.2 ∧ (r.1 = 0 ∨ r.2.1 = 0) ∧ Ord r.2.2.1 ∧ ∀ q ∈ r.2.2.2, Ord q
  | [], h, c, i, cs, rs, r, e, hc, oc, or => by
    obtain rfl := Sum.inr.inj (show Sum.inr (h, c, cs, rs) = Sum.inr r from e)
    exact ⟨List.append_nil _, hc, oc, or⟩
  | w :: ws, h, c, i, cs, rs, r, e, hc, oc, or => by
    rw [runL] at e
    by_cases z1 : w = ("-" : Str) ∧ i = 0
    · rw [if_pos z1] at e; cases e
    rw [if_neg z1] at e
    by_cases z2 : w = ("o" : Str) ∧ c = 0 ∧ cs = [] ∧ rs = []
    · rw [if_pos z2] at e
      obtain ⟨rfl, rfl, rfl, rfl⟩ := z2
      have := run_inv ws _ _ _ _ _ _ e (.inr rfl) oc or
      refine ⟨?_, this.2⟩
      rw [← this.1]
      simp [signW, List.replicate_succ']
    rw [if_neg z2] at e
    cases z3 : ordIn w with
    | some n =>
      rw [z3] at e
      obtain ⟨rfl, hn⟩ := ordIn_some z3
      have e' : (if c = 0 then (if rs = [] then runL h c (cs ++ [n]) rs (i + 1) ws else runL h c cs (addLast n rs) (i + 1) ws) else .inl i) = Sum.inr r := e
      by_cases z4 : c = 0
      · rw [if_pos z4] at e'
        subst z4
        by_cases z5 : rs = []
        · rw [if_pos z5] at e'
          subst z5
          have := run_inv ws _ _ _ _ _ _ e' (.inr rfl) (fun x hx => (List.mem_append.mp hx).elim (oc x) fun hx => by rw [List.mem_singleton.mp hx]; exact hn) or
          refine ⟨?_, this.2⟩
          rw [← this.1]
          simp [signW]
        · rw [if_neg z5] at e'
          obtain ⟨rs', q, rfl⟩ : ∃ rs' q, rs = rs' ++ [q] := ⟨rs.dropLast, rs.getLast z5, (List.dropLast_concat_getLast z5).symm⟩
          rw [addLast_snoc] at e'
          have := run_inv ws _ _ _ _ _ _ e' (.inr rfl) oc (fun x hx => by
            rcases List.mem_append.mp hx with hx | hx
            · exact or x (List.mem_append_left _ hx)
            · rw [List.mem_singleton.mp hx]
              exact fun y hy => (List.mem_append.mp hy).elim (or q (by simp) y) fun hy => by rw [List.mem_singleton.mp hy]; exact hn)
          refine ⟨?_, this.2⟩
          rw [← this.1]
          simp [signW, ringW]
      · rw [if_neg z4] at e'; cases e'
    | none =>
      rw [z3] at e
      have e' : (if w = ("*" : Str) ∧ c = 0 then runL h c cs (rs ++ [[]]) (i + 1) ws else if w = ("x" : Str) ∧ h = 0 then runL h (c + 1) cs rs (i + 1) ws else .inl i) = Sum.inr r := e
      by_cases z4 : w = ("*" : Str) ∧ c = 0
      · rw [if_pos z4] at e'
        obtain ⟨rfl, rfl⟩ := z4
        have := run_inv ws _ _ _ _ _ _ e' (.inr rfl) oc (fun x hx => by
          rcases List.mem_append.mp hx with hx | hx
          · exact or x hx
          · rw [List.mem_singleton.mp hx]; exact fun y hy => absurd hy (by simp))
        refine ⟨?_, this.2⟩
        rw [← this.1]
        simp [signW, ringW]
      · rw [if_neg z4] at e'
        by_cases z5 : w = ("x" : Str) ∧ h = 0
        · rw [if_pos z5] at e'
          obtain ⟨rfl, rfl⟩ := z5
          have := run_inv ws _ _ _ _ _ _ e' (.inl rfl) oc or
          refine ⟨?_, this.2⟩
          rw [← this.1]
          simp [signW, List.replicate_succ']
        · rw [if_neg z5] at e'; cases e'
/-- what is read rightly -/
structure Good (ws : List Str) (h c : Nat) (cs : List Int) (rs : List (List Int)) : Prop where
  hc : h = 0 ∨ c = 0
  ocs0 : Ord cs
  ors0 : ∀ r ∈ rs, Ord r
  len : h + cs.length + (rs.flatMap ringW).length + c ≤ ws.length
  wd : ∀ y ∈ ws, PyData.canLay0 (.str y) = true
  again : readP (Txt.split (signT h c (sortI cs) (sortR (rs.map leastRing))) " ") = .inr (h, c, sortI cs, sortR (rs.map leastRing))
  srt : (Txt.split (signT h c (sortI cs) (sortR (rs.map leastRing))) " ").mergeSort leS = ws.mergeSort leS
  wd2 : ∀ y ∈ Txt.split (signT h c (sortI cs) (sortR (rs.map leastRing))) " ", PyData.canLay0 (.str y) = true ∧ y.length ≤ 3
  len2 : (Txt.split (signT h c (sortI cs) (sortR (rs.map leastRing))) " ").length ≤ ws.length
  len3 : (signW h c (sortI cs) (sortR (rs.map leastRing))).length ≤ ws.length
  slen : (signT h c (sortI cs) (sortR (rs.map leastRing))).length ≤ 4 * ws.length
  s2 : sortI (sortI cs) = sortI cs
  r2 : sortR ((sortR (rs.map leastRing)).map leastRing) = sortR (rs.map leastRing)
  ocs : Ord (sortI cs)
  ors : ∀ r ∈ sortR (rs.map leastRing), Ord r
theorem read_inv {ws : List Str} {h c : Nat} {cs : List Int} {rs : List (List Int)} (e : readP ws = .inr (h, c, cs, rs)) : (ws = [("-" : Str)] ∧ h = 0 ∧ c = 0 ∧ cs = [] ∧ rs = []) ∨ (ws = signW h c cs rs ∧ (h = 0 ∨ c = 0) ∧ Ord cs ∧ ∀ r ∈ rs, Ord r) := by
  by_cases z : ws.head? = some ("-" : Str)
  · unfold readP at e
    rw [if_pos z] at e
    obtain ⟨t, rfl⟩ := List.head?_eq_some_iff.mp z
    cases t with
    | nil =>
      rw [if_neg (by decide)] at e
      obtain ⟨rfl, rfl, rfl, rfl⟩ : 0 = h ∧ 0 = c ∧ [] = cs ∧ [] = rs := by
        have := Sum.inr.inj e
        simpa [Prod.ext_iff] using this
      exact .inl ⟨rfl, rfl, rfl, rfl, rfl⟩
    | cons v t =>
      rw [if_pos (by simp)] at e; cases e
  · rw [readP_ne z] at e
    have := run_inv ws 0 0 0 [] [] _ e (.inl rfl) (fun x hx => absurd hx (by simp)) (fun x hx => absurd hx (by simp))
    refine .inr ⟨?_, this.2⟩
    have e0 : signW 0 0 [] [] = [] := by simp [signW]
    have h1 := this.1
    rw [e0, List.nil_append] at h1
    exact h1
theorem flat_perm {l m : List (List Int)} (h : l.Perm m) : (l.flatMap ringW).Perm (m.flatMap ringW) := List.Perm.flatMap_right _ h
theorem flat_least : ∀ rs : List (List Int), ((rs.map leastRing).flatMap ringW).Perm (rs.flatMap ringW)
  | [] => .refl _
  | r :: rs => by
    rw [List.map_cons, List.flatMap_cons, List.flatMap_cons]
    exact List.Perm.append (((least_perm r).map tx).cons _) (flat_least rs)
theorem sign_perm (h c : Nat) (cs : List Int) (rs : List (List Int)) : (signW h c (sortI cs) (sortR (rs.map leastRing))).Perm (signW h c cs rs) := by
  unfold signW
  exact (((List.Perm.refl _).append ((sortI_p cs).map tx)).append ((flat_perm (sortR_p _)).trans (flat_least rs))).append (List.Perm.refl _)
theorem ord_sortI {cs : List Int} (h : Ord cs) : Ord (sortI cs) := fun x hx => h x ((sortI_p cs).mem_iff.mp hx)
theorem ord_sortR {rs : List (List Int)} (h : ∀ r ∈ rs, Ord r) : ∀ r ∈ sortR (rs.map leastRing), Ord r := fun r hr => by
  obtain ⟨q, hq, rfl⟩ := List.mem_map.mp ((sortR_p _).mem_iff.mp hr)
  exact fun x hx => h q hq x ((least_perm q).mem_iff.mp hx)
theorem sortI_idem (cs : List Int) : sortI (sortI cs) = sortI cs := sortI_perm (sortI_p cs)
theorem sortR_idem (rs : List (List Int)) : sortR ((sortR (rs.map leastRing)).map leastRing) = sortR (rs.map leastRing) := by
  have e : (sortR (rs.map leastRing)).map leastRing = sortR (rs.map leastRing) := by
    rw [List.map_congr_left (g := id) fun r hr => ?_, List.map_id]
    obtain ⟨q, _, rfl⟩ := List.mem_map.mp ((sortR_p _).mem_iff.mp hr)
    exact least_idem q
  rw [e]
  exact sortR_perm (sortR_p _)
theorem sign_split {h c : Nat} {cs : List Int} {rs : List (List Int)} (oc : Ord cs) (or : ∀ r ∈ rs, Ord r) : Txt.split (signT h c cs rs) " " = if signW h c cs rs = [] then [("-" : Str)] else signW h c cs rs := by
  unfold signT
  by_cases z : signW h c cs rs = []
  · rw [if_pos z, if_pos z]; decide +kernel
  · rw [if_neg z, if_neg z, split_join1 z fun p hp => (signW_fine oc or p hp).2]
theorem sign_len (h c : Nat) (cs : List Int) (rs : List (List Int)) : (signW h c cs rs).length = h + cs.length + (rs.flatMap ringW).length + c := by
  unfold signW
  simp only [List.length_append, List.length_replicate, List.length_map]
theorem wd_m : Wd "-" := by decide +kernel
theorem good_of {ws : List Str} {h c : Nat} {cs : List Int} {rs : List (List Int)} (e : readP ws = .inr (h, c, cs, rs)) (hl : ws ≠ []) : Good ws h c cs rs := by
  rcases read_inv e with ⟨rfl, rfl, rfl, rfl, rfl⟩ | ⟨ew, hc, oc, or⟩
  · have e1 : sortI [] = [] := by simp [sortI]
    have e2 : sortR (([] : List (List Int)).map leastRing) = [] := by simp [sortR]
    have e3 : signW 0 0 [] [] = [] := by simp [signW]
    have e4 : signT 0 0 [] [] = ("-" : Str) := by unfold signT; rw [if_pos e3]
    have e5 : Txt.split ("-" : Str) " " = [("-" : Str)] := by decide +kernel
    constructor
    · exact .inl rfl
    · exact fun x hx => absurd hx (by simp)
    · exact fun x hx => absurd hx (by simp)
    · simp
    · intro y hy; rw [List.mem_singleton.mp hy]; exact wd_m.2
    · rw [e1, e2, e4, e5]; exact e
    · rw [e1, e2, e4, e5]
    · rw [e1, e2, e4, e5]; intro y hy; rw [List.mem_singleton.mp hy]; exact ⟨wd_m.2, wd_m.1⟩
    · rw [e1, e2, e4, e5]; exact Nat.le_refl _
    · rw [e1, e2, e3]; simp
    · rw [e1, e2, e4]; decide
    · exact sortI_idem _
    · exact sortR_idem _
    · rw [e1]; exact fun x hx => absurd hx (by simp)
    · rw [e2]; exact fun x hx => absurd hx (by simp)
  · have oc2 := ord_sortI oc
    have or2 := ord_sortR or
    have pm := sign_perm h c cs rs
    have sp := sign_split (h := h) (c := c) oc2 or2
    have ne2 : signW h c (sortI cs) (sortR (rs.map leastRing)) ≠ [] := fun z => by
      have := pm.length_eq
      rw [z, ← ew] at this
      exact hl (List.eq_nil_of_length_eq_zero this.symm)
    rw [if_neg ne2] at sp
    have le2 : (signW h c (sortI cs) (sortR (rs.map leastRing))).length = ws.length := by rw [pm.length_eq, ← ew]
    constructor
    · exact hc
    · exact oc
    · exact or
    · rw [ew, sign_len]; exact Nat.le_refl _
    · intro y hy; rw [ew] at hy; exact (signW_ok h c cs rs oc or y hy).2
    · rw [sp]; exact read_signW hc oc2 or2
    · rw [sp, ew]; exact sortS_perm pm
    · rw [sp]; exact fun y hy => ⟨(signW_ok h c _ _ oc2 or2 y hy).2, (signW_ok h c _ _ oc2 or2 y hy).1⟩
    · rw [sp, le2]; exact Nat.le_refl _
    · rw [le2]; exact Nat.le_refl _
    · have h1 : signT h c (sortI cs) (sortR (rs.map leastRing)) = Txt.join " " (signW h c (sortI cs) (sortR (rs.map leastRing))) := by unfold signT; rw [if_neg ne2]
      have h2 := join_len (signW h c (sortI cs) (sortR (rs.map leastRing)))
      have h3 := sum_le (b := 3) fun y hy => (signW_ok h c _ _ oc2 or2 y hy).1
      rw [h1, ← le2]
      omega
    · exact sortI_idem _
    · exact sortR_idem _
    · exact oc2
    · exact or2
theorem read_a : readP (Txt.split "- 2" " ") = .inl 1 := by decide +kernel
theorem read_b : readP (Txt.split "o x" " ") = .inl 1 := by decide +kernel
theorem read_c : readP (Txt.split "2 02" " ") = .inl 1 := by decide +kernel
end K34

set_option Elab.async false
set_option linter.all false
set_option maxRecDepth 100000
set_option maxHeartbeats 4000000
set_option pp.maxSteps 1200
namespace K34
open PySem PySem.Spec PyProof.Rows L2 Rd PySem.W LamX
section
variable {P : Program} {w : World} {K : PySem.W.Frag} {mg : Str → Option Value} {base : Heap}
abbrev LT (PT : Addr) : List (Addr × Str) := [(PT, ("law" : Str) ++ ".<locals>." ++ "<lambda>")]
--BEGINW1
def someW : List Str := ["o", "x", "*", "-", "2", "3", "120", "121", "1", "0", "02", "", " ", "+2", "-2", "2.", "x2", "O", "X", "**", "oo", "7", "19", "1200", "\t2", "2\n", "a"]
def WOK (ws : List Str) : Prop := ∀ y ∈ ws, y.length ≤ 4 ∧ PyData.canLay0 (.str y) = true
theorem someW_ok : ∀ y ∈ someW, y.length ≤ 4 ∧ PyData.canLay0 (.str y) = true := by decide +kernel
theorem wok_one {y : Str} (h : Wd y) : WOK [y] := fun z hz => by rw [List.mem_singleton.mp hz]; exact ⟨by have := h.1; omega, h.2⟩
theorem wok_app {a b : List Str} (ha : WOK a) (hb : WOK b) : WOK (a ++ b) := fun y hy => (List.mem_append.mp hy).elim (ha y) (hb y)
theorem wok_rep {y : Str} (h : Wd y) (n : Nat) : WOK (List.replicate n y) := fun z hz => by rw [List.eq_of_mem_replicate hz]; exact ⟨by have := h.1; omega, h.2⟩
theorem cutV_map {α : Type} (f : α → V) (l : List α) (lo hi : Option Int) : ∃ m : List α, cutV (l.map f) lo hi = m.map f ∧ (∀ y ∈ m, y ∈ l) ∧ m.length ≤ l.length := by
  refine ⟨(l.drop (HT.sIx (l.map f).length 0 lo)).take (HT.sIx (l.map f).length (l.map f).length hi - HT.sIx (l.map f).length 0 lo), ?_, fun y hy => List.mem_of_mem_drop (List.mem_of_mem_take hy), ?_⟩
  · unfold cutV; rw [List.map_take, List.map_drop]
  · rw [List.length_take, List.length_drop]; omega
/-- what stays while the law goes on -/
structure LW (PT p c sl : Addr) (H : Hp) (at_ : Int) : Prop where
  pen : PenAt H p c at_
  slH : H sl = some (.lst (someW.map V.str))
  tabs : Tabs (LT PT) H
  ne : p ≠ sl
theorem tabs_kp1 {T : List (Addr × Str)} {H H' : Hp} {p : Addr} {xs : List V} (t : Tabs T H) (k : Kp [p] H H') (hp : H p = some (.lst xs)) : Tabs T H' := fun q hq => by
  obtain ⟨ps, h1, h2, h3⟩ := t q hq
  have n1 : q.1 ∉ [p] := fun z => by rw [List.mem_singleton.mp z, hp] at h1; cases h1
  refine ⟨ps, k _ _ n1 h1, h2, fun pos cv hcv => ?_⟩
  obtain ⟨c, e1, e2⟩ := h3 pos cv hcv
  have n2 : c ∉ [p] := fun z => by rw [List.mem_singleton.mp z, hp] at e2; unfold CodeO at e2; cases e2
  exact ⟨c, e1, k _ _ n2 e2⟩
theorem pen_keep {H H' : Hp} {p c : Addr} {at_ : Int} (k : Kp [] H H') (h : PenAt H p c at_) : PenAt H' p c at_ := by
  obtain ⟨cells, rest, h1, h2, h3⟩ := h
  exact ⟨cells, rest, k.get h1, k.get h2, h3⟩
theorem LW.keep {PT p c sl : Addr} {H H' : Hp} {at_ : Int} (l : LW PT p c sl H at_) (k : Kp [] H H') : LW PT p c sl H' at_ := ⟨pen_keep k l.pen, k.get l.slH, tabs_kp l.tabs k, l.ne⟩
theorem LW.move {PT p c sl : Addr} {H H' : Hp} {at_ at2 : Int} (l : LW PT p c sl H at_) (k : Kp [p] H H') (h : PenAt H' p c at2) : LW PT p c sl H' at2 := by
  obtain ⟨cells, rest, h1, _⟩ := l.pen
  exact ⟨h, k _ _ (fun z => l.ne (List.mem_singleton.mp z).symm) l.slH, tabs_kp1 l.tabs k h1, l.ne⟩
/-- a new list D is filled: the pen stays -/
theorem pen_put {H0 H : Hp} {p c D : Addr} {at0 at_ : Int} {o : HO} (h0 : PenAt H0 p c at0) (nD : H0 D = none) (h : PenAt H p c at_) : PenAt (upd H D o) p c at_ := by
  obtain ⟨_, _, a1, a2, _⟩ := h0
  obtain ⟨cells, rest, h1, h2, h3⟩ := h
  exact ⟨cells, rest, (upd_ne (ne_of_none a1 nD)).trans h1, (upd_ne (ne_of_none a2 nD)).trans h2, h3⟩
theorem pen_ne {H : Hp} {p c D : Addr} {at_ : Int} (h : PenAt H p c at_) (nD : H D = none) : D ∉ [p] := fun z => by
  obtain ⟨_, _, a1, _⟩ := h
  rw [List.mem_singleton.mp z, a1] at nD; cases nD
/-- the words stand at b -/
def WordsAt (H : Hp) (b : Addr) (ws : List Str) : Prop := H b = some (.lst (ws.map V.str)) ∧ WOK ws
theorem r_draw {PT p c sl : Addr} {H : Hp} {Q : VK} {E : XK} {m at0 : Int} (lw : LW PT p c sl H at0) (hb : at0 ≤ 1000000) (m0 : 0 < m) (m1 : m < 1000000) (q : ∀ v at' H', 0 ≤ v → v < m → at' ≤ at0 + 1 → LW PT p c sl H' at' → Kp [p] H H' → Q (.int v) H') : spDraw ([.ref p, .int m] ++ []) H Q E :=
  ⟨p, c, m, at0, rfl, lw.pen, hb, m0, m1, fun v a' H' h0 h1 h2 h3 h4 => q v a' H' h0 h1 h2 (lw.move h4 h3) h4⟩
theorem r_pick {PT p c sl l : Addr} {H : Hp} {Q : VK} {E : XK} {at0 : Int} {xs : List V} {K : PySem.W.Frag} (lw : LW PT p c sl H at0) (hb : at0 ≤ 1000000) (hl : H l = some (.lst xs)) (hp : p ≠ l) (hx : xs ≠ []) (hx2 : xs.length < 1000) (q : ∀ v at' H', v ∈ xs → at' ≤ at0 + 1 → LW PT p c sl H' at' → Kp [p] H H' → Q v H') : spPick K ([.ref p, .ref l] ++ []) H Q E :=
  ⟨p, c, l, xs, at0, rfl, lw.pen, hb, hl, hp, hx, hx2, fun v a' H' h0 h2 h3 h4 => q v a' H' h0 h2 (lw.move h4 h3) h4⟩
theorem tx_any : ∀ k : Fin 119, Wd (Str.ofString (toString (2 + k.val : Int))) := tx_wd'
theorem tx_any' {v : Int} (h0 : 0 ≤ v) (h1 : v < 119) : Wd (Str.ofString (toString (2 + v))) := by
  have := tx_any ⟨v.toNat, by omega⟩
  have e : (2 + (v.toNat : Nat) : Int) = 2 + v := by omega
  simp only [e] at this
  exact this
theorem r_strs {PT p c sl : Addr} {σ : S0} {H : Hp} {Q : VK} {at0 m m2 : Int} (hσ : σ[1]? = some (some (.ref p))) (lw : LW PT p c sl H at0) (hb : at0 ≤ 900000) (m0 : 0 < m) (m1 : m ≤ 100) (n0 : 0 < m2) (n1 : m2 ≤ 119)
    (q : ∀ D ws at' H', WordsAt H' D ws → (ws.length : Int) ≤ m → at' ≤ at0 + 1 + m → LW PT p c sl H' at' → Kp [p] H H' → Q (.ref D) H') :
    tLc (iRng1 (tCons (tCall spDraw [] E0 (tCons (tVar 1) (tCons (tC (.int m)) tNil))) tNil)) (gName 8) tYes (tCB rStrI (tCons (tOp (rI0 fun i j => .int (i + j)) (tC (.int 2)) (tCall spDraw [] E0 (tCons (tVar 1) (tCons (tC (.int m2)) tNil)))) tNil)) [8] σ H Q := by
  refine r_lc (r_iRng1 (r_cons (r_call (r_cons (r_var hσ (r_cons (r_c (r_nil ?_))))))))
  refine r_draw lw (by omega) m0 (by omega) fun n at2 H4 n0' n1' ha2 lw2 k2 => ?_
  refine r_nil ?_
  refine q_lcR n0' (by omega) (fun D j H5 => ∃ (at3 : Int) (ws : List Str), PenAt H5 p c at3 ∧ Kp [p] H4 H5 ∧ at3 ≤ at2 + j ∧ WordsAt H5 D ws ∧ ws.length = j) (fun D nD => ⟨at2, [], pen_put lw2.pen nD lw2.pen, (Kp.refl _ _).own nD, by omega, ⟨upd_same, fun y hy => absurd hy (by simp)⟩, rfl⟩) (fun D j H5 nD hj h5 => ?_) (fun D H5 nD h5 => ?_)
  · obtain ⟨at3, ws, hp5, k5, ha3, ⟨hD, hw⟩, hl5⟩ := h5
    have lw5 := lw2.move k5 hp5
    have e1 : (wipe σ [8]) = σ.set 8 none := rfl
    refine r_name rfl ⟨?_, r_yes ?_⟩
    · show ((σ.set 8 none).set 8 _).set 8 none = σ.set 8 none
      rw [List.set_set, List.set_set]
    · refine L2.iteT ?_
      refine r_cb (r_cons (r_op (r_c (r_call (r_cons (r_var (v := .ref p) ?_ (r_cons (r_c (r_nil ?_)))))))))
      · show ((σ.set 8 none).set 8 _)[1]? = _
        rw [List.set_set, List.getElem?_set_ne (by decide)]; exact hσ
      refine r_draw lw5 (by omega) n0 (by omega) fun v at4 H6 v0 v1 ha4 lw6 k6 => ?_
      refine r_I0 (r_nil ?_)
      refine r_strI (Nat.lt_of_lt_of_le (by omega : (2 + v).natAbs < 1000) (by decide)) ?_
      have hD6 := k6 D _ (pen_ne lw2.pen nD) hD
      exact ⟨_, hD6, by rw [sizeLine_eq, List.length_map]; omega, at4, ws ++ [Str.ofString (toString (2 + v))], pen_put lw2.pen nD lw6.pen, (k5.trans k6).own nD, by omega, ⟨by rw [upd_same, List.map_append]; rfl, wok_app hw (wok_one (tx_any' v0 (by omega)))⟩, by rw [List.length_append, hl5]; rfl⟩
  · obtain ⟨at3, ws, hp5, k5, ha3, hw, hl5⟩ := h5
    exact q D ws at3 H5 hw (by omega) (by omega) (lw2.move k5 hp5) (k2.trans k5)
theorem WordsAt.keep {H H' : Hp} {b : Addr} {ws : List Str} (h : WordsAt H b ws) (k : Kp [] H H') : WordsAt H' b ws := ⟨k.get h.1, h.2⟩
theorem r_slW {K : PySem.W.Frag} {H : Hp} {Q : VK} {wl : Addr} {ws : List Str} {lo hi : Option Int} (h : WordsAt H wl ws) (q : ∀ D ws' H', WordsAt H' D ws' → ws'.length ≤ ws.length → Kp [] H H' → Q (.ref D) H') : rSlL K (.ref wl) lo hi H Q := by
  obtain ⟨m, e, hm, hl⟩ := cutV_map V.str ws lo hi
  refine ⟨wl, _, rfl, sqL_of h.1, fun D nD => ?_⟩
  rw [e]
  exact q D m _ ⟨upd_same, fun y hy => h.2 y (hm y hy)⟩ hl ((Kp.refl _ _).new nD)
theorem r_catW {H : Hp} {Q : VK} {a b : Addr} {ws1 ws2 : List Str} (h1 : WordsAt H a ws1) (h2 : WordsAt H b ws2) (l1 : ws1.length ≤ 1000) (l2 : ws2.length ≤ 1000) (q : ∀ D H', WordsAt H' D (ws1 ++ ws2) → Kp [] H H' → Q (.ref D) H') : rCat (.ref a) (.ref b) H Q := by
  refine r_cat h1.1 h2.1 (by rw [sizeLine_eq, List.length_map, List.length_map]; omega) fun D nD => ?_
  rw [← List.map_append]
  exact q D _ ⟨upd_same, wok_app h1.2 h2.2⟩ ((Kp.refl _ _).new nD)
theorem words_ne {PT p c sl wl : Addr} {H : Hp} {at_ : Int} {ws : List Str} (lw : LW PT p c sl H at_) (h : WordsAt H wl ws) : wl ∉ [p] := fun z => by
  obtain ⟨_, _, g1, _⟩ := lw.pen
  have h1 := h.1
  rw [List.mem_singleton.mp z, g1] at h1
  have h2 := HO.lst.inj (Option.some.inj h1)
  cases ws with
  | nil => cases h2
  | cons y t => cases (List.cons.inj h2).1
theorem WordsAt.move {PT p c sl wl : Addr} {H H' : Hp} {at_ : Int} {ws : List Str} (lw : LW PT p c sl H at_) (h : WordsAt H wl ws) (k : Kp [p] H H') : WordsAt H' wl ws := ⟨k _ _ (words_ne lw h) h.1, h.2⟩
theorem wok_some {y : Str} (h : y ∈ someW) : WOK [y] := fun z hz => by rw [List.mem_singleton.mp hz]; exact someW_ok y h
theorem LW.ext {PT p c sl : Addr} {H H' : Hp} {at_ : Int} (l : LW PT p c sl H at_) (k : ExtN H H') (t : Tabs (LT PT) H') : LW PT p c sl H' at_ := by
  obtain ⟨⟨cells, rest, h1, h2, h3⟩, h4, _, h6⟩ := l
  exact ⟨⟨cells, rest, k _ _ h1 (fun _ z => by cases z), k _ _ h2 (fun _ z => by cases z), h3⟩, k _ _ h4 (fun _ z => by cases z), t, h6⟩
theorem ext_of {H H' : Hp} (k : Kp [] H H') : ExtN H H' := ExtN.of fun b o h => k b o (by simp) h
theorem ext_lst {H H' : Hp} {b : Addr} {xs : List V} (k : ExtN H H') (h : H b = some (.lst xs)) : H' b = some (.lst xs) := k _ _ h fun _ z => by cases z
theorem ext_tup {H H' : Hp} {b : Addr} {xs : List V} (k : ExtN H H') (h : H b = some (.tup xs)) : H' b = some (.tup xs) := k _ _ h fun _ z => by cases z
/-- what a heard reading gives -/
def HearEnd (K : PySem.W.Frag) (PT CS : Addr) (H : Hp) (Q : VK) : Told → Prop
  | .inl i => ∀ p H', H' p = some (.tup [.str "text", .int (i : Nat)]) → ExtN H H' → Tabs (LT PT) H' → Q (.ref p) H'
  | .inr (h, c, cs, rs) => (h ≤ 600 → c ≤ 600 → ∀ p s H', SigAt K CS H' s (h : Nat) (c : Nat) (sortI cs) (sortR (rs.map leastRing)) → H' p = some (.lst [.ref s]) → ExtN H H' → Tabs (LT PT) H' → Q (.ref p) H') ∧
    (600 < h → ∀ p H', H' p = some (.tup [.str "number", .str "handles"]) → ExtN H H' → Tabs (LT PT) H' → Q (.ref p) H') ∧
    (h ≤ 600 → 600 < c → ∀ p H', H' p = some (.tup [.str "number", .str "caps"]) → ExtN H H' → Tabs (LT PT) H' → Q (.ref p) H')
theorem r_hear {K : PySem.W.Frag} {PT CS CN CT : Addr} {σ : S0} {H : Hp} {Q : VK} {te : TE} {x : Str} (hT : Tabs (LT PT) H)
    (hte : ∀ H2, ExtN H H2 → ∀ nx : VK, (∀ H3, Kp [] H2 H3 → nx (.str x) H3) → te σ H2 nx)
    (hl : x.length ≤ 100000) (hn : (Txt.split x " ").length ≤ 1000) (q : HearEnd K PT CS H Q (readP (Txt.split x " "))) :
    tLam (LT PT) (THeard CN CT) (fun E2 => tCall (spReadSign K CS CN CT) [] E2 (tCons te tNil)) σ H Q := by
  refine r_lam hT fun H1 e1 t1 => ?_
  intro H2 k2
  have e2 := e1.trans (ext_of k2)
  refine r_call (r_cons (hte H2 e2 _ fun H3 k3 => r_nil ?_))
  have k3' := k2.trans k3
  refine .inl ⟨x, rfl, hl, split_ne x, hn, fun y hy => Nat.le_trans (split_word x y hy) hl, ?_⟩
  revert q
  generalize readP (Txt.split x " ") = r
  intro q
  have tb : ∀ {G1 G2 : Hp}, Kp [] H3 G1 → Kp [] G1 G2 → ExtN H G2 ∧ Tabs (LT PT) G2 := fun a b => ⟨e1.trans (ext_of ((k3'.trans a).trans b)), tabs_kp t1 ((k3'.trans a).trans b)⟩
  cases r with
  | inl i =>
    intro d H4 h4 k4
    exact .inr ⟨i, d, rfl, rfl, h4, fun p H5 hp k5 => q p H5 hp (tb k4 k5).1 (tb k4 k5).2⟩
  | inr r =>
    obtain ⟨h, c, cs, rs⟩ := r
    obtain ⟨q1, q2, q3⟩ := q
    refine ⟨fun a b s H4 hs k4 p H5 hp k5 => q1 a b p s H5 (hs.keep k5) hp (tb k4 k5).1 (tb k4 k5).2, fun a d H4 h4 k4 => ?_, fun a b d H4 h4 k4 => ?_⟩
    · exact .inl ⟨_, d, rfl, rfl, h4, fun p H5 hp k5 => q2 a p H5 hp (tb k4 k5).1 (tb k4 k5).2⟩
    · exact .inl ⟨_, d, rfl, rfl, h4, fun p H5 hp k5 => q3 a b p H5 hp (tb k4 k5).1 (tb k4 k5).2⟩
theorem r_hearV {K : PySem.W.Frag} {PT CS CN CT : Addr} {σ : S0} {H : Hp} {Q : VK} {te : TE} {v : V} {t : Value} (hT : Tabs (LT PT) H)
    (hte : ∀ H2, ExtN H H2 → ∀ nx : VK, (∀ H3, Kp [] H2 H3 → nx v H3) → te σ H2 nx)
    (ht : ∀ H2, ExtN H H2 → TyX K H2 v t) (hk : PySem.W.kitOne K t (.type "str") = some false)
    (q : ∀ p H', H' p = some (.tup [.str "text", .int 0]) → ExtN H H' → Tabs (LT PT) H' → Q (.ref p) H') :
    tLam (LT PT) (THeard CN CT) (fun E2 => tCall (spReadSign K CS CN CT) [] E2 (tCons te tNil)) σ H Q := by
  refine r_lam hT fun H1 e1 t1 => ?_
  intro H2 k2
  have e2 := e1.trans (ext_of k2)
  refine r_call (r_cons (hte H2 e2 _ fun H3 k3 => r_nil ?_))
  have k3' := k2.trans k3
  refine .inr ⟨v, t, rfl, ht H3 (e1.trans (ext_of k3')), hk, fun d H4 h4 k4 => ?_⟩
  exact .inr ⟨0, d, rfl, rfl, h4, fun p H5 hp k5 => q p H5 hp (e1.trans (ext_of ((k3'.trans k4).trans k5))) (tabs_kp t1 ((k3'.trans k4).trans k5))⟩
theorem sum4 {ws : List Str} (h : ∀ y ∈ ws, y.length ≤ 4) : (ws.map (·.length)).sum ≤ 4 * ws.length := by
  induction ws with
  | nil => simp
  | cons x ws ih =>
    have h1 := h x List.mem_cons_self
    have h2 := ih fun y hy => h y (List.mem_cons_of_mem _ hy)
    rw [List.map_cons, List.sum_cons, List.length_cons]; omega
theorem eqv_txt (s : Str) (i : Int) : PyData.eqv (.tuple [.str s, .int i]) (.tuple [.str s, .int i]) = true := by
  simp [PyData.eqv, PyData.eqvAll]
theorem sh_str : SeqAt.shaped (.str "text") = true := by decide +kernel
theorem sh_txt (i : Int) : SeqAt.shaped (.tuple [.str "text", .int i]) = true := by
  have e : PyData.canLay0 (.str "text") = true := by decide +kernel
  show ((PyData.canLay0 (.str "text") && (PyData.canLay0 (.int i) && true)) && decide (PyData.depthAll [.str "text", .int i] + 1 ≤ 64)) = true
  rw [e]; rfl
theorem dp_txt {K : PySem.W.Frag} {H : Hp} {p : Addr} {s : Str} {i : Int} (h : H p = some (.tup [.str s, .int i])) : Dp K H (.ref p) (.tuple [.str s, .int i]) := .tup (sqT_of h) (.cons (.str _) (.cons (.int _) .nil))
theorem notFirst_self (K : PySem.W.Frag) (C : Addr) : PySem.W.notFirst K C (.ref C) = true := by
  unfold PySem.W.notFirst
  rw [beq_self_eq_true]; rfl
theorem r_ownNeS {K : PySem.W.Frag} {CS : Addr} {H : Hp} {Q : VK} {p p2 : Addr} {h c : Int} {l : List Int} {rs : List (List Int)} (s1 : SigAt K CS H p h c l rs) (s2 : SigAt K CS H p2 h c l rs) (hl : l.length ≤ 1000) (q : ∀ H', Kp [] H H' → Q (.bl false) H') : rOwnNe K CS (spSigEq K CS) (.ref p) (.ref p2) H Q := by
  obtain ⟨dx, pc, pm, pp, ms, h1, _⟩ := id s1
  obtain ⟨dx2, pc2, pm2, pp2, ms2, h2, _⟩ := id s2
  refine ⟨p, dx, _, .ref CS, rfl, h1, .ins h2, notFirst_self K CS, p, _, h, c, l, rs, rfl, s1, hl, p2, h, c, l, rs, rfl, s2, fun H' k => ⟨_, rfl, ?_⟩⟩
  have e : decide (h = h ∧ c = c ∧ l = l ∧ rs = rs) = true := decide_eq_true ⟨rfl, rfl, rfl, rfl⟩
  rw [e]
  exact q H' k
theorem eqv_ss : PyData.eqv (.str "text") (.str "text") = true := by decide +kernel
theorem eqv_is (i : Int) : PyData.eqv (.int i) (.str "text") = false := rfl
theorem rings_len : ∀ (rs : List (List Int)), rs.length ≤ (rs.flatMap ringW).length ∧ ∀ r ∈ rs, r.length ≤ (rs.flatMap ringW).length
  | [] => ⟨by simp, fun r hr => absurd hr (by simp)⟩
  | r :: rs => by
    obtain ⟨h1, h2⟩ := rings_len rs
    have e : ((r :: rs).flatMap ringW).length = (r.length + 1) + (rs.flatMap ringW).length := by
      rw [List.flatMap_cons, List.length_append]
      show (r.map tx).length + 1 + _ = _
      rw [List.length_map]
    rw [e, List.length_cons]
    refine ⟨by omega, fun q hq => ?_⟩
    rcases List.mem_cons.mp hq with rfl | hq
    · omega
    · have := h2 q hq; omega
theorem sortI_len (l : List Int) : (sortI l).length = l.length := List.length_mergeSort l
/-- the two signs -/
def SignOf (s part : Str) : Prop := (s = "o" ∧ part = "handles") ∨ (s = "x" ∧ part = "caps")
theorem SignOf.ox {s part : Str} (h : SignOf s part) : s = "o" ∨ s = "x" := h.elim (fun h => .inl h.1) fun h => .inr h.1
theorem SignOf.len {s part : Str} (h : SignOf s part) : s.length = 1 := by
  rcases h with ⟨rfl, _⟩ | ⟨rfl, _⟩ <;> rfl
theorem rep_sum (n : Nat) (s : Str) : ((List.replicate n s).map (·.length)).sum = n * s.length := by
  rw [List.map_replicate, List.sum_replicate_nat]
theorem hear_601 {K : PySem.W.Frag} {PT CS : Addr} {H : Hp} {Q : VK} {s part : Str} (h : SignOf s part) (q : ∀ p H', H' p = some (.tup [.str "number", .str part]) → ExtN H H' → Tabs (LT PT) H' → Q (.ref p) H') :
    HearEnd K PT CS H Q (readP (Txt.split (Txt.join " " (List.replicate 601 s)) " ")) := by
  rw [split_rep s h.ox 601 (by decide)]
  rcases h with ⟨rfl, rfl⟩ | ⟨rfl, rfl⟩
  · rw [read_os 601 (by decide)]
    exact ⟨fun z => by omega, fun _ => q, fun z => by omega⟩
  · rw [read_xs 601 (by decide)]
    exact ⟨fun _ z => by omega, fun z => by omega, fun _ _ => q⟩
theorem hear_y {K : PySem.W.Frag} {PT CS : Addr} {H : Hp} {Q : VK} {s part : Str} (h : SignOf s part) (q : ∀ p H', H' p = some (.tup [.str "text", .int 601]) → ExtN H H' → Tabs (LT PT) H' → Q (.ref p) H') :
    HearEnd K PT CS H Q (readP (Txt.split (Txt.join " " (List.replicate 601 s ++ [("y" : Str)])) " ")) := by
  rw [split_repy s h.ox]
  rcases h with ⟨rfl, rfl⟩ | ⟨rfl, rfl⟩
  · rw [read_oy]; exact q
  · rw [read_xy]; exact q
theorem read_600 {K : PySem.W.Frag} {CS CN CT : Addr} {H : Hp} {Q : VK} {E : XK} {s part : Str} (h : SignOf s part) (q : ∀ p H', SigAt K CS H' p (if s = "o" then 600 else 0) (if s = "o" then 0 else 600) [] [] → Kp [] H H' → Q (.ref p) H') :
    ReadEnd K CS CN CT H Q E (readP (Txt.split (Txt.join " " (List.replicate 600 s)) " ")) := by
  rw [split_rep s h.ox 600 (by decide)]
  have e1 : sortI [] = [] := by simp [sortI]
  have e2 : sortR (([] : List (List Int)).map leastRing) = [] := by simp [sortR]
  rcases h with ⟨rfl, rfl⟩ | ⟨rfl, rfl⟩
  · rw [read_os 600 (by decide)]
    refine ⟨fun _ _ p H' hs k => q p H' ?_ k, fun z => by omega, fun _ z => by omega⟩
    rw [e1, e2] at hs
    rw [if_pos rfl, if_pos rfl]; exact hs
  · rw [read_xs 600 (by decide)]
    refine ⟨fun _ _ p H' hs k => q p H' ?_ k, fun z => by omega, fun _ z => by omega⟩
    rw [e1, e2] at hs
    rw [if_neg (by decide), if_neg (by decide)]; exact hs
theorem r_repS {H : Hp} {Q : VK} {b : Addr} {s : Str} {k : Nat} (hb : H b = some (.lst [.str s])) (hk : k ≤ 1000) (q : ∀ b2 H', H' b2 = some (.lst ((List.replicate k s).map V.str)) → Kp [] H H' → Q (.ref b2) H') : rRep (.ref b) (.int (k : Nat)) H Q := by
  refine r_rep hb (by omega) (by omega) (by rw [sizeLine_eq]; show 1 * (k : Int).toNat ≤ _; omega) fun b2 nb2 => ?_
  rw [rep_flat]
  exact q b2 _ upd_same ((Kp.refl _ _).new nb2)
theorem join_rep_len (n : Nat) {s : Str} (h : s.length = 1) : (Txt.join " " (List.replicate n s)).length ≤ 2 * n := by
  have := join_len (List.replicate n s)
  rw [rep_sum, h, List.length_replicate] at this
  omega
theorem sig_parts {K : PySem.W.Frag} {C : Addr} {H : Hp} {p : Addr} {h c : Int} {l : List Int} {rs : List (List Int)} (s : SigAt K C H p h c l rs) : ∃ (dx pc pm pp : Addr), H p = some (.ins C dx (sigF h c pc pm pp)) ∧ Dp K H (.ref pp) (.tuple [.int h, .int c, tI l, .tuple (rs.map tI)]) := by
  obtain ⟨dx, pc, pm, pp, ms, h1, h2, h3, h4, h5⟩ := s
  exact ⟨dx, pc, pm, pp, h1, .tup (sqT_of h5) (.cons (.int _) (.cons (.int _) (.cons (dp_tI (sqT_of h2)) (.cons (.tup (sqT_of h3) h4) .nil))))⟩
theorem sh_num {s part : Str} (h : SignOf s part) : SeqAt.shaped (.tuple [.str "number", .str part]) = true := by
  rcases h with ⟨rfl, rfl⟩ | ⟨rfl, rfl⟩ <;> decide +kernel
theorem eqv_num {s part : Str} (h : SignOf s part) : PyData.eqv (.tuple [.str "number", .str part]) (.tuple [.str "number", .str part]) = true := by
  rcases h with ⟨rfl, rfl⟩ | ⟨rfl, rfl⟩ <;> decide +kernel
theorem r_tup4 {K : PySem.W.Frag} {σ : S0} {H : Hp} {Q : VK} {h c : Int} (q : ∀ t H', Dp K H' (.ref t) (.tuple [.int h, .int c, tI [], .tuple (([] : List (List Int)).map tI)]) → Kp [] H H' → Q (.ref t) H') :
    tTup (tCons (tC (.int h)) (tCons (tC (.int c)) (tCons (tTup tNil) (tCons (tTup tNil) tNil)))) σ H Q := by
  refine r_tup (r_cons (r_c (r_cons (r_c (r_cons (r_tup (r_nil ⟨by show (0 : Nat) ≤ sizeLine; decide, fun e1 n1 => r_cons (r_tup (r_nil ⟨by show (0 : Nat) ≤ sizeLine; decide, fun e2 n2 => r_nil ⟨by show (4 : Nat) ≤ sizeLine; decide, fun t nt => ?_⟩⟩))⟩)))))))
  have k2 := ((Kp.refl _ _).new n2 : Kp [] (upd H e1 (.tup [])) (upd (upd H e1 (.tup [])) e2 (.tup [])))
  have k3 := ((Kp.refl _ _).new nt : Kp [] (upd (upd H e1 (.tup [])) e2 (.tup [])) (upd (upd (upd H e1 (.tup [])) e2 (.tup [])) t (.tup [.int h, .int c, .ref e1, .ref e2])))
  exact q t _ (.tup (sqT_of upd_same) (.cons (.int _) (.cons (.int _) (.cons (dp_tI (l := []) (sqT_of ((k2.trans k3).get upd_same))) (.cons (.tup (sqT_of (k3.get upd_same)) .nil) .nil))))) (((Kp.refl _ _).new n1).trans (k2.trans k3))
theorem r_tup600 {K : PySem.W.Frag} {σ : S0} {H : Hp} {Q : VK} {s : Str} (hσ : σ[12]? = some (some (.str s)))
    (q : ∀ t H', Dp K H' (.ref t) (.tuple [.int (if s = "o" then 600 else 0), .int (if s = "o" then 0 else 600), tI [], .tuple (([] : List (List Int)).map tI)]) → Kp [] H H' → Q (.ref t) H') :
    tIf (tTest (tOp rEq (tVar 12) (tC (.str "o")))) (tTup (tCons (tC (.int 600)) (tCons (tC (.int 0)) (tCons (tTup tNil) (tCons (tTup tNil) tNil))))) (tTup (tCons (tC (.int 0)) (tCons (tC (.int 600)) (tCons (tTup tNil) (tCons (tTup tNil) tNil))))) σ H Q := by
  show tTest (tOp rEq (tVar 12) (tC (.str "o"))) σ H _
  refine r_test (r_op (r_var hσ (r_c (r_eq rfl ⟨_, rfl, ?_⟩))))
  by_cases z : s = "o"
  · subst z
    rw [if_pos rfl, if_pos rfl] at q
    rw [decide_eq_true rfl]
    exact r_tup4 q
  · rw [if_neg z, if_neg z] at q
    rw [decide_eq_false fun y => z (V.str.inj y)]
    exact r_tup4 q
theorem join_repy_len (n : Nat) {s : Str} (h : s.length = 1) : (Txt.join " " (List.replicate n s ++ [("y" : Str)])).length ≤ 2 * n + 2 := by
  have := join_len (List.replicate n s ++ [("y" : Str)])
  rw [List.map_append, List.sum_append, rep_sum, h, List.length_append, List.length_replicate] at this
  have e : ([("y" : Str)].map (·.length)).sum = 1 := rfl
  rw [e] at this
  simp only [List.length_cons, List.length_nil] at this
  omega
/-- what stands while the odd ones are heard -/
structure OA (CS PT od v1 v2 s8 dx hd p1 p2 p3 : Addr) (fs : List (Str × V)) (H : Hp) : Prop where
  o : H od = some (.lst [.non, .int 5, .ref v1, .ref v2, .bl true, .ref s8])
  a : H v1 = some (.lst [.str "o"])
  b : H v2 = some (.tup [.str "-"])
  c : H s8 = some (.ins CS dx fs)
  d : H hd = some (.lst [.ref p1, .ref p2, .ref p3])
  e1 : H p1 = some (.tup [.str "text", .int 1])
  e2 : H p2 = some (.tup [.str "text", .int 1])
  e3 : H p3 = some (.tup [.str "text", .int 1])
  t : Tabs (LT PT) H
theorem OA.ext {CS PT od v1 v2 s8 dx hd p1 p2 p3 : Addr} {fs : List (Str × V)} {H H' : Hp} (h : OA CS PT od v1 v2 s8 dx hd p1 p2 p3 fs H) (k : ExtN H H') (t : Tabs (LT PT) H') : OA CS PT od v1 v2 s8 dx hd p1 p2 p3 fs H' :=
  ⟨ext_lst k h.o, ext_lst k h.a, ext_tup k h.b, k _ _ h.c (fun _ z => by cases z), ext_lst k h.d, ext_tup k h.e1, ext_tup k h.e2, ext_tup k h.e3, t⟩
theorem OA.put {CS PT od v1 v2 s8 dx hd p1 p2 p3 D : Addr} {fs : List (Str × V)} {H0 H : Hp} {acc : List V} {o : HO} (h0 : OA CS PT od v1 v2 s8 dx hd p1 p2 p3 fs H0) (nD : H0 D = none) (h : OA CS PT od v1 v2 s8 dx hd p1 p2 p3 fs H) (hD : H D = some (.lst acc)) : OA CS PT od v1 v2 s8 dx hd p1 p2 p3 fs (upd H D o) :=
  ⟨(upd_ne (ne_of_none h0.o nD)).trans h.o, (upd_ne (ne_of_none h0.a nD)).trans h.a, (upd_ne (ne_of_none h0.b nD)).trans h.b, (upd_ne (ne_of_none h0.c nD)).trans h.c, (upd_ne (ne_of_none h0.d nD)).trans h.d, (upd_ne (ne_of_none h0.e1 nD)).trans h.e1, (upd_ne (ne_of_none h0.e2 nD)).trans h.e2, (upd_ne (ne_of_none h0.e3 nD)).trans h.e3,
    tabs_kp1 h.t (fun b x hb hx => (upd_ne fun z => hb (List.mem_singleton.mpr z)).trans hx) hD⟩
theorem OA.ty {K : PySem.W.Frag} {mg : Str → Option Value} {CS PT od v1 v2 s8 dx hd p1 p2 p3 : Addr} {fs : List (Str × V)} {H : Hp} (S : SigC K CS) (SI : SigI K mg CS) (NS : PySem.W.kitOne K (.ref CS) (.type "str") = some false) (h : OA CS PT od v1 v2 s8 dx hd p1 p2 p3 fs H) {y : V} (hy : y ∈ [V.non, .int 5, .ref v1, .ref v2, .bl true, .ref s8]) :
    ∃ t, (∀ H2, ExtN H H2 → TyX K H2 y t) ∧ PySem.W.kitOne K t (.type "str") = some false := by
  simp only [List.mem_cons, List.not_mem_nil, or_false] at hy
  rcases hy with rfl | rfl | rfl | rfl | rfl | rfl
  · exact ⟨_, fun H2 k => .base .non, rfl⟩
  · exact ⟨_, fun H2 k => .base (.int _), rfl⟩
  · exact ⟨_, fun H2 k => .base (.lst (ext_lst k h.a)), rfl⟩
  · exact ⟨_, fun H2 k => .base (.tup (ext_tup k h.b)), rfl⟩
  · exact ⟨_, fun H2 k => .base (.bl _), rfl⟩
  · exact ⟨_, fun H2 k => .base (.ins (k _ _ h.c fun _ z => by cases z) S.cls SI.ha SI.hn SI.htk SI.hm), NS⟩
theorem dp_same {K : PySem.W.Frag} {H : Hp} {T : PyData} : ∀ {ps : List Addr}, (∀ q ∈ ps, Dp K H (.ref q) T) → DpAll K H (ps.map V.ref) (List.replicate ps.length T)
  | [], _ => .nil
  | p :: ps, h => .cons (h p List.mem_cons_self) (dp_same fun q hq => h q (List.mem_cons_of_mem _ hq))
theorem rep_flatV (n : Nat) (t : Addr) : (List.replicate n [V.ref t]).flatten = (List.replicate n t).map V.ref := by
  induction n with
  | zero => rfl
  | succ n ih => rw [List.replicate_succ, List.flatten_cons, ih, List.replicate_succ]; rfl
abbrev tT (i : Int) : PyData := .tuple [.str "text", .int i]
theorem r_repT {K : PySem.W.Frag} {σ : S0} {H : Hp} {Q : VK} {i : Int} {k : Nat} (hk : k ≤ 1000) (q : ∀ b H', Dp K H' (.ref b) (.list (List.replicate k (tT i))) → Kp [] H H' → Q (.ref b) H') :
    tOp rRep (tLst (tCons (tTup (tCons (tC (.str "text")) (tCons (tC (.int i)) tNil))) tNil)) (tC (.int (k : Nat))) σ H Q := by
  refine r_op (r_lst (r_cons (r_tup (r_cons (r_c (r_cons (r_c (r_nil ⟨by show (2 : Nat) ≤ sizeLine; decide, fun t nt => r_nil ⟨by show (1 : Nat) ≤ sizeLine; decide, fun b nb => r_c ?_⟩⟩))))))))
  have k1 : Kp [] H (upd H t (.tup [.str "text", .int i])) := (Kp.refl _ _).new nt
  have k2 : Kp [] (upd H t (.tup [.str "text", .int i])) (upd (upd H t (.tup [.str "text", .int i])) b (.lst [.ref t])) := (Kp.refl _ _).new nb
  refine r_rep upd_same (by omega) (by omega) (by rw [sizeLine_eq]; show 1 * (k : Int).toNat ≤ _; omega) fun b2 nb2 => ?_
  have k3 := ((Kp.refl _ _).new nb2 : Kp [] (upd (upd H t (.tup [.str "text", .int i])) b (.lst [.ref t])) (upd (upd (upd H t (.tup [.str "text", .int i])) b (.lst [.ref t])) b2 (.lst (List.replicate k [V.ref t]).flatten)))
  refine q b2 _ (.lst (sqL_of upd_same) ?_) ((k1.trans k2).trans k3)
  have := dp_same (K := K) (H := upd (upd (upd H t (.tup [.str "text", .int i])) b (.lst [.ref t])) b2 (.lst (List.replicate k [V.ref t]).flatten)) (T := tT i) (ps := List.replicate k t) fun q hq => by
    rw [List.eq_of_mem_replicate hq]
    exact dp_txt ((k2.trans k3).get upd_same)
  rw [List.length_replicate, ← rep_flatV] at this
  exact this
theorem sh_6 : SeqAt.shaped (.list (List.replicate 6 (tT 0))) = true := by decide +kernel
theorem sh_3 : SeqAt.shaped (.list (List.replicate 3 (tT 1))) = true := by decide +kernel
theorem eqv_6 : PyData.eqv (.list (List.replicate 6 (tT 0))) (.list (List.replicate 6 (tT 0))) = true := by decide +kernel
theorem eqv_3 : PyData.eqv (.list (List.replicate 3 (tT 1))) (.list (List.replicate 3 (tT 1))) = true := by decide +kernel
--ENDW1
def spLaw (K : PySem.W.Frag) (PT : Addr) : Sp := fun vs H Q _ => ∃ (a : Addr) (ns : List Int), vs = [.ref a] ∧ SqL K H a (ns.map V.int) ∧ ns.length ≤ 63 ∧ Tabs (LT PT) H ∧ ∀ H', Q (.bl true) H'
abbrev sLaw : Stmt := topS 43
theorem scLaw : FnScope ["script", "pen", "some", "lap", "way", "text", "words", "turn", "spot", "other", "due", "told", "sign", "part", "odd", "heard", "value"] ["script"] (defScope (topS 43)) := ⟨rfl, rfl, rfl, by decide +kernel, rfl, by decide +kernel, by decide +kernel⟩
theorem ok_law {f fH fR cL PT CF CS CN CT : Addr} {fd fdH fdR : FuncData} (F : Fn K "law" 43 [] f fd) (hcL : fd.code = .ref cL) (TB : TabB base mg cL PT) (G : Gm mg) (HC : HeardC K mg CF CN CT) (S : SigC K CS) (SI : SigI K mg CS)
    (FH : Fn K "_law_heard" 40 [] fH fdH) (mH : mg "_law_heard" = some (.ref fH)) (kH : PySem.W.keepIn K (.ref fH) = true) (bH0 : Binds K fdH ["ask"] [])
    (K_readSign : FnOk P w K mg base (L2.CX P w) 7 fR fdR ["text"] (spReadSign K CS CN CT) ∧ mg "read_sign" = some (.ref fR) ∧ PySem.W.keepIn K (.ref fR) = true ∧ KBinds K fdR ["text"] ["text"] (fun us ws => us ++ ws) (fun vs zs => vs ++ zs))
    (C_readSign : CalX P w K mg base 7 "read_sign" (spReadSign K CS CN CT) []) (C_signText : CalX P w K mg base 4 "sign_text" (spSignText K CS) []) (C_lread : CalX P w K mg base 2 "_law_read" spLRead [])
    (C_pen : CalX P w K mg base 1 "_law_pen" (spPen K) []) (C_draw : CalX P w K mg base 1 "_law_draw" spDraw []) (C_pick : CalX P w K mg base 2 "_law_pick" (spPick K) [])
    (M_Signature : MakX P w K mg base 5 "Signature" CS (spInit K CS CN) []) (EQ : EqC P w K mg base 1 CS (spSigEq K CS)) (NS : PySem.W.kitOne K (.ref CS) (.type "str") = some false) :
    FnOk P w K mg base (L2.CX P w) 11 f fd ["script"] (spLaw K PT) := by
  have visH : Vis (defScope (topS 40)) "ask" := .inl (by decide +kernel)
  obtain ⟨ocH, odH, dVH, kVH, docH, pmH, anH, cdvH, ctH, oslH, rfl, lkH, cdH, _, _⟩ := FH.ex
  have bH := bH0
  refine okC F scLaw (fun vs H Q E h => ?_) (fun cdv A outer s H vs Q E hcd hr h => ?_)
  · obtain ⟨_, _, rfl, _⟩ := h
    rfl
  · obtain ⟨a, ns, rfl, ha, hns, hT, q⟩ := h
    have nd := scLaw.nd
    rw [hcL] at hcd
    subst hcd
    refine ⟨_, (pss_cons (ps_set (i := 1) nd rfl (.inr rfl) (pe_cx C_pen hr (by decide) (by rfl) pX0 (pa_cons (pv 0) pa_nil)))
      (pss_cons (ps_set (i := 2) nd rfl (.inr rfl) (pe_lst (pa_cons pe_str (pa_cons pe_str (pa_cons pe_str (pa_cons pe_str (pa_cons pe_str (pa_cons pe_str (pa_cons pe_str (pa_cons pe_str (pa_cons pe_str (pa_cons pe_str (pa_cons pe_str (pa_cons pe_str (pa_cons pe_str (pa_cons pe_str (pa_cons pe_str (pa_cons pe_str (pa_cons pe_str (pa_cons pe_str (pa_cons pe_str (pa_cons pe_str (pa_cons pe_str (pa_cons pe_str (pa_cons pe_str (pa_cons pe_str (pa_cons pe_str (pa_cons pe_str (pa_cons pe_str pa_nil)))))))))))))))))))))))))))))
      (C8.pss_cut (ps_for (passes_of rfl) rfl (pi_range1 (by rfl) G.range (pa_cons pe_int pa_nil)) (pg_name (i := 3) nd rfl (.inl rfl)) (pss_cons (ps_set (i := 4) nd rfl (.inl rfl) (pe_cx C_draw hr (by decide) (by rfl) pX0 (pa_cons (pv 1) (pa_cons pe_int pa_nil))))
      (C8.pss_cut (ps_if (pt_cmpR op_eq (pv 4) pe_int (nomark _)) (pss_one (ps_setLc (i := 6) (own := [("spot", 8)]) (by rfl) nd rfl rfl (sw_true rfl rfl rfl (by decide +kernel)) (pi_range1 (by rfl) G.range (pa_cons (pe_cx C_draw hr (by decide) (by rfl) pX0 (pa_cons (pv 1) (pa_cons pe_int pa_nil))) pa_nil)) (blkOk_by (own := [("spot", 8)]) (N := ["script", "pen", "some", "lap", "way", "text", "words", "turn", "spot", "other", "due", "told", "sign", "part", "odd", "heard", "value"]) (sc := defScope sLaw) (by decide +kernel)) (fun _ _ _ _ _ => (pg_name (i := 8) nd rfl (.inl rfl))) (fun _ _ _ _ _ => pts_nil) (fun _ _ _ _ _ => (pe_cx C_pick hr (by decide) (by rfl) pX0 (pa_cons (pv 1) (pa_cons (pv 2) pa_nil)))))) (pss_cons (ps_set (i := 6) nd rfl (.inl rfl) (pe_op op_cat (pe_op op_rep (pe_lst (pa_cons pe_str pa_nil)) (pe_cx C_draw hr (by decide) (by rfl) pX0 (pa_cons (pv 1) (pa_cons pe_int pa_nil)))) (pe_lc (own := [("spot", 8)]) (by rfl) nd (pi_range1 (by rfl) G.range (pa_cons (pe_cx C_draw hr (by decide) (by rfl) pX0 (pa_cons (pv 1) (pa_cons pe_int pa_nil))) pa_nil)) (blkOk_by (own := [("spot", 8)]) (N := ["script", "pen", "some", "lap", "way", "text", "words", "turn", "spot", "other", "due", "told", "sign", "part", "odd", "heard", "value"]) (sc := defScope sLaw) (by decide +kernel)) (fun _ _ _ _ _ => (pg_name (i := 8) nd rfl (.inl rfl))) (fun _ _ _ _ _ => pts_nil) (fun _ _ _ _ _ => (pe_callTy c_strI (by rfl) G.str bt_str (pa_cons (pe_op op_add pe_int (pe_cx C_draw hr (by decide) (by rfl) pX0 (pa_cons (pv 1) (pa_cons pe_int pa_nil)))) pa_nil))))))
      (C8.pss_cut (ps_for (passes_of rfl) rfl (pi_range1 (by rfl) G.range (pa_cons (pe_cx C_draw hr (by decide) (by rfl) pX0 (pa_cons (pv 1) (pa_cons pe_int pa_nil))) pa_nil)) (pg_name (i := 7) nd rfl (.inl rfl)) (pss_one (ps_set (i := 6) nd rfl (.inl rfl) (pe_op op_cat (pe_op op_cat (pv 6) (pe_lst (pa_cons pe_str pa_nil))) (pe_lc (own := [("spot", 8)]) (by rfl) nd (pi_range1 (by rfl) G.range (pa_cons (pe_cx C_draw hr (by decide) (by rfl) pX0 (pa_cons (pv 1) (pa_cons pe_int pa_nil))) pa_nil)) (blkOk_by (own := [("spot", 8)]) (N := ["script", "pen", "some", "lap", "way", "text", "words", "turn", "spot", "other", "due", "told", "sign", "part", "odd", "heard", "value"]) (sc := defScope sLaw) (by decide +kernel)) (fun _ _ _ _ _ => (pg_name (i := 8) nd rfl (.inl rfl))) (fun _ _ _ _ _ => pts_nil) (fun _ _ _ _ _ => (pe_callTy c_strI (by rfl) G.str bt_str (pa_cons (pe_op op_add pe_int (pe_cx C_draw hr (by decide) (by rfl) pX0 (pa_cons (pv 1) (pa_cons pe_int pa_nil)))) pa_nil))))))))
      (pss_one (ps_set (i := 6) nd rfl (.inl rfl) (pe_op op_cat (pv 6) (pe_op op_rep (pe_lst (pa_cons pe_str pa_nil)) (pe_cx C_pick hr (by decide) (by rfl) pX0 (pa_cons (pv 1) (pa_cons (pe_lst (pa_cons pe_int (pa_cons pe_int (pa_cons pe_int (pa_cons pe_int pa_nil))))) pa_nil))))))))))
      (C8.pss_cut (ps_if (pt_cmpR op_eq (pv 4) pe_int (nomark _)) (pss_cons (ps_set (i := 8) nd rfl (.inl rfl) (pe_cx C_draw hr (by decide) (by rfl) pX0 (pa_cons (pv 1) (pa_cons (pe_op op_add (pe_callB c_len (by rfl) G.len bt_len (pa_cons (pv 6) pa_nil)) pe_int) pa_nil))))
      (pss_cons (ps_set (i := 9) nd rfl (.inl rfl) (pe_cx C_pick hr (by decide) (by rfl) pX0 (pa_cons (pv 1) (pa_cons (pv 2) pa_nil))))
      (pss_one (ps_set (i := 6) nd rfl (.inl rfl) (pe_cx C_pick hr (by decide) (by rfl) pX0 (pa_cons (pv 1) (pa_cons (pe_lst (pa_cons (pe_op op_cat (pe_op op_cat (pe_slice sl_list (pv 6) po_none (po_some (pv 8))) (pe_lst (pa_cons (pv 9) pa_nil))) (pe_slice sl_list (pv 6) (po_some (pv 8)) po_none)) (pa_cons (pe_op op_cat (pe_slice sl_list (pv 6) po_none (po_some (pv 8))) (pe_slice sl_list (pv 6) (po_some (pe_op op_add (pv 8) pe_int)) po_none)) (pa_cons (pe_op op_cat (pe_op op_cat (pe_slice sl_list (pv 6) po_none (po_some (pv 8))) (pe_lst (pa_cons (pv 9) pa_nil))) (pe_slice sl_list (pv 6) (po_some (pe_op op_add (pv 8) pe_int)) po_none)) pa_nil)))) pa_nil))))))) pss_nil)
      (pss_cons (ps_set (i := 5) nd rfl (.inr rfl) (pe_join pe_str (pv 6)))
      (pss_cons (ps_par (i := 10) (j := 11) (by rfl) nd rfl rfl (by decide) rfl rfl (pa_cons (pe_cx C_lread hr (by decide) (by rfl) pX0 (pa_cons (pv 5) pa_nil)) (pa_cons (pe_lamcall3 (T := LT PT) (P := PT) (k := 7) (by rfl) mH kH lkH cdH bH scHeard rfl visH (heard_gives G HC) TB (by rfl) (by exact List.mem_singleton.mpr rfl) (fun p hp _ => by rw [List.mem_singleton.mp hp]; rfl) (hr.mono (by decide)) (lamS3_by (by first | rfl | kernel_rfl)) (.inl ⟨rfl, rfl⟩) (.inl ⟨rfl, fun _ _ _ _ _ => rfl⟩) (by decide) (fun A2 outer2 s2 H2 E2 f2 c2 hr2 => (pe_cx C_readSign hr2 (by decide) (by rfl) (pXE (E := E2) (takes_of rfl rfl rfl rfl)) (pa_cons (pv 5) pa_nil)))) pa_nil)) (by rfl))
      (C8.pss_cut (ps_if (pt_cmpR (op_eqD hr.units) (pe_ix ix_tup (pv 10) pe_int (fun _ _ => rfl)) pe_str (nomark _)) (pss_cons (ps_if (pt_cmpR (op_neD hr.units) (pv 11) (pv 10) (nomark _)) (pss_one (ps_ret pe_bl)) pss_nil)
      (pss_one ps_continue)) pss_nil)
      (pss_cons (ps_if (PW.pt (pw_or (pt_not (pt_val (pe_callB call_isi (by rfl) G.isinstance bt_isinstance (pa_cons (pv 11) (pa_cons (pe_ty (by rfl) G.list bt_list) pa_nil))))) (pw_or (pt_cmpR (op_ownNe EQ hr (by decide)) (pe_ix ix_list (pv 11) pe_int (fun _ _ => rfl)) (pe_mkx M_Signature hr (by decide) (by rfl) pX0 (pa_cons (pe_ix ix_tup (pv 10) pe_int (fun _ _ => rfl)) (pa_cons (pe_ix ix_tup (pv 10) pe_int (fun _ _ => rfl)) (pa_cons (pe_ix ix_tup (pv 10) pe_int (fun _ _ => rfl)) (pa_cons (pe_ix ix_tup (pv 10) pe_int (fun _ _ => rfl)) pa_nil))))) (nomark _)) (pw_or (pt_cmpR (op_ownNe EQ hr (by decide)) (pe_cx C_readSign hr (by decide) (by rfl) pX0 (pa_cons (pe_cx C_signText hr (by decide) (by rfl) pX0 (pa_cons (pe_ix ix_list (pv 11) pe_int (fun _ _ => rfl)) pa_nil)) pa_nil)) (pe_ix ix_list (pv 11) pe_int (fun _ _ => rfl)) (nomark _)) (pw_or1 (pt_cmpR (op_ownNe EQ hr (by decide)) (pe_callK0 K_readSign.1 (hr.mono (by decide)) (by rfl) K_readSign.2.1 K_readSign.2.2.1 K_readSign.2.2.2 (fun pins σ H s e u I q => pX0 σ pins H s e u I q) (pk_cons (pv 5) pk_nil)) (pe_ix ix_list (pv 11) pe_int (fun _ _ => rfl)) (nomark _))))))) (pss_one (ps_ret pe_bl)) pss_nil)
      (pss_one (ps_if (pt_cmpR (op_neD hr.units) (pe_callB (cr_sortedW hr) (by rfl) G.sorted bt_sorted (pa_cons (pe_split (pe_cx C_signText hr (by decide) (by rfl) pX0 (pa_cons (pe_ix ix_list (pv 11) pe_int (fun _ _ => rfl)) pa_nil)) pe_str) pa_nil)) (pe_callB (cr_sortedW hr) (by rfl) G.sorted bt_sorted (pa_cons (pe_split (pv 5) pe_str) pa_nil)) (nomark _)) (pss_one (ps_ret pe_bl)) pss_nil))))))))))
      (C8.pss_cut (ps_for (passes_of rfl) rfl (pi_tup (pe_tup (pa_cons (pe_tup (pa_cons pe_str (pa_cons pe_str pa_nil))) (pa_cons (pe_tup (pa_cons pe_str (pa_cons pe_str pa_nil))) pa_nil)))) (pg_tup rfl (pgs_cons (pg_name (i := 12) nd rfl (.inr rfl)) (pgs_cons (pg_name (i := 13) nd rfl (.inl rfl)) pgs_nil))) (pss_cons (ps_if (pt_cmpR (op_neD hr.units) (pe_fld (pe_cx C_readSign hr (by decide) (by rfl) pX0 (pa_cons (pe_join pe_str (pe_op op_rep (pe_lst (pa_cons (pv 12) pa_nil)) pe_int)) pa_nil)) rfl) (pe_ifExp (pt_cmpR op_eq (pv 12) pe_str (nomark _)) (pe_tup (pa_cons pe_int (pa_cons pe_int (pa_cons (pe_tup pa_nil) (pa_cons (pe_tup pa_nil) pa_nil))))) (pe_tup (pa_cons pe_int (pa_cons pe_int (pa_cons (pe_tup pa_nil) (pa_cons (pe_tup pa_nil) pa_nil)))))) (nomark _)) (pss_one (ps_ret pe_bl)) pss_nil)
      (pss_cons (ps_if (pt_cmpR (op_neD hr.units) (pe_lamcall3 (T := LT PT) (P := PT) (k := 7) (by rfl) mH kH lkH cdH bH scHeard rfl visH (heard_gives G HC) TB (by rfl) (by exact List.mem_singleton.mpr rfl) (fun p hp _ => by rw [List.mem_singleton.mp hp]; rfl) (hr.mono (by decide)) (lamS3_by (by first | rfl | kernel_rfl)) (.inl ⟨rfl, rfl⟩) (.inl ⟨rfl, fun _ _ _ _ _ => rfl⟩) (by decide) (fun A2 outer2 s2 H2 E2 f2 c2 hr2 => (pe_cx C_readSign hr2 (by decide) (by rfl) (pXE (E := E2) (takes_of rfl rfl rfl rfl)) (pa_cons (pe_join_ (K := K) pe_str (pe_op op_rep (pe_lst (pa_cons (pv 12) pa_nil)) pe_int)) pa_nil)))) (pe_tup (pa_cons pe_str (pa_cons (pv 13) pa_nil))) (nomark _)) (pss_one (ps_ret pe_bl)) pss_nil)
      (pss_one (ps_if (pt_cmpR (op_neD hr.units) (pe_lamcall3 (T := LT PT) (P := PT) (k := 7) (by rfl) mH kH lkH cdH bH scHeard rfl visH (heard_gives G HC) TB (by rfl) (by exact List.mem_singleton.mpr rfl) (fun p hp _ => by rw [List.mem_singleton.mp hp]; rfl) (hr.mono (by decide)) (lamS3_by (by first | rfl | kernel_rfl)) (.inl ⟨rfl, rfl⟩) (.inl ⟨rfl, fun _ _ _ _ _ => rfl⟩) (by decide) (fun A2 outer2 s2 H2 E2 f2 c2 hr2 => (pe_cx C_readSign hr2 (by decide) (by rfl) (pXE (E := E2) (takes_of rfl rfl rfl rfl)) (pa_cons (pe_join_ (K := K) pe_str (pe_op op_cat (pe_op op_rep (pe_lst (pa_cons (pv 12) pa_nil)) pe_int) (pe_lst (pa_cons pe_str pa_nil)))) pa_nil)))) (pe_tup (pa_cons pe_str (pa_cons pe_int pa_nil))) (nomark _)) (pss_one (ps_ret pe_bl)) pss_nil)))))
      (pss_cons (ps_set (i := 14) nd rfl (.inl rfl) (pe_lst (pa_cons pe_non (pa_cons pe_int (pa_cons (pe_lst (pa_cons pe_str pa_nil)) (pa_cons (pe_tup (pa_cons pe_str pa_nil)) (pa_cons pe_bl (pa_cons (pe_mkx M_Signature hr (by decide) (by rfl) pX0 (pa_cons pe_int (pa_cons pe_int (pa_cons (pe_tup pa_nil) (pa_cons (pe_tup pa_nil) pa_nil))))) pa_nil))))))))
      (pss_cons (ps_set (i := 15) nd rfl (.inl rfl) (pe_lst (pa_cons (pe_lamcall3 (T := LT PT) (P := PT) (k := 7) (by rfl) mH kH lkH cdH bH scHeard rfl visH (heard_gives G HC) TB (by rfl) (by exact List.mem_singleton.mpr rfl) (fun p hp _ => by rw [List.mem_singleton.mp hp]; rfl) (hr.mono (by decide)) (lamS3_by (by first | rfl | kernel_rfl)) (.inl ⟨rfl, rfl⟩) (.inl ⟨rfl, fun _ _ _ _ _ => rfl⟩) (by decide) (fun A2 outer2 s2 H2 E2 f2 c2 hr2 => (pe_cx C_readSign hr2 (by decide) (by rfl) (pXE (E := E2) (takes_of rfl rfl rfl rfl)) (pa_cons pe_str pa_nil)))) (pa_cons (pe_lamcall3 (T := LT PT) (P := PT) (k := 7) (by rfl) mH kH lkH cdH bH scHeard rfl visH (heard_gives G HC) TB (by rfl) (by exact List.mem_singleton.mpr rfl) (fun p hp _ => by rw [List.mem_singleton.mp hp]; rfl) (hr.mono (by decide)) (lamS3_by (by first | rfl | kernel_rfl)) (.inr ⟨0, _, _, rfl, rfl⟩) (.inr ⟨by simp, "a1", by rfl, fun q cl pm cv ctv T => ⟨_, rfl, fun v => rfl⟩⟩) (by decide) (fun A2 outer2 s2 H2 E2 f2 c2 hr2 => (pe_cx C_readSign hr2 (by decide) (by rfl) (pXE (E := E2) (takes_of rfl rfl rfl rfl)) (pa_cons pe_str pa_nil)))) (pa_cons (pe_lamcall3 (T := LT PT) (P := PT) (k := 7) (by rfl) mH kH lkH cdH bH scHeard rfl visH (heard_gives G HC) TB (by rfl) (by exact List.mem_singleton.mpr rfl) (fun p hp _ => by rw [List.mem_singleton.mp hp]; rfl) (hr.mono (by decide)) (lamS3_by (by first | rfl | kernel_rfl)) (.inr ⟨0, _, _, rfl, rfl⟩) (.inr ⟨by simp, "a2", by rfl, fun q cl pm cv ctv T => ⟨_, rfl, fun v => rfl⟩⟩) (by decide) (fun A2 outer2 s2 H2 E2 f2 c2 hr2 => (pe_cx C_readSign hr2 (by decide) (by rfl) (pXE (E := E2) (takes_of rfl rfl rfl rfl)) (pa_cons pe_str pa_nil)))) pa_nil)))))
      (pss_one (ps_ret (pe_and (pe_cmpR (op_eqD hr.units) (pe_lc (own := [("value", 16)]) (by rfl) nd (pi_list (pv 14)) (blkOk_by (own := [("value", 16)]) (N := ["script", "pen", "some", "lap", "way", "text", "words", "turn", "spot", "other", "due", "told", "sign", "part", "odd", "heard", "value"]) (sc := defScope sLaw) (by decide +kernel)) (fun _ _ _ _ _ => (pg_name (i := 16) nd rfl (.inr rfl))) (fun _ _ _ _ _ => pts_nil) (fun _ _ _ _ _ => (pe_lamcall3 (T := LT PT) (P := PT) (k := 7) (by rfl) mH kH lkH cdH bH scHeard rfl visH (heard_gives G HC) TB (by rfl) (by exact List.mem_singleton.mpr rfl) (fun p hp _ => by rw [List.mem_singleton.mp hp]; rfl) (hr.mono (by decide)) (lamS3_by (by first | rfl | kernel_rfl)) (.inl ⟨rfl, rfl⟩) (.inl ⟨rfl, fun _ _ _ _ _ => rfl⟩) (by decide) (fun A2 outer2 s2 H2 E2 f2 c2 hr2 => (pe_cx C_readSign hr2 (by decide) (by rfl) (pXE (E := E2) (takes_of rfl rfl rfl rfl)) (pa_cons (pv 16) pa_nil)))))) (pe_op op_rep (pe_lst (pa_cons (pe_tup (pa_cons pe_str (pa_cons pe_int pa_nil))) pa_nil)) pe_int) (nomark _)) (pe_one (pe_cmpR (op_eqD hr.units) (pv 15) (pe_op op_rep (pe_lst (pa_cons (pe_tup (pa_cons pe_str (pa_cons pe_int pa_nil))) pa_nil)) pe_int) (nomark _)))))))))))), ?_⟩
    try dsimp only [Rd.cxK]
--BEGINW2
    walk_at "rd"
    refine ⟨a, ns, rfl, ha, by omega, fun p c H1 np nc hpen k1 => ?_⟩
    have hT1 := tabs_kp hT k1
    walk_at "rd"
    refine ⟨by show (27 : Nat) ≤ sizeLine; decide, fun sl nsl => ?_⟩
    walk_at "rd"
    have kl : Kp [] H1 (upd H1 sl (.lst [.str "o", .str "x", .str "*", .str "-", .str "2", .str "3", .str "120", .str "121", .str "1", .str "0", .str "02", .str "", .str " ", .str "+2", .str "-2", .str "2.", .str "x2", .str "O", .str "X", .str "**", .str "oo", .str "7", .str "19", .str "1200", .str "\t2", .str "2\n", .str "a"])) := (Kp.refl _ _).new nsl
    have lw0 : LW PT p c sl (upd H1 sl (.lst [.str "o", .str "x", .str "*", .str "-", .str "2", .str "3", .str "120", .str "121", .str "1", .str "0", .str "02", .str "", .str " ", .str "+2", .str "-2", .str "2.", .str "x2", .str "O", .str "X", .str "**", .str "oo", .str "7", .str "19", .str "1200", .str "\t2", .str "2\n", .str "a"])) 0 :=
      ⟨pen_keep kl hpen, upd_same, tabs_kp hT1 kl, fun z => by obtain ⟨_, _, a1, _⟩ := hpen; rw [z, nsl] at a1; cases a1⟩
    generalize upd H1 sl (.lst [.str "o", .str "x", .str "*", .str "-", .str "2", .str "3", .str "120", .str "121", .str "1", .str "0", .str "02", .str "", .str " ", .str "+2", .str "-2", .str "2.", .str "x2", .str "O", .str "X", .str "**", .str "oo", .str "7", .str "19", .str "1200", .str "\t2", .str "2\n", .str "a"]) = H2 at *
    clear kl hT1 hpen k1 hT
    refine r_cut (fun σ' H' => ∃ (at_ : Int) (o3 o4 o5 o6 o7 o8 o9 o10 o11 o12 o13 o14 o15 o16 : Option V), σ' = [some (.ref a), some (.ref p), some (.ref sl), o3, o4, o5, o6, o7, o8, o9, o10, o11, o12, o13, o14, o15, o16] ∧ LW PT p c sl H' at_) ?_ ?_
    · walk_at "rd"
      refine ⟨30, rfl, by decide, by decide, ?_⟩
      refine q_forR 0 30 (fun i σ' H' => ∃ (at_ : Int) (o3 o4 o5 o6 o7 o8 o9 o10 o11 o12 o13 o14 o15 o16 : Option V), σ' = [some (.ref a), some (.ref p), some (.ref sl), o3, o4, o5, o6, o7, o8, o9, o10, o11, o12, o13, o14, o15, o16] ∧ LW PT p c sl H' at_ ∧ at_ ≤ 100 * i) ⟨0, _, _, _, _, _, _, _, _, _, _, _, _, _, _, rfl, lw0, by omega⟩ (fun i σ' H' hi h' => ?_) (fun σ' H' h' => ?_)
      · obtain ⟨at0, o3, o4, o5, o6, o7, o8, o9, o10, o11, o12, o13, o14, o15, o16, rfl, lw, hat⟩ := h'
        walk_at "rd"
        refine ⟨p, c, 3, at0, rfl, lw.pen, by omega, by decide, by decide, fun way at1 H3 w0 w1 ha1 hp1 kd1 => ?_⟩
        have lw1 := lw.move kd1 hp1
        walk_at "rd"
        refine r_cut (fun σ' H' => ∃ (at_ : Int) (wl : Addr) (ws : List Str) (o7 o8 : Option V), σ' = [some (.ref a), some (.ref p), some (.ref sl), some (.int (0 + (i : Nat))), some (.int way), o5, some (.ref wl), o7, o8, o9, o10, o11, o12, o13, o14, o15, o16] ∧ LW PT p c sl H' at_ ∧ at_ ≤ 100 * i + 50 ∧ WordsAt H' wl ws ∧ ws.length ≤ 30) ?_ ?_
        · walk_at "rd"
          refine iteD (fun z0 => ?_) (fun z0 => ?_)
          · walk_at "rd"
            refine ⟨p, c, 7, at1, rfl, lw1.pen, by omega, by decide, by decide, fun n at2 H4 n0 n1 ha2 hp2 kd2 => ?_⟩
            have lw2 := lw1.move kd2 hp2
            walk_at "rd"
            refine q_lcR n0 (by omega) (fun D j H5 => ∃ (at3 : Int) (ws : List Str), PenAt H5 p c at3 ∧ Kp [p] H4 H5 ∧ at3 ≤ at2 + j ∧ WordsAt H5 D ws ∧ ws.length = j) (fun D nD => ⟨at2, [], pen_put hp2 nD hp2, (Kp.refl _ _).own nD, by omega, ⟨upd_same, fun y hy => absurd hy (by simp)⟩, rfl⟩) (fun D j H5 nD hj h5 => ?_) (fun D H5 nD h5 => ?_)
            · obtain ⟨at3, ws, hp5, k5, ha3, ⟨hD, hw⟩, hl5⟩ := h5
              have lw5 := lw2.move k5 hp5
              walk_at "rd"
              refine ⟨rfl, ?_⟩
              walk_at "rd"
              refine ⟨p, c, sl, _, at3, rfl, hp5, by omega, lw5.slH, lw5.ne, by decide, by decide, fun v at4 H6 hv ha4 hp6 k6 => ?_⟩
              obtain ⟨y, hy, rfl⟩ := List.mem_map.mp hv
              have hD6 := k6 D _ (pen_ne hp2 nD) hD
              refine ⟨_, hD6, by rw [sizeLine_eq, List.length_map]; omega, at4, ws ++ [y], pen_put hp2 nD hp6, (k5.trans k6).own nD, by omega, ⟨by rw [upd_same, List.map_append]; rfl, wok_app hw fun z hz => by rw [List.mem_singleton.mp hz]; exact someW_ok y hy⟩, by rw [List.length_append, hl5]; rfl⟩
            · obtain ⟨at3, ws, hp5, k5, ha3, hw, hl5⟩ := h5
              walk_at "rd"
              exact ⟨at3, D, ws, _, _, rfl, lw2.move k5 hp5, by omega, hw, by omega⟩
          · refine r_seq ?_
            refine r_asg (r_op (r_op (r_lst (r_cons (r_c (r_nil ⟨by show (1 : Nat) ≤ sizeLine; decide, fun b1 nb1 => ?_⟩))))))
            have kb1 : Kp [] H3 (upd H3 b1 (.lst [.str "o"])) := (Kp.refl _ _).new nb1
            have hb1 : (upd H3 b1 (.lst [.str "o"])) b1 = some (.lst [.str "o"]) := upd_same
            have nb1p : b1 ∉ [p] := pen_ne lw1.pen nb1
            have lwb := lw1.keep kb1
            generalize upd H3 b1 (.lst [.str "o"]) = H4 at *
            walk_at "rd"
            refine r_draw lwb (by omega) (by decide) (by decide) fun n at2 H5 n0 n1 ha2 lw2 k2 => ?_
            refine r_rep (k2 b1 _ nb1p hb1) n0 (by omega) (by rw [sizeLine_eq]; show 1 * n.toNat ≤ _; omega) fun b2 nb2 => ?_
            rw [rep_flat]
            have kb2 : Kp [] H5 (upd H5 b2 (.lst ((List.replicate n.toNat ("o" : Str)).map V.str))) := (Kp.refl _ _).new nb2
            have hb2 : (upd H5 b2 (.lst ((List.replicate n.toNat ("o" : Str)).map V.str))) b2 = some (.lst ((List.replicate n.toNat ("o" : Str)).map V.str)) := upd_same
            have lw3 := lw2.keep kb2
            have nb2p : b2 ∉ [p] := pen_ne lw2.pen nb2
            generalize upd H5 b2 (.lst ((List.replicate n.toNat ("o" : Str)).map V.str)) = H6 at *
            refine r_strs rfl lw3 (by omega) (by decide) (by decide) (by decide) (by decide) fun D ws1 at4 H7 hw1 hl1 ha4 lw4 k4 => ?_
            refine r_cat (k4 b2 _ nb2p hb2) hw1.1 (by rw [sizeLine_eq]; simp only [List.length_map, List.length_replicate]; omega) fun b3 nb3 => ?_
            rw [← List.map_append]
            have kb3 : Kp [] H7 (upd H7 b3 (.lst ((List.replicate n.toNat ("o" : Str) ++ ws1).map V.str))) := (Kp.refl _ _).new nb3
            have hw3 : WordsAt (upd H7 b3 (.lst ((List.replicate n.toNat ("o" : Str) ++ ws1).map V.str))) b3 (List.replicate n.toNat ("o" : Str) ++ ws1) := ⟨upd_same, wok_app (wok_rep wd_o _) hw1.2⟩
            have lw5 := lw4.keep kb3
            have hl3 : (List.replicate n.toNat ("o" : Str) ++ ws1).length ≤ 6 := by simp only [List.length_append, List.length_replicate]; omega
            generalize List.replicate n.toNat ("o" : Str) ++ ws1 = ws3 at *
            generalize upd H7 b3 (.lst (ws3.map V.str)) = H8 at *
            refine r_name rfl ?_
            refine r_cut (fun σ' H' => ∃ (at_ : Int) (wl : Addr) (ws : List Str) (o7 o8 : Option V), σ' = [some (.ref a), some (.ref p), some (.ref sl), some (.int (0 + (i : Nat))), some (.int way), o5, some (.ref wl), o7, o8, o9, o10, o11, o12, o13, o14, o15, o16] ∧ LW PT p c sl H' at_ ∧ at_ ≤ 100 * i + 40 ∧ WordsAt H' wl ws ∧ ws.length ≤ 24) ?_ ?_
            · walk_at "rd"
              refine r_draw lw5 (by omega) (by decide) (by decide) fun m at6 H9 m0 m1 ha6 lw6 k6 => ?_
              have hw6 : WordsAt H9 b3 ws3 := ⟨k6 b3 _ (fun z => by
                have := List.mem_singleton.mp z
                obtain ⟨_, _, g1, _⟩ := lw4.pen
                rw [this, g1] at nb3; cases nb3) hw3.1, hw3.2⟩
              refine ⟨m, rfl, by omega, by omega, ?_⟩
              refine q_forR 0 m.toNat (fun j σ' H' => ∃ (at_ : Int) (wl : Addr) (ws : List Str) (o7 o8 : Option V), σ' = [some (.ref a), some (.ref p), some (.ref sl), some (.int (0 + (i : Nat))), some (.int way), o5, some (.ref wl), o7, o8, o9, o10, o11, o12, o13, o14, o15, o16] ∧ LW PT p c sl H' at_ ∧ at_ ≤ at6 + 5 * j ∧ WordsAt H' wl ws ∧ ws.length ≤ 6 + 5 * j) ⟨at6, b3, ws3, _, _, rfl, lw6, by omega, hw6, by omega⟩ (fun j σ' H' hj h' => ?_) (fun σ' H' h' => ?_)
              · obtain ⟨at7, wl, ws, o7', o8', rfl, lw7, ha7, hw7, hl7⟩ := h'
                refine r_name rfl ?_
                refine r_asg (r_op (r_op (r_var rfl (r_lst (r_cons (r_c (r_nil ⟨by show (1 : Nat) ≤ sizeLine; decide, fun b4 nb4 => ?_⟩)))))))
                have kb4 : Kp [] H' (upd H' b4 (.lst [.str "*"])) := (Kp.refl _ _).new nb4
                refine r_cat (kb4.get hw7.1) upd_same (by rw [sizeLine_eq, List.length_map]; show ws.length + 1 ≤ _; omega) fun b5 nb5 => ?_
                have kb5 : Kp [] H' (upd (upd H' b4 (.lst [.str "*"])) b5 (.lst (ws.map V.str ++ [.str "*"]))) := kb4.new nb5
                have hw8 : WordsAt (upd (upd H' b4 (.lst [.str "*"])) b5 (.lst (ws.map V.str ++ [.str "*"]))) b5 (ws ++ [("*" : Str)]) := ⟨by rw [upd_same, List.map_append]; rfl, wok_app hw7.2 (wok_one wd_s)⟩
                have lw8 := lw7.keep kb5
                have nb5p : b5 ∉ [p] := pen_ne (pen_keep kb4 lw7.pen) nb5
                generalize upd (upd H' b4 (.lst [.str "*"])) b5 (.lst (ws.map V.str ++ [.str "*"])) = H10 at *
                refine r_strs rfl lw8 (by omega) (by decide) (by decide) (by decide) (by decide) fun D ws2 at9 H11 hw9 hl9 ha9 lw9 k9 => ?_
                refine r_cat (k9 b5 _ nb5p hw8.1) hw9.1 (by rw [sizeLine_eq]; simp only [List.length_map, List.length_append, List.length_cons, List.length_nil]; omega) fun b6 nb6 => ?_
                refine r_name rfl ?_
                exact ⟨at9, b6, ws ++ [("*" : Str)] ++ ws2, _, _, rfl, lw9.keep ((Kp.refl _ _).new nb6), by omega, ⟨by rw [upd_same]; simp only [List.map_append], wok_app hw8.2 hw9.2⟩, by simp only [List.length_append, List.length_cons, List.length_nil]; omega⟩
              · obtain ⟨at7, wl, ws, o7', o8', rfl, lw7, ha7, hw7, hl7⟩ := h'
                exact ⟨at7, wl, ws, _, _, rfl, lw7, by omega, hw7, by omega⟩
            · rintro σ' H' ⟨at7, wl, ws, o7', o8', rfl, lw7, ha7, hw7, hl7⟩
              refine r_asg (r_op (r_var rfl (r_op (r_lst (r_cons (r_c (r_nil ⟨by show (1 : Nat) ≤ sizeLine; decide, fun b4 nb4 => ?_⟩)))))))
              have kb4 : Kp [] H' (upd H' b4 (.lst [.str "x"])) := (Kp.refl _ _).new nb4
              have hb4 : (upd H' b4 (.lst [.str "x"])) b4 = some (.lst [.str "x"]) := upd_same
              have lw8 := lw7.keep kb4
              have hw8 : WordsAt (upd H' b4 (.lst [.str "x"])) wl ws := ⟨kb4.get hw7.1, hw7.2⟩
              have nb4p : b4 ∉ [p] := pen_ne lw7.pen nb4
              generalize upd H' b4 (.lst [.str "x"]) = H10 at *
              walk_at "rd"
              refine ⟨by show (4 : Nat) ≤ sizeLine; decide, fun b5 nb5 => ?_⟩
              have kb5 : Kp [] H10 (upd H10 b5 (.lst [.int 0, .int 0, .int 1, .int 2])) := (Kp.refl _ _).new nb5
              have hb5 : (upd H10 b5 (.lst [.int 0, .int 0, .int 1, .int 2])) b5 = some (.lst [.int 0, .int 0, .int 1, .int 2]) := upd_same
              have lw9 := lw8.keep kb5
              have hw9 : WordsAt (upd H10 b5 (.lst [.int 0, .int 0, .int 1, .int 2])) wl ws := ⟨kb5.get hw8.1, hw8.2⟩
              have nb5p : p ≠ b5 := fun z => (pen_ne lw8.pen nb5) (List.mem_singleton.mpr z.symm)
              have hb4' := kb5.get hb4
              have nwl : wl ∉ [p] := fun z => by
                obtain ⟨_, _, g1, _⟩ := lw9.pen
                have := hw9.1
                rw [List.mem_singleton.mp z, g1] at this
                have := HO.lst.inj (Option.some.inj this)
                cases ws with
                | nil => cases this
                | cons y t => cases (List.cons.inj this).1
              generalize upd H10 b5 (.lst [.int 0, .int 0, .int 1, .int 2]) = H11 at *
              walk_at "rd"
              refine r_pick lw9 (by omega) hb5 nb5p (by simp) (by decide) fun v at10 H12 hv ha10 lw10 k10 => ?_
              obtain ⟨n2, rfl, n20, n21⟩ : ∃ n2 : Int, v = .int n2 ∧ 0 ≤ n2 ∧ n2 ≤ 2 := by
                simp only [List.mem_cons, List.not_mem_nil, or_false] at hv
                rcases hv with rfl | rfl | rfl | rfl
                · exact ⟨0, rfl, by decide, by decide⟩
                · exact ⟨0, rfl, by decide, by decide⟩
                · exact ⟨1, rfl, by decide, by decide⟩
                · exact ⟨2, rfl, by decide, by decide⟩
              refine r_rep (k10 b4 _ nb4p hb4') n20 (by omega) (by rw [sizeLine_eq]; show 1 * n2.toNat ≤ _; omega) fun b6 nb6 => ?_
              rw [rep_flat]
              have kb6 : Kp [] H12 (upd H12 b6 (.lst ((List.replicate n2.toNat ("x" : Str)).map V.str))) := (Kp.refl _ _).new nb6
              refine r_cat (kb6.get (k10 wl _ nwl hw9.1)) upd_same (by rw [sizeLine_eq]; simp only [List.length_map, List.length_replicate]; omega) fun b7 nb7 => ?_
              refine r_name rfl ?_
              exact ⟨at10, b7, ws ++ List.replicate n2.toNat ("x" : Str), _, _, rfl, lw10.keep (kb6.new nb7), by omega, ⟨by rw [upd_same, List.map_append], wok_app hw9.2 (wok_rep wd_x _)⟩, by simp only [List.length_append, List.length_replicate]; omega⟩
        · rintro σ' H4 ⟨at2, wl, ws, o7', o8', rfl, lw2, ha2, hw2, hl2⟩
          clear lw1 hp1 kd1
          refine r_cut (fun σ' H' => ∃ (at_ : Int) (wl : Addr) (ws : List Str) (o7 o8 o9 : Option V), σ' = [some (.ref a), some (.ref p), some (.ref sl), some (.int (0 + (i : Nat))), some (.int way), o5, some (.ref wl), o7, o8, o9, o10, o11, o12, o13, o14, o15, o16] ∧ LW PT p c sl H' at_ ∧ at_ ≤ 100 * i + 60 ∧ WordsAt H' wl ws ∧ ws.length ≤ 62) ?_ ?_
          · walk_at "rd"
            refine iteD (fun z0 => ?_) (fun z0 => ?_)
            · have hwl := hw2.1
              walk_at "rd"
              rw [List.length_map]
              refine r_draw lw2 (by omega) (by omega) (by omega) fun spot at3 H5 s0 s1 ha3 lw3 k3 => ?_
              have hw3 := WordsAt.move lw2 hw2 k3
              walk_at "rd"
              refine r_pick lw3 (by omega) lw3.slH lw3.ne (by decide) (by decide) fun v at4 H6 hv ha4 lw4 k4 => ?_
              obtain ⟨y, hy, rfl⟩ := List.mem_map.mp hv
              have hw4 := WordsAt.move lw3 hw3 k4
              walk_at "rd"
              refine r_slW hw4 fun A1 u1 K1 hA1 lA1 kA1 => ?_
              walk_at "rd"
              refine ⟨by show (1 : Nat) ≤ sizeLine; decide, fun B1 nB1 => ?_⟩
              have kB1 : Kp [] K1 (upd K1 B1 (.lst [.str y])) := (Kp.refl _ _).new nB1
              have hB1 : WordsAt (upd K1 B1 (.lst [.str y])) B1 [y] := ⟨upd_same, wok_some hy⟩
              generalize upd K1 B1 (.lst [.str y]) = K2 at *
              refine r_catW (hA1.keep kB1) hB1 (by omega) (by show (1 : Nat) ≤ 1000; decide) fun C1 K3 hC1 kC1 => ?_
              have k13 := (kA1.trans kB1).trans kC1
              walk_at "rd"
              refine r_slW (hw4.keep k13) fun D1 u2 K4 hD1 lD1 kD1 => ?_
              refine r_catW (hC1.keep kD1) hD1 (by rw [List.length_append]; show u1.length + 1 ≤ _; omega) (by omega) fun E1 K5 hE1 kE1 => ?_
              have k15 := (k13.trans kD1).trans kE1
              walk_at "rd"
              refine r_slW (hw4.keep k15) fun A2 u3 K6 hA2 lA2 kA2 => ?_
              walk_at "rd"
              refine r_slW (hw4.keep (k15.trans kA2)) fun D2 u4 K7 hD2 lD2 kD2 => ?_
              refine r_catW (hA2.keep kD2) hD2 (by omega) (by omega) fun E2' K8 hE2 kE2 => ?_
              have k18 := ((k15.trans kA2).trans kD2).trans kE2
              have k58 := (kA2.trans kD2).trans kE2
              walk_at "rd"
              refine r_slW (hw4.keep k18) fun A3 u5 K9 hA3 lA3 kA3 => ?_
              walk_at "rd"
              refine ⟨by show (1 : Nat) ≤ sizeLine; decide, fun B3 nB3 => ?_⟩
              have kB3 : Kp [] K9 (upd K9 B3 (.lst [.str y])) := (Kp.refl _ _).new nB3
              have hB3 : WordsAt (upd K9 B3 (.lst [.str y])) B3 [y] := ⟨upd_same, wok_some hy⟩
              generalize upd K9 B3 (.lst [.str y]) = K10 at *
              refine r_catW (hA3.keep kB3) hB3 (by omega) (by show (1 : Nat) ≤ 1000; decide) fun C3 K11 hC3 kC3 => ?_
              have k811 := (kA3.trans kB3).trans kC3
              walk_at "rd"
              refine r_slW (hw4.keep (k18.trans k811)) fun D3 u6 K12 hD3 lD3 kD3 => ?_
              refine r_catW (hC3.keep kD3) hD3 (by rw [List.length_append]; show u5.length + 1 ≤ _; omega) (by omega) fun E3 K13 hE3 kE3 => ?_
              have k813 := (k811.trans kD3).trans kE3
              walk_at "rd"
              refine ⟨by show (3 : Nat) ≤ sizeLine; decide, fun L nL => ?_⟩
              have kL : Kp [] K13 (upd K13 L (.lst [.ref E1, .ref E2', .ref E3])) := (Kp.refl _ _).new nL
              have hL : (upd K13 L (.lst [.ref E1, .ref E2', .ref E3])) L = some (.lst [.ref E1, .ref E2', .ref E3]) := upd_same
              have lw5 := lw4.keep ((k18.trans k813).trans kL)
              have g1 := hE1.keep ((k58.trans k813).trans kL)
              have g2 := hE2.keep (k813.trans kL)
              have g3 := hE3.keep kL
              have nLp : p ≠ L := fun z => (pen_ne (lw4.keep (k18.trans k813)).pen nL) (List.mem_singleton.mpr z.symm)
              generalize upd K13 L (.lst [.ref E1, .ref E2', .ref E3]) = K14 at *
              walk_at "rd"
              refine r_pick lw5 (by omega) hL nLp (by simp) (by show (3 : Nat) < 1000; decide) fun v at6 H8 hv ha6 lw6 k6 => ?_
              simp only [List.mem_cons, List.not_mem_nil, or_false] at hv
              rcases hv with rfl | rfl | rfl
              · exact r_name rfl ⟨at6, E1, _, _, _, _, rfl, lw6, by omega, WordsAt.move lw5 g1 k6, by simp only [List.length_append, List.length_cons, List.length_nil]; omega⟩
              · exact r_name rfl ⟨at6, E2', _, _, _, _, rfl, lw6, by omega, WordsAt.move lw5 g2 k6, by simp only [List.length_append]; omega⟩
              · exact r_name rfl ⟨at6, E3, _, _, _, _, rfl, lw6, by omega, WordsAt.move lw5 g3 k6, by simp only [List.length_append, List.length_cons, List.length_nil]; omega⟩
            · walk_at "rd"
              exact ⟨at2, wl, ws, _, _, _, rfl, lw2, by omega, hw2, by omega⟩
          · rintro σ' H5 ⟨at3, wl3, ws, o7', o8', o9', rfl, lw3, ha3, hw3, hl3⟩
            clear lw2 ha2 hw2 hl2 ha1 w0 w1 hat lw
            walk_at "rd"
            have hsum : (ws.map (·.length)).sum ≤ 4 * ws.length := sum4 fun y hy => (hw3.2 y hy).1
            refine ⟨_, wl3, ws, rfl, rfl, .inl (sqL_of hw3.1), by show _ + ws.length * 1 ≤ _; omega, ?_⟩
            have hxl : (Txt.join " " ws).length ≤ 310 := by have := join_len ws; omega
            have hxc : PyData.canLay0 (.str (Txt.join " " ws)) = true := join_lay ws fun y hy => (hw3.2 y hy).2
            generalize Txt.join " " ws = x at *
            have hn : (Txt.split x " ").length ≤ 311 := by have := split_len x; omega
            refine r_name rfl ?_
            walk_at "rd"
            refine ⟨x, rfl, by omega, by omega, fun y hy => ⟨Nat.le_trans (split_word x y hy) (by omega), split_lay x hxc y hy⟩, ?_⟩
            rw [lawRead_eq _ (split_ne x)]
            generalize er : readP (Txt.split x " ") = r at *
            cases r with
            | inl r =>
              intro dp H6 hdp k6
              refine r_cons (r_hear (x := x) (lw3.keep k6).tabs (fun H2 _ nx q => ?_) (by omega) (by omega) ?_)
              · exact r_var rfl (q _ (Kp.refl _ _))
              rw [er]
              intro tp H7 htp e7 t7
              have lw7 := (lw3.keep k6).ext e7 t7
              have hdp7 := ext_tup e7 hdp
              refine r_par2 rfl ?_
              refine r_cut (fun _ _ => False) ?_ (fun _ _ z => z.elim)
              walk_at "rd"
              refine ⟨dp, _, 0, _, rfl, rfl, sqT_of hdp7, rfl, ?_⟩
              walk_at "rd"
              refine r_eqD (.str _) (.str _) sh_str sh_str ?_
              rw [eqv_ss]
              walk_at "rd"
              refine r_neD (dp_txt htp) (dp_txt hdp7) (sh_txt _) (sh_txt _) ?_
              rw [eqv_txt]
              walk_at "rd"
              exact ⟨at3, _, _, _, _, _, _, _, _, _, _, _, _, _, _, rfl, lw7, by omega⟩
            | inr r =>
              obtain ⟨h, c2, cs, rs⟩ := r
              intro dp da db ps H6 hdp hda hdb hps hrs k6
              refine r_cons (r_hear (x := x) (lw3.keep k6).tabs (fun H2 _ nx q => ?_) (by omega) (by omega) ?_)
              · exact r_var rfl (q _ (Kp.refl _ _))
              rw [er]
              have g := good_of er (split_ne x)
              have gl := g.len
              refine ⟨fun _ _ tp s7 H7 hs7 htp e7 t7 => ?_, fun z => by omega, fun _ z => by omega⟩
              have lw7 := (lw3.keep k6).ext e7 t7
              have hdp7 := ext_tup e7 hdp
              have hda7 := ext_lst e7 hda
              have hdb7 := ext_lst e7 hdb
              have hps7 := fun q hq => ext_lst e7 (hps q hq)
              clear hdp hda hdb hps
              refine r_par2 rfl ?_
              refine r_cut (fun σ' H' => σ' = [some (.ref a), some (.ref p), some (.ref sl), some (.int (0 + (i : Nat))), some (.int way), some (.str x), some (.ref wl3), o7', o8', o9', some (.ref dp), some (.ref tp), o12, o13, o14, o15, o16] ∧ H' = H7) ?_ ?_
              · walk_at "rd"
                refine ⟨dp, _, 0, _, rfl, rfl, sqT_of hdp7, rfl, ?_⟩
                walk_at "rd"
                refine r_eqD (.int _) (.str _) rfl sh_str ?_
                rw [eqv_is]
                walk_at "rd"
                exact ⟨rfl, rfl⟩
              · rintro σ' H' ⟨rfl, rfl⟩
                walk_at "rd"
                refine r_isi (.ty "list") (.base (.lst htp)) rfl ?_
                walk_at "rd"
                refine ⟨dp, _, 0, _, rfl, rfl, sqT_of hdp7, rfl, ?_⟩
                walk_at "rd"
                refine ⟨dp, _, 1, _, rfl, rfl, sqT_of hdp7, rfl, ?_⟩
                walk_at "rd"
                refine ⟨dp, _, 2, _, rfl, rfl, sqT_of hdp7, rfl, ?_⟩
                walk_at "rd"
                refine ⟨dp, _, 3, _, rfl, rfl, sqT_of hdp7, rfl, ?_⟩
                walk_at "rd"
                have hcl : cs.length ≤ 1000 := by omega
                have hrl := rings_len rs
                intro s8 dx8 ns8 ndx8 ne8
                have k4 : Kp [] H' (upd (upd H' dx8 (.own s8)) s8 (.ins CS dx8 [])) := ((Kp.refl _ _).own ndx8).own ns8
                refine ⟨s8, dx8, da, db, (h : Nat), (c2 : Nat), cs, rs, rfl, upd_same, by omega, by omega, by have := g.hc; omega, .inl (k4.get hda7), g.ocs0, hcl, ⟨ps, .inl (k4.get hdb7), fun q hq => ⟨.inl (k4.get (hps7 q hq)), g.ors0 q.2 (by rw [← hrs]; exact List.mem_map.mpr ⟨q, hq, rfl⟩), by have := hrl.2 q.2 (by rw [← hrs]; exact List.mem_map.mpr ⟨q, hq, rfl⟩); omega⟩, hrs, by have := hrl.1; rw [← hrs, List.length_map] at this; rw [← hrs] at gl; omega⟩, fun _ _ H8 hs8 kk => ⟨rfl, ?_⟩, fun z => by omega, fun _ z => by omega⟩
                have k78 := kp_made ns8 ndx8 kk
                have hsl : (sortI cs).length ≤ 1000 := by rw [sortI_len]; exact hcl
                refine r_ownNeS (hs7.keep k78) hs8 hsl fun H9 k9 => ?_
                have k79 := k78.trans k9
                clear hs8 kk k78 k9 k4
                have hs9 := hs7.keep k79
                have htp9 := k79.get htp
                have lw9 := lw7.keep k79
                clear hdp7 hda7 hdb7 hps7 hs7 htp lw7 hrs
                walk_at "rd"
                refine ⟨s7, h, c2, sortI cs, _, rfl, hs9, g.ocs, g.ors, by have := g.len3; omega, fun H10 k10 => ?_⟩
                have hs10 := hs9.keep k10
                have htp10 := k10.get htp9
                walk_at "rd"
                refine .inl ⟨_, rfl, by have := g.slen; omega, split_ne _, by have := g.len2; omega, fun y hy => by have := (g.wd2 y hy).2; omega, ?_⟩
                rw [g.again]
                refine ⟨fun _ _ s11 H11 hs11 k11 => ?_, fun z => by omega, fun _ z => by omega⟩
                rw [g.s2, g.r2] at hs11
                have htp11 := k11.get htp10
                walk_at "rd"
                refine r_ownNeS hs11 (hs10.keep k11) hsl fun H12 k12 => ?_
                have k712 := (k10.trans k11).trans k12
                have hs12 := hs9.keep k712
                have htp12 := k712.get htp9
                have lw12 := lw9.keep k712
                clear hs11 k11 k12 hs10 htp10 htp11 k10 hs9 htp9 lw9 k712
                walk_at "rd"
                refine r_callK (r_nil (r_cons (r_var rfl (r_nil ?_))))
                refine .inl ⟨x, rfl, by omega, split_ne _, by omega, fun y hy => Nat.le_trans (split_word x y hy) (by omega), ?_⟩
                rw [er]
                refine ⟨fun _ _ s13 H13 hs13 k13 => ?_, fun z => by omega, fun _ z => by omega⟩
                have htp13 := k13.get htp12
                walk_at "rd"
                refine r_ownNeS hs13 (hs12.keep k13) hsl fun H14 k14 => ?_
                have k1214 := k13.trans k14
                have hs14 := hs12.keep k1214
                have htp14 := k1214.get htp12
                have lw14 := lw12.keep k1214
                clear hs13 k13 k14 htp13 htp12 hs12 lw12 k1214
                walk_at "rd"
                refine ⟨s7, h, c2, sortI cs, _, rfl, hs14, g.ocs, g.ors, by have := g.len3; omega, fun H15 k15 => ?_⟩
                have lw15 := lw14.keep k15
                walk_at "rd"
                refine ⟨_, " ", rfl, rfl, rfl, by have := g.slen; rw [sizeLine_eq]; omega, fun b1 nb1 => ?_⟩
                have kb1 : Kp [] H15 (upd H15 b1 (.lst ((Txt.split (signT h c2 (sortI cs) (sortR (rs.map leastRing))) " ").map V.str))) := (Kp.refl _ _).new nb1
                have hb1 : (upd H15 b1 (.lst ((Txt.split (signT h c2 (sortI cs) (sortR (rs.map leastRing))) " ").map V.str))) b1 = some (.lst ((Txt.split (signT h c2 (sortI cs) (sortR (rs.map leastRing))) " ").map V.str)) := upd_same
                generalize upd H15 b1 (.lst ((Txt.split (signT h c2 (sortI cs) (sortR (rs.map leastRing))) " ").map V.str)) = H16 at *
                walk_at "rd"
                refine ⟨b1, _, rfl, .inl (sqL_of hb1), fun b2 nb2 => ?_⟩
                rw [g.srt]
                have kb2 : Kp [] H16 (upd H16 b2 (.lst (((Txt.split x " ").mergeSort leS).map V.str))) := (Kp.refl _ _).new nb2
                have hb2 : (upd H16 b2 (.lst (((Txt.split x " ").mergeSort leS).map V.str))) b2 = some (.lst (((Txt.split x " ").mergeSort leS).map V.str)) := upd_same
                generalize upd H16 b2 (.lst (((Txt.split x " ").mergeSort leS).map V.str)) = H17 at *
                walk_at "rd"
                refine ⟨_, " ", rfl, rfl, rfl, by rw [sizeLine_eq]; omega, fun b3 nb3 => ?_⟩
                have kb3 : Kp [] H17 (upd H17 b3 (.lst ((Txt.split x " ").map V.str))) := (Kp.refl _ _).new nb3
                have hb3 : (upd H17 b3 (.lst ((Txt.split x " ").map V.str))) b3 = some (.lst ((Txt.split x " ").map V.str)) := upd_same
                generalize upd H17 b3 (.lst ((Txt.split x " ").map V.str)) = H18 at *
                walk_at "rd"
                refine ⟨b3, _, rfl, .inl (sqL_of hb3), fun b4 nb4 => ?_⟩
                have kb4 : Kp [] H18 (upd H18 b4 (.lst (((Txt.split x " ").mergeSort leS).map V.str))) := (Kp.refl _ _).new nb4
                have hok : ∀ y ∈ (Txt.split x " ").mergeSort leS, PyData.canLay0 (.str y) = true := fun y hy => g.wd y (List.mem_mergeSort.mp hy)
                refine r_neD (.lst (sqL_of ((kb3.trans kb4).get hb2)) (dpStrs _)) (.lst (sqL_of upd_same) (dpStrs _)) (shStrs _ hok) (shStrs _ hok) ?_
                show ∃ _, _
                have e0 : PyData.eqv (.list (((Txt.split x " ").mergeSort leS).map PyData.str)) (.list (((Txt.split x " ").mergeSort leS).map PyData.str)) = true := (eqvStrs _ _).trans (decide_eq_true rfl)
                rw [e0]
                walk_at "rd"
                exact ⟨at3, _, _, _, _, _, _, _, _, _, _, _, _, _, _, rfl, lw15.keep (((kb1.trans kb2).trans kb3).trans kb4), by omega⟩
      · obtain ⟨at0, o3, o4, o5, o6, o7, o8, o9, o10, o11, o12, o13, o14, o15, o16, rfl, lw, hat⟩ := h'
        exact ⟨at0, _, _, _, _, _, _, _, _, _, _, _, _, _, _, rfl, lw⟩
    · rintro σ' H2' ⟨at0, o3, o4, o5, o6, o7, o8, o9, o10, o11, o12, o13, o14, o15, o16, rfl, lw⟩
      clear lw0
      refine r_cut (fun σ' H' => ∃ (at_ : Int) (o3 o4 o5 o6 o7 o8 o9 o10 o11 o12 o13 o14 o15 o16 : Option V), σ' = [some (.ref a), some (.ref p), some (.ref sl), o3, o4, o5, o6, o7, o8, o9, o10, o11, o12, o13, o14, o15, o16] ∧ LW PT p c sl H' at_) ?_ ?_
      · walk_at "rd"
        refine ⟨by show (2 : Nat) ≤ sizeLine; decide, fun t1 nt1 => ?_⟩
        walk_at "rd"
        refine ⟨by show (2 : Nat) ≤ sizeLine; decide, fun t2 nt2 => ?_⟩
        walk_at "rd"
        refine ⟨by show (2 : Nat) ≤ sizeLine; decide, fun tt ntt => ?_⟩
        have kt : Kp [] H2' (upd (upd (upd H2' t1 (.tup [.str "o", .str "handles"])) t2 (.tup [.str "x", .str "caps"])) tt (.tup [.ref t1, .ref t2])) := (((Kp.refl _ _).new nt1).new nt2).new ntt
        have ht1 : (upd (upd (upd H2' t1 (.tup [.str "o", .str "handles"])) t2 (.tup [.str "x", .str "caps"])) tt (.tup [.ref t1, .ref t2])) t1 = some (.tup [.str "o", .str "handles"]) := (((Kp.refl _ _).new nt2).new ntt : Kp [] (upd H2' t1 (.tup [.str "o", .str "handles"])) _).get upd_same
        have ht2 : (upd (upd (upd H2' t1 (.tup [.str "o", .str "handles"])) t2 (.tup [.str "x", .str "caps"])) tt (.tup [.ref t1, .ref t2])) t2 = some (.tup [.str "x", .str "caps"]) := ((Kp.refl _ _).new ntt : Kp [] (upd (upd H2' t1 (.tup [.str "o", .str "handles"])) t2 (.tup [.str "x", .str "caps"])) _).get upd_same
        have htt : (upd (upd (upd H2' t1 (.tup [.str "o", .str "handles"])) t2 (.tup [.str "x", .str "caps"])) tt (.tup [.ref t1, .ref t2])) tt = some (.tup [.ref t1, .ref t2]) := upd_same
        have lw1 := lw.keep kt
        clear lw kt
        generalize upd (upd (upd H2' t1 (.tup [.str "o", .str "handles"])) t2 (.tup [.str "x", .str "caps"])) tt (.tup [.ref t1, .ref t2]) = H3 at *
        refine q_forT [(t1, ("o" : Str), ("handles" : Str)), (t2, ("x" : Str), ("caps" : Str))] (fun q => V.ref q.1) (fun pre σ' H' => (∃ (at_ : Int) (o3 o4 o5 o6 o7 o8 o9 o10 o11 o12 o13 o14 o15 o16 : Option V), σ' = [some (.ref a), some (.ref p), some (.ref sl), o3, o4, o5, o6, o7, o8, o9, o10, o11, o12, o13, o14, o15, o16] ∧ LW PT p c sl H' at_) ∧ H' t1 = some (.tup [.str "o", .str "handles"]) ∧ H' t2 = some (.tup [.str "x", .str "caps"]) ∧ H' tt = some (.tup [.ref t1, .ref t2])) (sqT_of htt) ⟨⟨at0, _, _, _, _, _, _, _, _, _, _, _, _, _, _, rfl, lw1⟩, ht1, ht2, htt⟩ (fun pre σ' H' h' => sqT_of h'.2.2.2) (fun pre x post σ' H' e h' => ?_) (fun σ' H' h' => h'.1)
        obtain ⟨⟨at1, o3', o4', o5', o6', o7', o8', o9', o10', o11', o12', o13', o14', o15', o16', rfl, lw⟩, g1, g2, g3⟩ := h'
        obtain ⟨hx, hso⟩ : H' x.1 = some (.tup [.str x.2.1, .str x.2.2]) ∧ SignOf x.2.1 x.2.2 := by
          have hx : x ∈ [(t1, ("o" : Str), ("handles" : Str)), (t2, ("x" : Str), ("caps" : Str))] := by rw [e]; simp
          simp only [List.mem_cons, List.not_mem_nil, or_false] at hx
          rcases hx with rfl | rfl
          · exact ⟨g1, .inl ⟨rfl, rfl⟩⟩
          · exact ⟨g2, .inr ⟨rfl, rfl⟩⟩
        obtain ⟨tx1, s, part⟩ := x
        dsimp only at hx hso ⊢
        have hs1 := hso.len
        refine ⟨tx1, _, rfl, sqT_of hx, rfl, _, _, rfl, r_name rfl ⟨_, _, rfl, r_name rfl ⟨rfl, ?_⟩⟩⟩
        clear hx lw1 ht1 ht2 htt
        have hsum : ∀ n, ((List.replicate n s).map (·.length)).sum = n := fun n => by rw [rep_sum, hs1, Nat.mul_one]
        walk_at "rd"
        refine ⟨⟨_, rfl⟩, ?_⟩
        walk_at "rd"
        refine ⟨by show (1 : Nat) ≤ sizeLine; decide, fun b1 nb1 => ?_⟩
        have kb1 : Kp [] H' (upd H' b1 (.lst [.str s])) := (Kp.refl _ _).new nb1
        refine r_c (r_repS (k := 600) upd_same (by decide) fun b2 H4 hb2 k4 => ?_)
        have k04 := kb1.trans k4
        walk_at "rd"
        refine ⟨_, b2, _, rfl, rfl, .inl (sqL_of hb2), by rw [hsum, List.length_replicate]; decide, ?_⟩
        walk_at "rd"
        have hjl := join_rep_len 600 hs1
        refine .inl ⟨_, rfl, by omega, split_ne _, by rw [split_rep s hso.ox 600 (by decide), List.length_replicate]; decide, fun y hy => Nat.le_trans (split_word _ y hy) (by omega), read_600 hso fun s5 H5 hs5 k5 => ?_⟩
        have k05 := k04.trans k5
        obtain ⟨dx, pc, pm, pp, h5, hd5⟩ := sig_parts hs5
        refine ⟨s5, CS, dx, _, .ref pp, rfl, h5, S.cls, S.np, rfl, ?_⟩
        refine r_tup600 (K := K) rfl fun t6 H6 hd6 k6 => ?_
        have k06 := k05.trans k6
        refine r_neD (dpI_keep k6 hd5) hd6 (sh_sig _ _ _ _) (sh_sig _ _ _ _) ?_
        rw [eqv_sig, decide_eq_true ⟨rfl, rfl, rfl, rfl⟩]
        walk_at "rd"
        have lw6 := lw.keep k06
        refine r_hear (x := Txt.join " " (List.replicate 601 s)) lw6.tabs (fun G2 eG nx q => ?_) (by have := join_rep_len 601 hs1; omega) (by rw [split_rep s hso.ox 601 (by decide), List.length_replicate]; decide) (hear_601 hso fun tp H7 htp e7 t7 => ?_)
        · refine r_m1 (r_c ⟨⟨_, rfl⟩, r_op (r_lst (r_cons (r_var (v := .str s) rfl (r_nil ⟨by show (1 : Nat) ≤ sizeLine; decide, fun b3 nb3 => ?_⟩))))⟩)
          have kb3 : Kp [] G2 (upd G2 b3 (.lst [.str s])) := (Kp.refl _ _).new nb3
          refine r_c (r_repS (k := 601) upd_same (by decide) fun b4 G4 hb4 k4 => ?_)
          exact ⟨_, b4, _, rfl, rfl, .inl (sqL_of hb4), by rw [hsum, List.length_replicate]; decide, q _ (kb3.trans k4)⟩
        have lw7 := lw6.ext e7 t7
        have g17 := ext_tup e7 (k06.get g1)
        have g27 := ext_tup e7 (k06.get g2)
        have g37 := ext_tup e7 (k06.get g3)
        clear lw lw6 g1 g2 g3 k06 k6 hd5 hd6 h5 k05 hs5 k5 k04 k4 hb2 kb1
        walk_at "rd"
        refine ⟨by show (2 : Nat) ≤ sizeLine; decide, fun t8 nt8 => ?_⟩
        have k8 : Kp [] H7 (upd H7 t8 (.tup [.str "number", .str part])) := (Kp.refl _ _).new nt8
        refine r_neD (.tup (sqT_of (k8.get htp)) (.cons (.str _) (.cons (.str _) .nil))) (.tup (sqT_of upd_same) (.cons (.str _) (.cons (.str _) .nil))) (sh_num hso) (sh_num hso) ?_
        rw [eqv_num hso]
        walk_at "rd"
        have lw8 := lw7.keep k8
        have g18 := k8.get g17
        have g28 := k8.get g27
        have g38 := k8.get g37
        generalize upd H7 t8 (.tup [.str "number", .str part]) = H8 at *
        clear lw7 g17 g27 g37 k8 htp
        refine r_hear (x := Txt.join " " (List.replicate 601 s ++ [("y" : Str)])) lw8.tabs (fun G2 eG nx q => ?_) (by have := join_repy_len 601 hs1; omega) (by rw [split_repy s hso.ox, List.length_append, List.length_replicate]; decide) (hear_y hso fun tp H9 htp e9 t9 => ?_)
        · refine r_m1 (r_c ⟨⟨_, rfl⟩, r_op (r_op (r_lst (r_cons (r_var (v := .str s) rfl (r_nil ⟨by show (1 : Nat) ≤ sizeLine; decide, fun b3 nb3 => ?_⟩)))))⟩)
          have kb3 : Kp [] G2 (upd G2 b3 (.lst [.str s])) := (Kp.refl _ _).new nb3
          refine r_c (r_repS (k := 601) upd_same (by decide) fun b4 G4 hb4 k4 => r_lst (r_cons (r_c (r_nil ⟨by show (1 : Nat) ≤ sizeLine; decide, fun b5 nb5 => ?_⟩))))
          have kb5 : Kp [] G4 (upd G4 b5 (.lst [.str "y"])) := (Kp.refl _ _).new nb5
          refine r_cat (kb5.get hb4) upd_same (by rw [sizeLine_eq, List.length_map, List.length_replicate]; decide) fun b6 nb6 => ?_
          have hb6 : (upd (upd G4 b5 (.lst [.str "y"])) b6 (.lst ((List.replicate 601 s).map V.str ++ [V.str "y"]))) b6 = some (.lst ((List.replicate 601 s ++ [("y" : Str)]).map V.str)) := by rw [upd_same, List.map_append]; rfl
          exact ⟨_, b6, _, rfl, rfl, .inl (sqL_of hb6), by rw [List.map_append, List.sum_append, hsum, List.length_append, List.length_replicate]; decide, q _ ((kb3.trans k4).trans (kb5.new nb6))⟩
        have lw9 := lw8.ext e9 t9
        have g19 := ext_tup e9 g18
        have g29 := ext_tup e9 g28
        have g39 := ext_tup e9 g38
        walk_at "rd"
        refine ⟨by show (2 : Nat) ≤ sizeLine; decide, fun t10 nt10 => ?_⟩
        have k10 : Kp [] H9 (upd H9 t10 (.tup [.str "text", .int 601])) := (Kp.refl _ _).new nt10
        refine r_neD (dp_txt (k10.get htp)) (dp_txt upd_same) (sh_txt _) (sh_txt _) ?_
        rw [eqv_txt]
        walk_at "rd"
        exact ⟨⟨at1, _, _, _, _, _, _, _, _, _, _, _, _, _, _, rfl, lw9.keep k10⟩, k10.get g19, k10.get g29, k10.get g39⟩
      · clear lw
        rintro σ' H3 ⟨at1, o3', o4', o5', o6', o7', o8', o9', o10', o11', o12', o13', o14', o15', o16', rfl, lw⟩
        walk_at "rd"
        refine ⟨by show (1 : Nat) ≤ sizeLine; decide, fun v1 nv1 => ?_⟩
        have k1 : Kp [] H3 (upd H3 v1 (.lst [.str "o"])) := (Kp.refl _ _).new nv1
        have hv1 : (upd H3 v1 (.lst [.str "o"])) v1 = some (.lst [.str "o"]) := upd_same
        generalize upd H3 v1 (.lst [.str "o"]) = G1 at *
        walk_at "rd"
        refine ⟨by show (1 : Nat) ≤ sizeLine; decide, fun v2 nv2 => ?_⟩
        have k2 : Kp [] G1 (upd G1 v2 (.tup [.str "-"])) := (Kp.refl _ _).new nv2
        have hv2 : (upd G1 v2 (.tup [.str "-"])) v2 = some (.tup [.str "-"]) := upd_same
        generalize upd G1 v2 (.tup [.str "-"]) = G2 at *
        walk_at "rd"
        refine ⟨by show (0 : Nat) ≤ sizeLine; decide, fun w1 nw1 => ?_⟩
        have k3 : Kp [] G2 (upd G2 w1 (.tup [])) := (Kp.refl _ _).new nw1
        have hw1 : (upd G2 w1 (.tup [])) w1 = some (.tup []) := upd_same
        generalize upd G2 w1 (.tup []) = G3 at *
        walk_at "rd"
        refine ⟨by show (0 : Nat) ≤ sizeLine; decide, fun w2 nw2 => ?_⟩
        have k4 : Kp [] G3 (upd G3 w2 (.tup [])) := (Kp.refl _ _).new nw2
        have hw2 : (upd G3 w2 (.tup [])) w2 = some (.tup []) := upd_same
        generalize upd G3 w2 (.tup []) = G4 at *
        walk_at "rd"
        intro s8 dx8 ns8 ndx8 ne8
        have k5 : Kp [] G4 (upd (upd G4 dx8 (.own s8)) s8 (.ins CS dx8 [])) := ((Kp.refl _ _).own ndx8).own ns8
        refine ⟨s8, dx8, w1, w2, 0, 0, [], [], rfl, upd_same, by decide, by decide, .inl rfl, .inr (k5.get (k4.get hw1)), fun x hx => absurd hx (by simp), by simp, ⟨[], .inr (k5.get hw2), fun q hq => absurd hq (by simp), rfl, by simp⟩, fun _ _ G6 hs6 kk => ⟨rfl, ?_⟩, fun z => absurd z (by decide), fun _ z => absurd z (by decide)⟩
        have k46 := kp_made ns8 ndx8 kk
        obtain ⟨dx6, pc6, pm6, pp6, h6, _⟩ := sig_parts hs6
        have hv16 := ((((k2.trans k3).trans k4).trans k46)).get hv1
        have hv26 := (((k3.trans k4).trans k46)).get hv2
        have lw6 := lw.keep ((((k1.trans k2).trans k3).trans k4).trans k46)
        walk_at "rd"
        refine ⟨by show (6 : Nat) ≤ sizeLine; decide, fun od nod => ?_⟩
        have ko : Kp [] G6 (upd G6 od (.lst [.non, .int 5, .ref v1, .ref v2, .bl true, .ref s8])) := (Kp.refl _ _).new nod
        have hod : (upd G6 od (.lst [.non, .int 5, .ref v1, .ref v2, .bl true, .ref s8])) od = some (.lst [.non, .int 5, .ref v1, .ref v2, .bl true, .ref s8]) := upd_same
        have a7 := ko.get hv16
        have b7 := ko.get hv26
        have c7 := ko.get h6
        have lw7 := lw6.keep ko
        generalize upd G6 od (.lst [.non, .int 5, .ref v1, .ref v2, .bl true, .ref s8]) = G7 at *
        clear k1 k2 k3 k4 k5 k46 hv1 hv2 hw1 hw2 hs6 hv16 hv26 lw6 lw ko h6
        refine r_name rfl ?_
        refine r_seq ?_
        refine r_asg (r_lst (r_cons ?_))
        refine r_hear (x := "- 2") lw7.tabs (fun H2 _ nx q => r_c (q _ (Kp.refl _ _))) (by decide) (by decide +kernel) ?_
        rw [read_a]
        intro p1 G8 hp1 e8 t8
        refine r_cons ?_
        refine r_hear (x := "o x") t8 (fun H2 _ nx q => r_c (q _ (Kp.refl _ _))) (by decide) (by decide +kernel) ?_
        rw [read_b]
        intro p2 G9 hp2 e9 t9
        refine r_cons ?_
        refine r_hear (x := "2 02") t9 (fun H2 _ nx q => r_c (q _ (Kp.refl _ _))) (by decide) (by decide +kernel) ?_
        rw [read_c]
        intro p3 G10 hp3 e10 t10
        refine r_nil ⟨by show (3 : Nat) ≤ sizeLine; decide, fun hd nhd => ?_⟩
        have kh : Kp [] G10 (upd G10 hd (.lst [.ref p1, .ref p2, .ref p3])) := (Kp.refl _ _).new nhd
        have ee := (e8.trans (e9.trans e10)).trans (ext_of kh)
        have oa : OA CS PT od v1 v2 s8 dx6 hd p1 p2 p3 _ (upd G10 hd (.lst [.ref p1, .ref p2, .ref p3])) := ⟨ext_lst ee hod, ext_lst ee a7, ext_tup ee b7, ee _ _ c7 (fun _ z => by cases z), upd_same, kh.get (ext_tup (e9.trans e10) hp1), kh.get (ext_tup e10 hp2), kh.get hp3, tabs_kp t10 kh⟩
        generalize upd G10 hd (.lst [.ref p1, .ref p2, .ref p3]) = G11 at *
        clear hod a7 b7 c7 lw7 hp1 hp2 hp3 e8 e9 e10 t8 t9 t10 ee kh
        refine r_name rfl ?_
        walk_at "rd"
        refine q_lcL [V.non, .int 5, .ref v1, .ref v2, .bl true, .ref s8] (fun v => v) (fun D pre H => OA CS PT od v1 v2 s8 dx6 hd p1 p2 p3 _ H ∧ ∃ ps : List Addr, H D = some (.lst (ps.map V.ref)) ∧ ps.length = pre.length ∧ ∀ q ∈ ps, H q = some (.tup [.str "text", .int 0])) (sqL_of oa.o) (fun D nD => ⟨oa.ext (ext_of ((Kp.refl _ _).new nD)) (tabs_kp oa.t ((Kp.refl _ _).new nD)), [], upd_same, rfl, fun q hq => absurd hq (by simp)⟩) (fun D pre H1 nD h => sqL_of h.1.o) (fun D pre y post H1 nD e h => ?_) (fun D H1 nD h => ?_)
        · obtain ⟨oh, ps, hD, hpl, hps⟩ := h
          obtain ⟨t, ht, hk⟩ := oh.ty S SI NS (y := y) (by rw [e]; simp)
          have hpre : pre.length < 6 := by have := congrArg List.length e; rw [List.length_append, List.length_cons] at this; simp only [List.length_cons, List.length_nil] at this; omega
          walk_at "rd"
          refine ⟨rfl, ?_⟩
          walk_at "rd"
          refine r_hearV oh.t (fun H2 _ nx q => r_var rfl (q _ (Kp.refl _ _))) ht hk fun p' H5 hp' e5 t5 => ?_
          have hD5 := ext_lst e5 hD
          refine ⟨_, hD5, by rw [sizeLine_eq, List.length_map]; omega, OA.put oa nD (oh.ext e5 t5) hD5, ps ++ [p'], by rw [upd_same, List.map_append]; rfl, by rw [List.length_append, List.length_append, hpl]; rfl, fun q hq => ?_⟩
          have hq' : H5 q = some (.tup [.str "text", .int 0]) := by
            rcases List.mem_append.mp hq with hq | hq
            · exact ext_tup e5 (hps q hq)
            · rw [List.mem_singleton.mp hq]; exact hp'
          exact (upd_ne fun z => by rw [z, hD5] at hq'; cases hq').trans hq'
        · obtain ⟨oh, ps, hD, hpl, hps⟩ := h
          refine r_repT (K := K) (k := 6) (by decide) fun b5 H5 hd5 k5 => ?_
          have hl : Dp K H5 (.ref D) (.list (List.replicate 6 (tT 0))) := by
            have := dp_same (K := K) (H := H5) (T := tT 0) (ps := ps) fun q hq => dp_txt (k5.get (hps q hq))
            rw [show ps.length = 6 from hpl] at this
            exact .lst (sqL_of (k5.get hD)) this
          refine r_eqD hl hd5 sh_6 sh_6 ?_
          rw [eqv_6]
          have oh5 := oh.ext (ext_of k5) (tabs_kp oh.t k5)
          walk_at "rd"
          refine r_repT (K := K) (k := 3) (by decide) fun b6 H6 hd6 k6 => ?_
          have hl3 : Dp K H6 (.ref hd) (.list (List.replicate 3 (tT 1))) := .lst (sqL_of (k6.get oh5.d)) (.cons (dp_txt (k6.get oh5.e1)) (.cons (dp_txt (k6.get oh5.e2)) (.cons (dp_txt (k6.get oh5.e3)) .nil)))
          refine r_eqD hl3 hd6 sh_3 sh_3 ?_
          rw [eqv_3]
          exact q _
--ENDW2
end
end K34

set_option Elab.async false
set_option linter.all false
set_option maxRecDepth 100000
set_option maxHeartbeats 4000000
set_option pp.maxSteps 1200
namespace K34
open PySem PySem.Spec PyProof.Rows L2 Rd PySem.W
/-! facts of the head -/
def oexB (K : PySem.W.Frag) (C : Addr) : Bool := (match K.lookup C with
  | some ⟨.type "type", _, .cls cd, sl⟩ => (match cd.mro, sl.toList with
    | .ref C' :: bm, [_, _, _, _, some (.builtin n), _] => C' == C && n == "ValueError.__new__" && !cd.hasDel && cd.hasDict && PySem.HandSPX.refsVE bm
    | _, _ => false)
  | _ => false) && (He.eqO (PySem.W.findIn K (.ref C) "__setattr__") (some (some (.builtin "object.__setattr__"))) && (decide (PySem.W.subIn K (.ref C) (.type "BaseException") = some true) && (decide (PySem.W.typeIn K (.ref C) = some (.type "type")) && PySem.W.keepIn K (.ref C))))
theorem oexB_ok {K : PySem.W.Frag} {C : Addr} (h : oexB K C = true) : OexC K C := by
  unfold oexB at h
  simp only [Bool.and_eq_true, decide_eq_true_eq] at h
  obtain ⟨q, h2, h3, h4, h5⟩ := h
  refine ⟨?_, He.eqO_ok h2, h3, h4, h5⟩
  split at q
  · rename_i dd cd sl ho
    split at q
    · rename_i C' bm k0 k1 k2 k3 n k5 hm hs
      simp only [Bool.and_eq_true, beq_iff_eq, Bool.not_eq_true'] at q
      obtain ⟨⟨⟨⟨rfl, rfl⟩, hdel⟩, hdct⟩, hr⟩ := q
      obtain ⟨nm, bs, mro, ns, qn, hd, sn, sub, ab, col, del⟩ := cd
      dsimp only at hm hdel hdct
      subst hm hdel hdct
      have hsl : sl = #[k0, k1, k2, k3, some (.builtin "ValueError.__new__"), k5] := by
        obtain ⟨l⟩ := sl
        simp only at hs
        rw [hs]
      subst hsl
      exact ⟨nm, qn, ns, bs, bm, sn, sub, ab, col, dd, k0, k1, k2, k3, k5, ho, hr⟩
    · cases q
  · cases q
def kxB (K : PySem.W.Frag) (D : Addr) : Bool := (PySem.W.clsIn K D).isSome && (He.eqO (PySem.W.findIn K (.ref D) "__getattribute__") (some (some (.builtin "BaseException.__getattribute__"))) && (He.eqO (PySem.W.findIn K (.ref D) "__getattr__") (some none) && (decide (PySem.W.subIn K (.ref D) (.type "BaseException") = some true) && (PySem.W.hasDictIn K D && (He.eqO (PySem.W.findIn K (.ref D) "__class__") (some (some (.builtin "object.__class__"))) &&
  (He.eqO (PySem.W.specialIn K (.builtin "object.__class__") "__get__") (some (some (.builtin "getset_descriptor.__get__"))) && (decide (PySem.W.takesIn K (.builtin "object.__class__") = some true) && decide (PySem.W.mroIn K D (.type "object") = some true))))))))
theorem kxB_ok {K : PySem.W.Frag} {D : Addr} (h : kxB K D = true) : KxC K D := by
  unfold kxB at h
  simp only [Bool.and_eq_true, decide_eq_true_eq] at h
  obtain ⟨a, b, c, d, e, f, g, i, j⟩ := h
  exact ⟨a, He.eqO_ok b, He.eqO_ok c, d, e, He.eqO_ok f, He.eqO_ok g, i, j⟩
def isB (K : PySem.W.Frag) (x y : Str) (b : Bool) : Bool := decide (PySem.W.kitOne K (.ref (He.ga K x)) (.ref (He.ga K y)) = some b)
theorem isB_ok {K : PySem.W.Frag} {mg : Str → Option Value} {x y : Str} {b : Bool} (hm : mg y = some (.ref (He.ga K y))) (h : isB K x y b = true) : IsX K mg (He.ga K x) y b := ⟨_, hm, of_decide_eq_true h⟩
def dOf (x : Str) (i : Nat) (dfl : List He.Dv := []) : He.DefD := ⟨(x, none), x, x, defArgs (topS i), defBody (topS i), defScope (topS i), dfl, []⟩
def dMe (C m : Str) (i j : Nat) : He.DefD := ⟨(C, some m), m, C ++ "." ++ m, defArgs (inClass (topS i) j), defBody (inClass (topS i) j), defScope (inClass (topS i) j), [], []⟩
def fn : List He.DefD := [dOf "is_integer" 16, dOf "need_integer" 17 [.non], dOf "row_of" 18, dOf "need_orders" 23, dOf "need_signature" 24, dOf "least_ring" 25, dOf "order_in" 31, dOf "taken" 32, dOf "orders_from" 33, dOf "sign_text" 34, dOf "read_sign" 35,
  dOf "_law_pen" 37, dOf "_law_draw" 38, dOf "_law_pick" 39, dOf "_law_heard" 40, dOf "_law_order" 41, dOf "_law_read" 42, dOf "law" 43, dMe "Signature" "__init__" 22 0, dMe "Signature" "__eq__" 22 1, dMe "BadNumber" "__init__" 3 0, dMe "BadValue" "__init__" 2 0, dMe "BadText" "__init__" 8 0]
def gl1 : List Str := ["is_integer", "need_integer", "row_of", "need_orders", "need_signature", "least_ring", "order_in", "taken", "orders_from", "sign_text", "read_sign", "_law_pen", "_law_draw", "_law_pick", "_law_heard", "_law_order", "_law_read", "law"]
def gl2 : List Str := ["Signature", "FloorError", "BadValue", "BadNumber", "BadBook", "BadWalk", "BadPlace", "BadPaper", "BadText", "BadPattern", "NoPiece", "Misfit", "TooMany", "Rough", "Nothing"]
def fr1 : List Str := ["isinstance", "int", "bool", "str", "list", "tuple", "abs", "len", "max", "min", "sorted", "range", "enumerate"]
def fa1 : List He.Fa := [.int "MOST_ORDER" 120, .int "MOST_MARKS" 600, .str "HANDLE" "o", .str "RING" "*", .str "CAP" "x", .str "NONE" "-", .cls "Signature", .mkr "Signature", .noat "Signature" "handles", .noat "Signature" "caps", .noat "Signature" "cones", .noat "Signature" "mirrors", .noat "Signature" "parts", .exm "BadNumber" "FloorError" true, .exm "BadText" "FloorError" true, .noat "BadNumber" "part", .noat "BadText" "item", .noat "BadValue" "part"]
def fa : List He.Fa := gl1.map .glo ++ (gl2.map .glo ++ (fr1.map .free ++ fa1))
def iniB (K : PySem.W.Frag) (x : Str) : Bool := He.eqO (PySem.W.findIn K (.ref (He.ga K x)) "__init__") (some (some (.ref (He.ma K (He.ga K x) "__init__")))) && decide (PySem.W.typeIn K (.ref (He.ma K (He.ga K x) "__init__")) = some (.type "function"))
def isN : List (Str × Bool) := [("TooMany", false), ("NoPiece", false), ("BadText", false), ("Nothing", false), ("Rough", false), ("BadValue", false), ("BadNumber", true), ("BadBook", false), ("BadWalk", false), ("BadPaper", false), ("Misfit", false), ("BadPlace", false), ("BadPattern", false)]
def isT : List (Str × Bool) := [("TooMany", false), ("NoPiece", false), ("BadText", true)]
def sgB (K : PySem.W.Frag) : Bool := He.eqO (PySem.W.findIn K (.ref (He.ga K "Signature")) "__class__") (some (some (.builtin "object.__class__"))) && (decide (PySem.W.mroIn K (He.ga K "Signature") (.type "object") = some true) && (isB K "Signature" "Signature" true && (decide (PySem.W.kitOne K (.ref (He.ga K "Signature")) (.type "str") = some false) &&
  (He.eqO (PySem.W.findIn K (.ref (He.ga K "Signature")) "__eq__") (some (some (.ref (He.ma K (He.ga K "Signature") "__eq__")))) && (PySem.W.isFn K (.ref (He.ma K (He.ga K "Signature") "__eq__")) && He.eqO (PySem.W.findIn K (.ref (He.ga K "Signature")) "__ne__") (some (some (.builtin "object.__ne__"))))))))
def ex (K : PySem.W.Frag) : Bool := (["BadNumber", "BadValue", "BadText"] : List Str).all (fun x : Str => oexB K (He.ga K x) && iniB K x) && (kxB K (He.ga K "BadNumber") && (kxB K (He.ga K "BadText") && (isN.all (fun q => isB K "BadNumber" q.1 q.2) && (isT.all (fun q => isB K "BadText" q.1 q.2) && sgB K))))
abbrev R : PySem.W.OpenRow := PySem.W.OpenLaw.row PySem.Challenge.rw_roundflatwild_k34_texts_of_signatures_wo
abbrev hk : PySem.W.Hook := He.hookX 5 fa fn [] [("law", none)] ex
def ob (s : PySem.W.SharedT) : He.AlX := He.obsX 5 fa fn [] [("law", none)] ex (HandSHeadRun.getT s)
theorem ob_eq (s : PySem.W.SharedT) : ob s = hk.obs s.abs := He.obsX_eq (HandSHeadRun.getT_eq s)
def loose : List Str := gl2 ++ ((["is_integer", "need_integer", "row_of", "need_orders", "need_signature", "least_ring", "order_in", "taken", "orders_from", "sign_text", "read_sign", "_law_pen", "_law_draw", "_law_pick", "_law_heard", "_law_order", "_law_read"] : List Str) ++ (["MOST_ORDER", "MOST_MARKS", "HANDLE", "RING", "CAP", "NONE"] : List Str))
end K34

set_option Elab.async false
set_option linter.all false
set_option maxRecDepth 100000
set_option maxHeartbeats 4000000
set_option pp.maxSteps 1200
namespace K34
open PySem PySem.Spec PyProof.Rows L2 Rd PySem.W
theorem run (w : World) : HandSHeadRun.RunEq R (PySem.W.view R.prog [43]) hk ob 6000 loose w := by
  intro os
  kernel_rfl
end K34

set_option Elab.async false
set_option linter.all false
set_option maxRecDepth 100000
set_option maxHeartbeats 4000000
set_option pp.maxSteps 1200
namespace K34
open PySem PySem.Spec PyProof.Rows L2 Rd PySem.W
theorem mem_g1 {x : Str} (h : x ∈ gl1) : He.Fa.glo x ∈ fa := List.mem_append_left _ (List.mem_map.mpr ⟨x, h, rfl⟩)
theorem mem_g2 {x : Str} (h : x ∈ gl2) : He.Fa.glo x ∈ fa := List.mem_append_right _ (List.mem_append_left _ (List.mem_map.mpr ⟨x, h, rfl⟩))
theorem mem_fr {x : Str} (h : x ∈ fr1) : He.Fa.free x ∈ fa := List.mem_append_right _ (List.mem_append_right _ (List.mem_append_left _ (List.mem_map.mpr ⟨x, h, rfl⟩)))
theorem mem_fa {x : He.Fa} (h : x ∈ fa1) : x ∈ fa := List.mem_append_right _ (List.mem_append_right _ (List.mem_append_right _ h))
theorem fun_of' {K : PySem.W.Frag} {x q : Str} {st : Stmt} {f : Addr} {fd : FuncData} (F : FunD K x q (defArgs st) (defBody st) (defScope st) [] [] f fd) : L2.Fun K x q st f fd := by
  obtain ⟨oc, od, dV, kV, doc, pm, an, cdv, ct, osl, e, lk, hc, hD, _⟩ := F.ex
  rcases hD with ⟨_, rfl⟩ | ⟨z, _⟩
  · exact ⟨⟨oc, od, kV, doc, pm, an, cdv, ct, osl, e, lk, hc⟩, F.kp⟩
  · exact absurd rfl z
theorem excx {P : Program} {w : World} {K : PySem.W.Frag} {mg : Str → Option Value} {base : Heap} {x f : Str} {i : Nat} {fd : FuncData} {p1 p2 p3 p4 : Pos} (hm : mg x = some (.ref (He.ga K x))) (hb : (oexB K (He.ga K x) && iniB K x) = true) (nf : PySem.W.findIn K (.ref (He.ga K x)) f = some none)
    (F : FunD K "__init__" (x ++ "." ++ "__init__") (defArgs (inClass (topS i) 0)) (defBody (inClass (topS i) 0)) (defScope (inClass (topS i) 0)) [] [] (He.ma K (He.ga K x) "__init__") fd) (S : FnScope ["self", f] ["self", f] (defScope (inClass (topS i) 0)))
    (hbd : defBody (inClass (topS i) 0) = [.Assign [.Attribute (.Name "self" p1) f p2] (.Name f p3) p4]) (hf : (f == ("__debug__" : Str)) = false) (hfc : (f == ("__classdict__" : Str)) = false) (hv : Vis (defScope (inClass (topS i) 0)) f) (hvs : Vis (defScope (inClass (topS i) 0)) "self")
    (hB : ∀ (kV doc pm : Value) (an : Option Addr) (cdv ct : Value) (us : List Value), us.length = (["self", f] : List Str).length → bindArgs (PySem.W.fnOf "__init__" (x ++ "." ++ "__init__") (defArgs (inClass (topS i) 0)) (defBody (inClass (topS i) 0)) (defScope (inClass (topS i) 0)) .none kV doc pm an cdv ct) ⟨us, []⟩ = pure ((["self", f] : List Str).zip us)) :
    ExcX P w K mg base x (He.ga K x) [f] := by
  obtain ⟨h1, h2⟩ := Bool.and_eq_true_iff.mp hb
  obtain ⟨h3, h4⟩ := Bool.and_eq_true_iff.mp (show (_ && _) = true from h2)
  exact ⟨oexB_ok h1, hm, _, fd, _, He.eqO_ok h3, of_decide_eq_true h4, exc_init1 (oexB_ok h1) nf (fun_of' F) S hbd hf hfc hv hvs, F.bindsN hB⟩
theorem facts {w : World} {K : PySem.W.Frag} {h : Heap} {mg : Str → Option Value} {f : Addr} (X : K.In h) (G : h.Ns mainGlobals mg) (hfa : mg ("law" : Str) = some (.ref f)) (c : He.SaysX fa fn [] [("law", none)] ex w h K) :
    LamX.LawAtS PySem.Challenge.rw_roundflatwild_k34_texts_of_signatures_wo w K (L2.CX R.prog w) 11 63 "script" mg f h := by
  have cd := c.t.d
  have g1 : ∀ x ∈ gl1, mg x = some (.ref (He.ga K x)) := fun x hx => He.glo_ok X G (cd.facts (mem_g1 hx))
  have g2 : ∀ x ∈ gl2, mg x = some (.ref (He.ga K x)) := fun x hx => He.glo_ok X G (cd.facts (mem_g2 hx))
  have gf : ∀ x ∈ fr1, mg x = none := fun x hx => He.free_ok X G (cd.facts (mem_fr hx))
  obtain ⟨d0, F0⟩ := cd.def_ 0 (d := dOf "is_integer" 16) rfl
  obtain ⟨d1, F1⟩ := cd.def_ 1 (d := dOf "need_integer" 17 [.non]) rfl
  obtain ⟨d2, F2⟩ := cd.def_ 2 (d := dOf "row_of" 18) rfl
  obtain ⟨d3, F3⟩ := cd.def_ 3 (d := dOf "need_orders" 23) rfl
  obtain ⟨d4, F4⟩ := cd.def_ 4 (d := dOf "need_signature" 24) rfl
  obtain ⟨d5, F5⟩ := cd.def_ 5 (d := dOf "least_ring" 25) rfl
  obtain ⟨d6, F6⟩ := cd.def_ 6 (d := dOf "order_in" 31) rfl
  obtain ⟨d7, F7⟩ := cd.def_ 7 (d := dOf "taken" 32) rfl
  obtain ⟨d8, F8⟩ := cd.def_ 8 (d := dOf "orders_from" 33) rfl
  obtain ⟨d9, F9⟩ := cd.def_ 9 (d := dOf "sign_text" 34) rfl
  obtain ⟨d10, F10⟩ := cd.def_ 10 (d := dOf "read_sign" 35) rfl
  obtain ⟨d11, F11⟩ := cd.def_ 11 (d := dOf "_law_pen" 37) rfl
  obtain ⟨d12, F12⟩ := cd.def_ 12 (d := dOf "_law_draw" 38) rfl
  obtain ⟨d13, F13⟩ := cd.def_ 13 (d := dOf "_law_pick" 39) rfl
  obtain ⟨d14, F14⟩ := cd.def_ 14 (d := dOf "_law_heard" 40) rfl
  obtain ⟨d15, F15⟩ := cd.def_ 15 (d := dOf "_law_order" 41) rfl
  obtain ⟨d16, F16⟩ := cd.def_ 16 (d := dOf "_law_read" 42) rfl
  obtain ⟨d17, F17⟩ := cd.def_ 17 (d := dOf "law" 43) rfl
  obtain ⟨d18, F18⟩ := cd.def_ 18 (d := dMe "Signature" "__init__" 22 0) rfl
  obtain ⟨d19, F19⟩ := cd.def_ 19 (d := dMe "Signature" "__eq__" 22 1) rfl
  obtain ⟨d20, F20⟩ := cd.def_ 20 (d := dMe "BadNumber" "__init__" 3 0) rfl
  obtain ⟨d21, F21⟩ := cd.def_ 21 (d := dMe "BadValue" "__init__" 2 0) rfl
  obtain ⟨d22, F22⟩ := cd.def_ 22 (d := dMe "BadText" "__init__" 8 0) rfl
  have e := hfa.symm.trans (g1 "law" (by decide +kernel))
  have ef : f = He.ga K "law" := by cases e; rfl
  subst ef
  have hex := c.more
  unfold ex at hex
  obtain ⟨x1, hex⟩ := Bool.and_eq_true_iff.mp hex
  obtain ⟨x2, hex⟩ := Bool.and_eq_true_iff.mp hex
  obtain ⟨x3, hex⟩ := Bool.and_eq_true_iff.mp hex
  obtain ⟨x4, hex⟩ := Bool.and_eq_true_iff.mp hex
  obtain ⟨x5, x6⟩ := Bool.and_eq_true_iff.mp hex
  rw [List.all_eq_true] at x1 x4 x5
  unfold sgB at x6
  simp only [Bool.and_eq_true, decide_eq_true_eq] at x6
  obtain ⟨s1, s2, s3, s4, s5, s6, s7⟩ := x6
  have hN : ∀ q ∈ isN, IsX K mg (He.ga K "BadNumber") q.1 q.2 := fun q hq => isB_ok (g2 q.1 (by revert q; decide +kernel)) (x4 q hq)
  have hT : ∀ q ∈ isT, IsX K mg (He.ga K "BadText") q.1 q.2 := fun q hq => isB_ok (g2 q.1 (by revert q; decide +kernel)) (x5 q hq)
  have kxN := kxB_ok x2
  have HC : HeardC K mg (He.ga K "FloorError") (He.ga K "BadNumber") (He.ga K "BadText") := ⟨g2 _ (by decide +kernel), He.exm_ok (cd.facts (f := .exm "BadNumber" "FloorError" true) (mem_fa (List.mem_of_getElem? (i := 13) rfl))), He.exm_ok (cd.facts (f := .exm "BadText" "FloorError" true) (mem_fa (List.mem_of_getElem? (i := 14) rfl))), kxN, kxB_ok x3,
    He.noat_ok (cd.facts (f := .noat "BadNumber" "part") (mem_fa (List.mem_of_getElem? (i := 15) rfl))), He.noat_ok (cd.facts (f := .noat "BadText" "item") (mem_fa (List.mem_of_getElem? (i := 16) rfl))),
    hN ("TooMany", false) (by decide +kernel), hN ("NoPiece", false) (by decide +kernel), hN ("BadText", false) (by decide +kernel), hN ("Nothing", false) (by decide +kernel), hN ("Rough", false) (by decide +kernel), hN ("BadValue", false) (by decide +kernel), hN ("BadNumber", true) (by decide +kernel), hN ("BadBook", false) (by decide +kernel), hN ("BadWalk", false) (by decide +kernel), hN ("BadPaper", false) (by decide +kernel), hN ("Misfit", false) (by decide +kernel), hN ("BadPlace", false) (by decide +kernel), hN ("BadPattern", false) (by decide +kernel),
    hT ("TooMany", false) (by decide +kernel), hT ("NoPiece", false) (by decide +kernel), hT ("BadText", true) (by decide +kernel)⟩
  have fx : ∀ (i : Nat) {q : He.Fa}, fa1[i]? = some q → q.ok K = true := fun i q e => cd.facts (mem_fa (List.mem_of_getElem? (i := i) e))
  obtain ⟨t1, m1⟩ := He.int_ok X G (fx 0 (q := .int "MOST_ORDER" 120) rfl)
  obtain ⟨t2, m2⟩ := He.int_ok X G (fx 1 (q := .int "MOST_MARKS" 600) rfl)
  obtain ⟨t3, m3⟩ := He.str_ok X G (fx 2 (q := .str "HANDLE" "o") rfl)
  obtain ⟨t4, m4⟩ := He.str_ok X G (fx 3 (q := .str "RING" "*") rfl)
  obtain ⟨t5, m5⟩ := He.str_ok X G (fx 4 (q := .str "CAP" "x") rfl)
  obtain ⟨t6, m6⟩ := He.str_ok X G (fx 5 (q := .str "NONE" "-") rfl)
  have GG : Gm mg := ⟨gf _ (by decide +kernel), gf _ (by decide +kernel), gf _ (by decide +kernel), gf _ (by decide +kernel), gf _ (by decide +kernel), gf _ (by decide +kernel), gf _ (by decide +kernel), gf _ (by decide +kernel), gf _ (by decide +kernel), gf _ (by decide +kernel), gf _ (by decide +kernel), gf _ (by decide +kernel), gf _ (by decide +kernel),
    ⟨_, m1, ⟨_, rfl⟩⟩, ⟨_, m2, ⟨_, rfl⟩⟩, ⟨_, m3, ⟨_, rfl⟩⟩, ⟨_, m4, ⟨_, rfl⟩⟩, ⟨_, m5, ⟨_, rfl⟩⟩, ⟨_, m6, ⟨_, rfl⟩⟩⟩
  have S : SigC K (He.ga K "Signature") := ⟨He.cls_ok (fx 6 (q := .cls "Signature") rfl), He.noat_ok (fx 8 (q := .noat "Signature" "handles") rfl), He.noat_ok (fx 9 (q := .noat "Signature" "caps") rfl), He.noat_ok (fx 10 (q := .noat "Signature" "cones") rfl), He.noat_ok (fx 11 (q := .noat "Signature" "mirrors") rfl), He.noat_ok (fx 12 (q := .noat "Signature" "parts") rfl)⟩
  have SI : SigI K mg (He.ga K "Signature") := ⟨He.eqO_ok s1, kxN.hn, kxN.ht, s2, of_decide_eq_true s3, ⟨_, g2 _ (by decide +kernel), rfl⟩⟩
  have MK := He.mkr_ok (fx 7 (q := .mkr "Signature") rfl)
  refine ⟨d17, [He.cT K ("law", none)], spLaw K (He.cT K ("law", none)).2, fun p hp => ?_, fun p hp => ?_, fun p hp => ?_, ?_, ?_, ?_⟩
  · rw [List.mem_singleton.mp hp]; exact c.empty _ (by simp)
  · rw [List.mem_singleton.mp hp]; exact c.out _ (by simp)
  · rw [List.mem_singleton.mp hp]; exact PySem.W.codeHd_of_K X (c.hd _ (by simp))
  · exact fun s v => (FunD.bindsA (ps := ["script"]) F17 fun _ _ _ _ _ _ us hl => match us, hl with | [_], _ => rfl) s [v] rfl
  · intro H a ns hl _ hTt hS
    refine ⟨a, ns, rfl, hS, hl, fun q hq => ?_, fun _ => rfl⟩
    rw [List.mem_singleton.mp hq]
    exact LamX.TabS.nil (hTt _ (by simp))
  · intro base _ _ hTB
    have TB := hTB _ (List.mem_singleton.mpr rfl)
    have X20 : ExcX R.prog w K mg base "BadNumber" (He.ga K "BadNumber") ["part"] := excx (i := 3) (g2 _ (by decide +kernel)) (x1 _ (by simp)) (He.noat_ok (fx 15 (q := .noat "BadNumber" "part") rfl)) F20 ⟨rfl, rfl, rfl, by decide +kernel, rfl, by decide +kernel, by decide +kernel⟩ rfl (by decide +kernel) (by decide +kernel) (.inl (by decide +kernel)) (.inl (by decide +kernel)) fun _ _ _ _ _ _ us hl => match us, hl with | [_, _], _ => rfl
    have X21 : ExcX R.prog w K mg base "BadValue" (He.ga K "BadValue") ["part"] := excx (i := 2) (g2 _ (by decide +kernel)) (x1 _ (by simp)) (He.noat_ok (fx 17 (q := .noat "BadValue" "part") rfl)) F21 ⟨rfl, rfl, rfl, by decide +kernel, rfl, by decide +kernel, by decide +kernel⟩ rfl (by decide +kernel) (by decide +kernel) (.inl (by decide +kernel)) (.inl (by decide +kernel)) fun _ _ _ _ _ _ us hl => match us, hl with | [_, _], _ => rfl
    have X22 : ExcX R.prog w K mg base "BadText" (He.ga K "BadText") ["item"] := excx (i := 8) (g2 _ (by decide +kernel)) (x1 _ (by simp)) (He.noat_ok (fx 16 (q := .noat "BadText" "item") rfl)) F22 ⟨rfl, rfl, rfl, by decide +kernel, rfl, by decide +kernel, by decide +kernel⟩ rfl (by decide +kernel) (by decide +kernel) (.inl (by decide +kernel)) (.inl (by decide +kernel)) fun _ _ _ _ _ _ us hl => match us, hl with | [_, _], _ => rfl
    have C0 : CalX R.prog w K mg base 1 "is_integer" spIsInt [] := ⟨_, d0, ["value"], [], ok_isInt F0 GG, g1 _ (by decide +kernel), F0.kp, F0.bindsN fun _ _ _ _ _ _ us hl => match us, hl with | [_], _ => rfl, .nil⟩
    have F1' : FunD K "need_integer" "need_integer" (defArgs (topS 17)) (defBody (topS 17)) (defScope (topS 17)) [.non] [] (He.ga K "need_integer") d1 := F1
    obtain ⟨ds1, v1, b1⟩ := FunD.binds1 (ps := ["part", "value", "least", "most"]) F1' 4 1 (by simp) rfl fun T kV doc pm an cdv ct us its hl hi => by
      match us, hl, its, hi with
      | [_, _, _, _], _, [_], _ => exact ⟨_, rfl, rfl⟩
    obtain rfl : ds1 = [] := by cases v1; rfl
    have C1 : CalX R.prog w K mg base 3 "need_integer" (spNeedInt (He.ga K "BadNumber")) [] := ⟨_, d1, _, [], ok_needInt F1 C0 X20, g1 _ (by decide +kernel), F1.kp, b1, .nil⟩
    have C2 : CalX R.prog w K mg base 3 "row_of" (spRowOf K) [] := ⟨_, d2, ["part", "value"], [], ok_rowOf F2 GG X21, g1 _ (by decide +kernel), F2.kp, F2.bindsN fun _ _ _ _ _ _ us hl => match us, hl with | [_, _], _ => rfl, .nil⟩
    have C3 : CalX R.prog w K mg base 4 "need_orders" (spNeedOrders K) [] := ⟨_, d3, ["part", "value"], [], ok_needOrders F3 GG C2 C1, g1 _ (by decide +kernel), F3.kp, F3.bindsN fun _ _ _ _ _ _ us hl => match us, hl with | [_, _], _ => rfl, .nil⟩
    have C4 : CalX R.prog w K mg base 3 "need_signature" (spNeedSig K (He.ga K "Signature")) [] := ⟨_, d4, ["part", "value"], [], ok_needSig F4 GG S SI X21, g1 _ (by decide +kernel), F4.kp, F4.bindsN fun _ _ _ _ _ _ us hl => match us, hl with | [_, _], _ => rfl, .nil⟩
    have C5 : CalX R.prog w K mg base 2 "least_ring" (spLeastRing K) [] := ⟨_, d5, ["orders"], [], ok_leastRing F5 GG, g1 _ (by decide +kernel), F5.kp, F5.bindsN fun _ _ _ _ _ _ us hl => match us, hl with | [_], _ => rfl, .nil⟩
    have M : MakX R.prog w K mg base 5 "Signature" (He.ga K "Signature") (spInit K (He.ga K "Signature") (He.ga K "BadNumber")) [] := ⟨_, d18, _, [], MK, ok_init F18 GG S X20 C1 C3 C2 C5, g2 _ (by decide +kernel), F18.bindsN fun _ _ _ _ _ _ us hl => match us, hl with | [_, _, _, _, _], _ => rfl, .nil⟩
    have EQ : EqC R.prog w K mg base 1 (He.ga K "Signature") (spSigEq K (He.ga K "Signature")) := ⟨⟨_, d19, _, He.eqO_ok s5, s6, ok_eq F19 GG S SI, F19.bindsN fun _ _ _ _ _ _ us hl => match us, hl with | [_, _], _ => rfl⟩, He.eqO_ok s7, s2⟩
    have C6 : CalX R.prog w K mg base 1 "order_in" spOrderIn [] := ⟨_, d6, ["word"], [], ok_orderIn F6 GG, g1 _ (by decide +kernel), F6.kp, F6.bindsN fun _ _ _ _ _ _ us hl => match us, hl with | [_], _ => rfl, .nil⟩
    have C7 : CalX R.prog w K mg base 1 "taken" spTaken [] := ⟨_, d7, ["words", "at", "mark"], [], ok_taken F7 GG, g1 _ (by decide +kernel), F7.kp, F7.bindsN fun _ _ _ _ _ _ us hl => match us, hl with | [_, _, _], _ => rfl, .nil⟩
    have C8 : CalX R.prog w K mg base 2 "orders_from" spOrdersFrom [] := ⟨_, d8, ["words", "at"], [], ok_ordersFrom F8 GG C6, g1 _ (by decide +kernel), F8.kp, F8.bindsN fun _ _ _ _ _ _ us hl => match us, hl with | [_, _], _ => rfl, .nil⟩
    have C9 : CalX R.prog w K mg base 4 "sign_text" (spSignText K (He.ga K "Signature")) [] := ⟨_, d9, ["signature"], [], ok_signText F9 GG S C4, g1 _ (by decide +kernel), F9.kp, F9.bindsN fun _ _ _ _ _ _ us hl => match us, hl with | [_], _ => rfl, .nil⟩
    have O10 := ok_readSign (P := R.prog) (w := w) (base := base) F10 GG X22 M C7 C8
    have C10 : CalX R.prog w K mg base 7 "read_sign" (spReadSign K (He.ga K "Signature") (He.ga K "BadNumber") (He.ga K "BadText")) [] := ⟨_, d10, ["text"], [], O10, g1 _ (by decide +kernel), F10.kp, F10.bindsN fun _ _ _ _ _ _ us hl => match us, hl with | [_], _ => rfl, .nil⟩
    have C11 : CalX R.prog w K mg base 1 "_law_pen" (spPen K) [] := ⟨_, d11, ["script"], [], ok_pen F11 GG, g1 _ (by decide +kernel), F11.kp, F11.bindsN fun _ _ _ _ _ _ us hl => match us, hl with | [_], _ => rfl, .nil⟩
    have C12 : CalX R.prog w K mg base 1 "_law_draw" spDraw [] := ⟨_, d12, ["pen", "many"], [], ok_draw F12 GG, g1 _ (by decide +kernel), F12.kp, F12.bindsN fun _ _ _ _ _ _ us hl => match us, hl with | [_, _], _ => rfl, .nil⟩
    have C13 : CalX R.prog w K mg base 2 "_law_pick" (spPick K) [] := ⟨_, d13, ["pen", "some"], [], ok_pick F13 GG C12, g1 _ (by decide +kernel), F13.kp, F13.bindsN fun _ _ _ _ _ _ us hl => match us, hl with | [_, _], _ => rfl, .nil⟩
    have C15 : CalX R.prog w K mg base 1 "_law_order" spLOrder [] := ⟨_, d15, ["word"], [], ok_lorder F15 GG, g1 _ (by decide +kernel), F15.kp, F15.bindsN fun _ _ _ _ _ _ us hl => match us, hl with | [_], _ => rfl, .nil⟩
    have C16 : CalX R.prog w K mg base 2 "_law_read" spLRead [] := ⟨_, d16, ["text"], [], ok_lread F16 GG C15, g1 _ (by decide +kernel), F16.kp, F16.bindsN fun _ _ _ _ _ _ us hl => match us, hl with | [_], _ => rfl, .nil⟩
    have KB : KBinds K d10 ["text"] ["text"] (fun us ws => us ++ ws) (fun vs zs => vs ++ zs) := by
      obtain ⟨oc, od, dV, kV, doc, pm, an, cdv, ct, osl, rfl, lk, hc, hD, _⟩ := F10.ex
      rcases hD with ⟨_, rfl⟩ | ⟨z, _⟩
      · refine ⟨fun s us ws _ hl => ?_, fun r1 r2 => r1.append r2⟩
        match us, ws, hl with
        | [u], [], _ => exact BindsTo.of_looks fun M => .of_pure rfl
        | [], [u], _ => exact BindsTo.of_looks fun M => .of_pure rfl
      · exact absurd rfl z
    obtain ⟨oc, od, dV, kV, doc, pm, an, cdv, ct, osl, e17, lk, hc, _, _⟩ := F17.ex
    obtain ⟨cc, hcc⟩ := He.codeIn_ref hc
    have hcode : d17.code = .ref cc := by rw [e17]; exact hcc
    have hco : He.codeOf K ("law", none) = cc := He.codeOf_eq (p := ("law", none)) lk hcode
    have hcL : d17.code = .ref (He.cT K ("law", none)).1 := by rw [hcode, ← hco]; rfl
    exact ok_law (P := R.prog) (w := w) (base := base) F17 hcL TB GG HC S SI F14 (g1 _ (by decide +kernel)) F14.kp (F14.bindsN fun _ _ _ _ _ _ us hl => match us, hl with | [_], _ => rfl) ⟨O10, g1 _ (by decide +kernel), F10.kp, KB⟩ C10 C9 C16 C11 C12 C13 M EQ s4
end K34

section
set_option Elab.async false
set_option linter.all false
set_option maxRecDepth 100000
set_option maxHeartbeats 4000000
set_option pp.maxSteps 1200
open PySem PySem.W PySem.Calls PyProof.Rows
set_option maxRecDepth 100000
theorem PySem.Challenge.cw_roundflatwild_k34_texts_of_signatures_wo_holds : PySem.Challenge.rw_roundflatwild_k34_texts_of_signatures_wo.Holds := by
  w_on; o_law
  refine HandSHeadRun.head_any (r := OpenLaw.row PySem.Challenge.rw_roundflatwild_k34_texts_of_signatures_wo) (q := view (OpenLaw.row PySem.Challenge.rw_roundflatwild_k34_texts_of_signatures_wo).prog [43]) (H := K34.hk) (ob := K34.ob) (M := 6000) (loose := K34.loose) (d := HandSHeadRun.topDef (OpenLaw.row PySem.Challenge.rw_roundflatwild_k34_texts_of_signatures_wo).prog 43) (kwd := []) K34.ob_eq
    (by kernel_rfl) (fun s => by kernel_rfl) K34.run (by kernel_rfl) (by kernel_rfl) (by kernel_rfl) (by rfl) (by first | assumption | decide +kernel) (by decide +kernel) ⟨rfl, rfl, rfl, rfl, rfl, by decide +kernel⟩ ?hw ?hc
  case hw => w_witness2
  case hc =>
    refine LamX.walk_ofTsE (l := PySem.Challenge.rw_roundflatwild_k34_texts_of_signatures_wo) (n := 63) (k := 11) (x := "script") (CX := fun w => L2.CX K34.R.prog w) rfl (by decide) (by kernel_rfl) ⟨rfl, by decide, by decide⟩ ?F ?hX
    case hX =>
      intro w H s e s' z
      obtain ⟨_, _, _, _, _, _, _, _, _, _, _, _, z⟩ := z
      exact z.elim
    case F =>
      intro w mg fa h Y G hmg0
      obtain ⟨K, KX, c⟩ := Y
      have hmg : mg ("law" : PySem.Str) = some (.ref fa) := by
        have e : (HandSHeadRun.topDef (OpenLaw.row PySem.Challenge.rw_roundflatwild_k34_texts_of_signatures_wo).prog 43).name = ("law" : PySem.Str) := by kernel_rfl
        rw [← e]
        exact hmg0
      exact ⟨K, KX, K34.facts KX G hmg c⟩
end
