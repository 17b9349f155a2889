import PyProof.Rows.All
import Wide.All
import OpenK.AllK
import Wide.FinOn
import KE.KStateDown
import KE.KExcIs
import HandS.ForMost
import HandS.ForExc
import HandS.Defaults
import HandS.Walk
import HandS.IsInst
import HandS.Deep
import HandS.ExcInit
import HandS.ExcField
import HandS.ExcIs
import HandS.TupAny
import HandS.More
import HandS.Conv
import HandS.Flt
import HandS.Zip
import HandS.Rev
import HandS.TupLe
import HandS.SetFor
import HandS.SortInts
import HandS.SortOrd
import HandS.SortKw
import HandS.HotCalls
import HandS.Head0
import HandS.Head1
import HandS.Head2
import HandS.HeadEnd
import HandS.HeadHook1
import HandS.HeadHook2
import KE.DatumOrd
import KE.GoesRaise
import PySem.Challenge.RW_bankrows_k11_texts_that_tell_no_plan
set_option Elab.async false
set_option synthInstance.maxSize 1000000
set_option synthInstance.maxHeartbeats 4000000
set_option linter.all false
set_option maxRecDepth 100000
set_option maxHeartbeats 1000000
/-! The small layer of this claim: one lemma a reading, by names, so that a step is one refine. -/
namespace Bk
open PySem L2
theorem u65 {k : Nat} {A : Around} (h : Room k A) : A.units + 65 < cLine := by
  have := h.un
  omega
theorem u64 {k : Nat} {A : Around} (h : Room k A) : A.units + 64 < cLine := h.units
/-- a def that keeps its promise, with its object and how its arguments bind -/
abbrev Ok (P : Program) (w : World) (K : PySem.W.Frag) (mg : Str → Option Value) (base : Heap) (CX : CXT) (k : Nat) (f : Addr) (ps : List Str) (sp : Sp) : Prop :=
  ∃ fd : FuncData, FnOk P w K mg base CX k f fd ps sp ∧ Binds K fd ps []
abbrev Fd (K : PySem.W.Frag) (x q : Str) (st : Stmt) (f : Addr) : Prop := ∃ fd : FuncData, FunD K x q (defArgs st) (defBody st) (defScope st) [] [] f fd
section
variable {K : PySem.W.Frag} {σ : St} {H : Hp} {Q : VK} {QB : Bool → Hp → Prop} {QA : List V → Hp → Prop} {QS : St → Hp → Prop} {nx bk ct : St → Hp → Prop} {rt : VK} {ta tb tc te tx to ti : TE} {tt tu : TT} {tr : TA} {g g' : TG} {gs : TGs} {t u : TS} {x y z v : V} {r r' : R2} {E : XK}
theorem w_start {D : Ends} {σ' : L2.St} (e : σ = σ') (h : t D σ' H) : t D σ H := by rw [e]; exact h
theorem w_seq  (h : t ⟨u ⟨nx, rt, bk, ct⟩, rt, bk, ct⟩ σ H) : tSeq t u ⟨nx, rt, bk, ct⟩ σ H := h
theorem w_next  (h : nx σ H) : tNext ⟨nx, rt, bk, ct⟩ σ H := h
theorem w_brk  (h : bk σ H) : tBreak ⟨nx, rt, bk, ct⟩ σ H := h
theorem w_cont  (h : ct σ H) : tCont ⟨nx, rt, bk, ct⟩ σ H := h
theorem w_drop  (h : te σ H fun _ H1 => nx σ H1) : tDrop te ⟨nx, rt, bk, ct⟩ σ H := h
theorem w_ret  (h : te σ H rt) : tRet te ⟨nx, rt, bk, ct⟩ σ H := h
theorem w_retN  (h : rt .non H) : tRetN ⟨nx, rt, bk, ct⟩ σ H := h
theorem w_asg  (h : te σ H fun x H1 => g x σ H1 nx) : tAsg te g ⟨nx, rt, bk, ct⟩ σ H := h
def kIfS (t u : TS) (D : Ends) (σ : St) (b : Bool) (H : Hp) : Prop := if b = true then t D σ H else u D σ H
theorem w_ifS  (h : tt σ H (kIfS t u ⟨nx, rt, bk, ct⟩ σ)) : tIfS tt t u ⟨nx, rt, bk, ct⟩ σ H := h
theorem k_ifT (h : t ⟨nx, rt, bk, ct⟩ σ H) : kIfS t u ⟨nx, rt, bk, ct⟩ σ true H := h
theorem k_ifF (h : u ⟨nx, rt, bk, ct⟩ σ H) : kIfS t u ⟨nx, rt, bk, ct⟩ σ false H := iteF h
theorem k_ifTd {c : Prop} [Decidable c] (hc : c) (h : t ⟨nx, rt, bk, ct⟩ σ H) : kIfS t u ⟨nx, rt, bk, ct⟩ σ (decide c) H := by rw [decide_eq_true hc]; exact h
theorem k_ifFd {c : Prop} [Decidable c] (hc : ¬ c) (h : u ⟨nx, rt, bk, ct⟩ σ H) : kIfS t u ⟨nx, rt, bk, ct⟩ σ (decide c) H := by rw [decide_eq_false hc]; exact iteF h
theorem k_ifTn {c : Prop} [Decidable c] (hc : ¬ c) (h : t ⟨nx, rt, bk, ct⟩ σ H) : kIfS t u ⟨nx, rt, bk, ct⟩ σ (!decide c) H := by rw [decide_eq_false hc]; exact h
theorem k_ifFn {c : Prop} [Decidable c] (hc : c) (h : u ⟨nx, rt, bk, ct⟩ σ H) : kIfS t u ⟨nx, rt, bk, ct⟩ σ (!decide c) H := by rw [decide_eq_true hc]; exact iteF h
theorem k_if2 {b : Bool} (h1 : b = true → t ⟨nx, rt, bk, ct⟩ σ H) (h2 : b = false → u ⟨nx, rt, bk, ct⟩ σ H) : kIfS t u ⟨nx, rt, bk, ct⟩ σ b H := by cases b with | true => exact h1 rfl | false => exact iteF (h2 rfl)
theorem w_c  (h : Q v H) : tC v σ H Q := h
theorem w_v0 {l : List (Option V)} (h : Q v H) : tVar 0 (some v :: l) H Q := ⟨v, rfl, h⟩
theorem w_v1 {o0 : Option V} {l : List (Option V)} (h : Q v H) : tVar 1 (o0 :: some v :: l) H Q := ⟨v, rfl, h⟩
theorem w_v2 {o0 o1 : Option V} {l : List (Option V)} (h : Q v H) : tVar 2 (o0 :: o1 :: some v :: l) H Q := ⟨v, rfl, h⟩
theorem w_v3 {o0 o1 o2 : Option V} {l : List (Option V)} (h : Q v H) : tVar 3 (o0 :: o1 :: o2 :: some v :: l) H Q := ⟨v, rfl, h⟩
theorem w_v4 {o0 o1 o2 o3 : Option V} {l : List (Option V)} (h : Q v H) : tVar 4 (o0 :: o1 :: o2 :: o3 :: some v :: l) H Q := ⟨v, rfl, h⟩
theorem w_v5 {o0 o1 o2 o3 o4 : Option V} {l : List (Option V)} (h : Q v H) : tVar 5 (o0 :: o1 :: o2 :: o3 :: o4 :: some v :: l) H Q := ⟨v, rfl, h⟩
theorem w_v6 {o0 o1 o2 o3 o4 o5 : Option V} {l : List (Option V)} (h : Q v H) : tVar 6 (o0 :: o1 :: o2 :: o3 :: o4 :: o5 :: some v :: l) H Q := ⟨v, rfl, h⟩
theorem w_v7 {o0 o1 o2 o3 o4 o5 o6 : Option V} {l : List (Option V)} (h : Q v H) : tVar 7 (o0 :: o1 :: o2 :: o3 :: o4 :: o5 :: o6 :: some v :: l) H Q := ⟨v, rfl, h⟩
theorem w_v8 {o0 o1 o2 o3 o4 o5 o6 o7 : Option V} {l : List (Option V)} (h : Q v H) : tVar 8 (o0 :: o1 :: o2 :: o3 :: o4 :: o5 :: o6 :: o7 :: some v :: l) H Q := ⟨v, rfl, h⟩
theorem w_v9 {o0 o1 o2 o3 o4 o5 o6 o7 o8 : Option V} {l : List (Option V)} (h : Q v H) : tVar 9 (o0 :: o1 :: o2 :: o3 :: o4 :: o5 :: o6 :: o7 :: o8 :: some v :: l) H Q := ⟨v, rfl, h⟩
theorem w_v10 {o0 o1 o2 o3 o4 o5 o6 o7 o8 o9 : Option V} {l : List (Option V)} (h : Q v H) : tVar 10 (o0 :: o1 :: o2 :: o3 :: o4 :: o5 :: o6 :: o7 :: o8 :: o9 :: some v :: l) H Q := ⟨v, rfl, h⟩
theorem w_v11 {o0 o1 o2 o3 o4 o5 o6 o7 o8 o9 o10 : Option V} {l : List (Option V)} (h : Q v H) : tVar 11 (o0 :: o1 :: o2 :: o3 :: o4 :: o5 :: o6 :: o7 :: o8 :: o9 :: o10 :: some v :: l) H Q := ⟨v, rfl, h⟩
theorem w_v12 {o0 o1 o2 o3 o4 o5 o6 o7 o8 o9 o10 o11 : Option V} {l : List (Option V)} (h : Q v H) : tVar 12 (o0 :: o1 :: o2 :: o3 :: o4 :: o5 :: o6 :: o7 :: o8 :: o9 :: o10 :: o11 :: some v :: l) H Q := ⟨v, rfl, h⟩
theorem w_v13 {o0 o1 o2 o3 o4 o5 o6 o7 o8 o9 o10 o11 o12 : Option V} {l : List (Option V)} (h : Q v H) : tVar 13 (o0 :: o1 :: o2 :: o3 :: o4 :: o5 :: o6 :: o7 :: o8 :: o9 :: o10 :: o11 :: o12 :: some v :: l) H Q := ⟨v, rfl, h⟩
theorem w_v14 {o0 o1 o2 o3 o4 o5 o6 o7 o8 o9 o10 o11 o12 o13 : Option V} {l : List (Option V)} (h : Q v H) : tVar 14 (o0 :: o1 :: o2 :: o3 :: o4 :: o5 :: o6 :: o7 :: o8 :: o9 :: o10 :: o11 :: o12 :: o13 :: some v :: l) H Q := ⟨v, rfl, h⟩
theorem w_v15 {o0 o1 o2 o3 o4 o5 o6 o7 o8 o9 o10 o11 o12 o13 o14 : Option V} {l : List (Option V)} (h : Q v H) : tVar 15 (o0 :: o1 :: o2 :: o3 :: o4 :: o5 :: o6 :: o7 :: o8 :: o9 :: o10 :: o11 :: o12 :: o13 :: o14 :: some v :: l) H Q := ⟨v, rfl, h⟩
theorem w_v16 {o0 o1 o2 o3 o4 o5 o6 o7 o8 o9 o10 o11 o12 o13 o14 o15 : Option V} {l : List (Option V)} (h : Q v H) : tVar 16 (o0 :: o1 :: o2 :: o3 :: o4 :: o5 :: o6 :: o7 :: o8 :: o9 :: o10 :: o11 :: o12 :: o13 :: o14 :: o15 :: some v :: l) H Q := ⟨v, rfl, h⟩
theorem w_v17 {o0 o1 o2 o3 o4 o5 o6 o7 o8 o9 o10 o11 o12 o13 o14 o15 o16 : Option V} {l : List (Option V)} (h : Q v H) : tVar 17 (o0 :: o1 :: o2 :: o3 :: o4 :: o5 :: o6 :: o7 :: o8 :: o9 :: o10 :: o11 :: o12 :: o13 :: o14 :: o15 :: o16 :: some v :: l) H Q := ⟨v, rfl, h⟩
theorem w_v18 {o0 o1 o2 o3 o4 o5 o6 o7 o8 o9 o10 o11 o12 o13 o14 o15 o16 o17 : Option V} {l : List (Option V)} (h : Q v H) : tVar 18 (o0 :: o1 :: o2 :: o3 :: o4 :: o5 :: o6 :: o7 :: o8 :: o9 :: o10 :: o11 :: o12 :: o13 :: o14 :: o15 :: o16 :: o17 :: some v :: l) H Q := ⟨v, rfl, h⟩
theorem w_v19 {o0 o1 o2 o3 o4 o5 o6 o7 o8 o9 o10 o11 o12 o13 o14 o15 o16 o17 o18 : Option V} {l : List (Option V)} (h : Q v H) : tVar 19 (o0 :: o1 :: o2 :: o3 :: o4 :: o5 :: o6 :: o7 :: o8 :: o9 :: o10 :: o11 :: o12 :: o13 :: o14 :: o15 :: o16 :: o17 :: o18 :: some v :: l) H Q := ⟨v, rfl, h⟩
theorem w_v20 {o0 o1 o2 o3 o4 o5 o6 o7 o8 o9 o10 o11 o12 o13 o14 o15 o16 o17 o18 o19 : Option V} {l : List (Option V)} (h : Q v H) : tVar 20 (o0 :: o1 :: o2 :: o3 :: o4 :: o5 :: o6 :: o7 :: o8 :: o9 :: o10 :: o11 :: o12 :: o13 :: o14 :: o15 :: o16 :: o17 :: o18 :: o19 :: some v :: l) H Q := ⟨v, rfl, h⟩
theorem w_v21 {o0 o1 o2 o3 o4 o5 o6 o7 o8 o9 o10 o11 o12 o13 o14 o15 o16 o17 o18 o19 o20 : Option V} {l : List (Option V)} (h : Q v H) : tVar 21 (o0 :: o1 :: o2 :: o3 :: o4 :: o5 :: o6 :: o7 :: o8 :: o9 :: o10 :: o11 :: o12 :: o13 :: o14 :: o15 :: o16 :: o17 :: o18 :: o19 :: o20 :: some v :: l) H Q := ⟨v, rfl, h⟩
theorem g_n0 {o : Option V} {l : List (Option V)} (h : QS (some v :: l) H) : gName 0 v (o :: l) H QS := h
theorem g_n1 {o0 : Option V} {o : Option V} {l : List (Option V)} (h : QS (o0 :: some v :: l) H) : gName 1 v (o0 :: o :: l) H QS := h
theorem g_n2 {o0 o1 : Option V} {o : Option V} {l : List (Option V)} (h : QS (o0 :: o1 :: some v :: l) H) : gName 2 v (o0 :: o1 :: o :: l) H QS := h
theorem g_n3 {o0 o1 o2 : Option V} {o : Option V} {l : List (Option V)} (h : QS (o0 :: o1 :: o2 :: some v :: l) H) : gName 3 v (o0 :: o1 :: o2 :: o :: l) H QS := h
theorem g_n4 {o0 o1 o2 o3 : Option V} {o : Option V} {l : List (Option V)} (h : QS (o0 :: o1 :: o2 :: o3 :: some v :: l) H) : gName 4 v (o0 :: o1 :: o2 :: o3 :: o :: l) H QS := h
theorem g_n5 {o0 o1 o2 o3 o4 : Option V} {o : Option V} {l : List (Option V)} (h : QS (o0 :: o1 :: o2 :: o3 :: o4 :: some v :: l) H) : gName 5 v (o0 :: o1 :: o2 :: o3 :: o4 :: o :: l) H QS := h
theorem g_n6 {o0 o1 o2 o3 o4 o5 : Option V} {o : Option V} {l : List (Option V)} (h : QS (o0 :: o1 :: o2 :: o3 :: o4 :: o5 :: some v :: l) H) : gName 6 v (o0 :: o1 :: o2 :: o3 :: o4 :: o5 :: o :: l) H QS := h
theorem g_n7 {o0 o1 o2 o3 o4 o5 o6 : Option V} {o : Option V} {l : List (Option V)} (h : QS (o0 :: o1 :: o2 :: o3 :: o4 :: o5 :: o6 :: some v :: l) H) : gName 7 v (o0 :: o1 :: o2 :: o3 :: o4 :: o5 :: o6 :: o :: l) H QS := h
theorem g_n8 {o0 o1 o2 o3 o4 o5 o6 o7 : Option V} {o : Option V} {l : List (Option V)} (h : QS (o0 :: o1 :: o2 :: o3 :: o4 :: o5 :: o6 :: o7 :: some v :: l) H) : gName 8 v (o0 :: o1 :: o2 :: o3 :: o4 :: o5 :: o6 :: o7 :: o :: l) H QS := h
theorem g_n9 {o0 o1 o2 o3 o4 o5 o6 o7 o8 : Option V} {o : Option V} {l : List (Option V)} (h : QS (o0 :: o1 :: o2 :: o3 :: o4 :: o5 :: o6 :: o7 :: o8 :: some v :: l) H) : gName 9 v (o0 :: o1 :: o2 :: o3 :: o4 :: o5 :: o6 :: o7 :: o8 :: o :: l) H QS := h
theorem g_n10 {o0 o1 o2 o3 o4 o5 o6 o7 o8 o9 : Option V} {o : Option V} {l : List (Option V)} (h : QS (o0 :: o1 :: o2 :: o3 :: o4 :: o5 :: o6 :: o7 :: o8 :: o9 :: some v :: l) H) : gName 10 v (o0 :: o1 :: o2 :: o3 :: o4 :: o5 :: o6 :: o7 :: o8 :: o9 :: o :: l) H QS := h
theorem g_n11 {o0 o1 o2 o3 o4 o5 o6 o7 o8 o9 o10 : Option V} {o : Option V} {l : List (Option V)} (h : QS (o0 :: o1 :: o2 :: o3 :: o4 :: o5 :: o6 :: o7 :: o8 :: o9 :: o10 :: some v :: l) H) : gName 11 v (o0 :: o1 :: o2 :: o3 :: o4 :: o5 :: o6 :: o7 :: o8 :: o9 :: o10 :: o :: l) H QS := h
theorem g_n12 {o0 o1 o2 o3 o4 o5 o6 o7 o8 o9 o10 o11 : Option V} {o : Option V} {l : List (Option V)} (h : QS (o0 :: o1 :: o2 :: o3 :: o4 :: o5 :: o6 :: o7 :: o8 :: o9 :: o10 :: o11 :: some v :: l) H) : gName 12 v (o0 :: o1 :: o2 :: o3 :: o4 :: o5 :: o6 :: o7 :: o8 :: o9 :: o10 :: o11 :: o :: l) H QS := h
theorem g_n13 {o0 o1 o2 o3 o4 o5 o6 o7 o8 o9 o10 o11 o12 : Option V} {o : Option V} {l : List (Option V)} (h : QS (o0 :: o1 :: o2 :: o3 :: o4 :: o5 :: o6 :: o7 :: o8 :: o9 :: o10 :: o11 :: o12 :: some v :: l) H) : gName 13 v (o0 :: o1 :: o2 :: o3 :: o4 :: o5 :: o6 :: o7 :: o8 :: o9 :: o10 :: o11 :: o12 :: o :: l) H QS := h
theorem g_n14 {o0 o1 o2 o3 o4 o5 o6 o7 o8 o9 o10 o11 o12 o13 : Option V} {o : Option V} {l : List (Option V)} (h : QS (o0 :: o1 :: o2 :: o3 :: o4 :: o5 :: o6 :: o7 :: o8 :: o9 :: o10 :: o11 :: o12 :: o13 :: some v :: l) H) : gName 14 v (o0 :: o1 :: o2 :: o3 :: o4 :: o5 :: o6 :: o7 :: o8 :: o9 :: o10 :: o11 :: o12 :: o13 :: o :: l) H QS := h
theorem g_n15 {o0 o1 o2 o3 o4 o5 o6 o7 o8 o9 o10 o11 o12 o13 o14 : Option V} {o : Option V} {l : List (Option V)} (h : QS (o0 :: o1 :: o2 :: o3 :: o4 :: o5 :: o6 :: o7 :: o8 :: o9 :: o10 :: o11 :: o12 :: o13 :: o14 :: some v :: l) H) : gName 15 v (o0 :: o1 :: o2 :: o3 :: o4 :: o5 :: o6 :: o7 :: o8 :: o9 :: o10 :: o11 :: o12 :: o13 :: o14 :: o :: l) H QS := h
theorem g_n16 {o0 o1 o2 o3 o4 o5 o6 o7 o8 o9 o10 o11 o12 o13 o14 o15 : Option V} {o : Option V} {l : List (Option V)} (h : QS (o0 :: o1 :: o2 :: o3 :: o4 :: o5 :: o6 :: o7 :: o8 :: o9 :: o10 :: o11 :: o12 :: o13 :: o14 :: o15 :: some v :: l) H) : gName 16 v (o0 :: o1 :: o2 :: o3 :: o4 :: o5 :: o6 :: o7 :: o8 :: o9 :: o10 :: o11 :: o12 :: o13 :: o14 :: o15 :: o :: l) H QS := h
theorem g_n17 {o0 o1 o2 o3 o4 o5 o6 o7 o8 o9 o10 o11 o12 o13 o14 o15 o16 : Option V} {o : Option V} {l : List (Option V)} (h : QS (o0 :: o1 :: o2 :: o3 :: o4 :: o5 :: o6 :: o7 :: o8 :: o9 :: o10 :: o11 :: o12 :: o13 :: o14 :: o15 :: o16 :: some v :: l) H) : gName 17 v (o0 :: o1 :: o2 :: o3 :: o4 :: o5 :: o6 :: o7 :: o8 :: o9 :: o10 :: o11 :: o12 :: o13 :: o14 :: o15 :: o16 :: o :: l) H QS := h
theorem g_n18 {o0 o1 o2 o3 o4 o5 o6 o7 o8 o9 o10 o11 o12 o13 o14 o15 o16 o17 : Option V} {o : Option V} {l : List (Option V)} (h : QS (o0 :: o1 :: o2 :: o3 :: o4 :: o5 :: o6 :: o7 :: o8 :: o9 :: o10 :: o11 :: o12 :: o13 :: o14 :: o15 :: o16 :: o17 :: some v :: l) H) : gName 18 v (o0 :: o1 :: o2 :: o3 :: o4 :: o5 :: o6 :: o7 :: o8 :: o9 :: o10 :: o11 :: o12 :: o13 :: o14 :: o15 :: o16 :: o17 :: o :: l) H QS := h
theorem g_n19 {o0 o1 o2 o3 o4 o5 o6 o7 o8 o9 o10 o11 o12 o13 o14 o15 o16 o17 o18 : Option V} {o : Option V} {l : List (Option V)} (h : QS (o0 :: o1 :: o2 :: o3 :: o4 :: o5 :: o6 :: o7 :: o8 :: o9 :: o10 :: o11 :: o12 :: o13 :: o14 :: o15 :: o16 :: o17 :: o18 :: some v :: l) H) : gName 19 v (o0 :: o1 :: o2 :: o3 :: o4 :: o5 :: o6 :: o7 :: o8 :: o9 :: o10 :: o11 :: o12 :: o13 :: o14 :: o15 :: o16 :: o17 :: o18 :: o :: l) H QS := h
theorem g_n20 {o0 o1 o2 o3 o4 o5 o6 o7 o8 o9 o10 o11 o12 o13 o14 o15 o16 o17 o18 o19 : Option V} {o : Option V} {l : List (Option V)} (h : QS (o0 :: o1 :: o2 :: o3 :: o4 :: o5 :: o6 :: o7 :: o8 :: o9 :: o10 :: o11 :: o12 :: o13 :: o14 :: o15 :: o16 :: o17 :: o18 :: o19 :: some v :: l) H) : gName 20 v (o0 :: o1 :: o2 :: o3 :: o4 :: o5 :: o6 :: o7 :: o8 :: o9 :: o10 :: o11 :: o12 :: o13 :: o14 :: o15 :: o16 :: o17 :: o18 :: o19 :: o :: l) H QS := h
theorem g_n21 {o0 o1 o2 o3 o4 o5 o6 o7 o8 o9 o10 o11 o12 o13 o14 o15 o16 o17 o18 o19 o20 : Option V} {o : Option V} {l : List (Option V)} (h : QS (o0 :: o1 :: o2 :: o3 :: o4 :: o5 :: o6 :: o7 :: o8 :: o9 :: o10 :: o11 :: o12 :: o13 :: o14 :: o15 :: o16 :: o17 :: o18 :: o19 :: o20 :: some v :: l) H) : gName 21 v (o0 :: o1 :: o2 :: o3 :: o4 :: o5 :: o6 :: o7 :: o8 :: o9 :: o10 :: o11 :: o12 :: o13 :: o14 :: o15 :: o16 :: o17 :: o18 :: o19 :: o20 :: o :: l) H QS := h
def kOp (r : R2) (tb : TE) (σ : St) (Q : VK) (x : V) (H : Hp) : Prop := tb σ H fun y H2 => r x y H2 Q
theorem w_op  (h : ta σ H (kOp r tb σ Q)) : tOp r ta tb σ H Q := h
theorem k_op  (h : tb σ H fun y H2 => r x y H2 Q) : kOp r tb σ Q x H := h
theorem w_un {ru : V → Hp → VK → Prop} (h : ta σ H fun x H1 => ru x H1 Q) : tUn ru ta σ H Q := h
theorem r_I0 {f : Int → Int → V} {i j : Int} (h : Q (f i j) H) : rI0 f (.int i) (.int j) H Q := ⟨i, j, rfl, rfl, h⟩
theorem r_I {C : Int → Int → Prop} {f : Int → Int → V} {i j : Int} (hc : C i j) (h : Q (f i j) H) : rI C f (.int i) (.int j) H Q := ⟨i, j, rfl, rfl, hc, h⟩
theorem r_U {f : Int → V} {i : Int} (h : Q (f i) H) : rU f (.int i) H Q := ⟨i, rfl, h⟩
theorem r_eqI {i j : Int} (h : Q (.bl (decide (i = j))) H) : rEq (.int i) (.int j) H Q := ⟨rfl, by have e : decide (V.int i = V.int j) = decide (i = j) := (by simp); rw [e]; exact h⟩
theorem r_neI {i j : Int} (h : Q (.bl (!decide (i = j))) H) : rNe (.int i) (.int j) H Q := ⟨rfl, by have e : decide (V.int i = V.int j) = decide (i = j) := (by simp); rw [e]; exact h⟩
theorem r_eqB {a b : Bool} (h : Q (.bl (a == b)) H) : rEq (.bl a) (.bl b) H Q := ⟨rfl, by have e : decide (V.bl a = V.bl b) = (a == b) := (by cases a <;> cases b <;> rfl); rw [e]; exact h⟩
theorem r_neB {a b : Bool} (h : Q (.bl (!(a == b))) H) : rNe (.bl a) (.bl b) H Q := ⟨rfl, by have e : decide (V.bl a = V.bl b) = (a == b) := (by cases a <;> cases b <;> rfl); rw [e]; exact h⟩
theorem r_eqS {a b : Str} (h : Q (.bl (decide (a = b))) H) : rEq (.str a) (.str b) H Q := ⟨rfl, by have e : decide (V.str a = V.str b) = decide (a = b) := (by simp); rw [e]; exact h⟩
theorem r_neS {a b : Str} (h : Q (.bl (!decide (a = b))) H) : rNe (.str a) (.str b) H Q := ⟨rfl, by have e : decide (V.str a = V.str b) = decide (a = b) := (by simp); rw [e]; exact h⟩
theorem k_eqg (hs : scal x y = true) (h : Q (.bl (decide (x = y))) H) : rEq x y H Q := ⟨hs, h⟩
theorem k_neg (hs : scal x y = true) (h : Q (.bl (!decide (x = y))) H) : rNe x y H Q := ⟨hs, h⟩
def kTest (QB : Bool → Hp → Prop) (x : V) (H : Hp) : Prop := ∃ k, x = .bl k ∧ QB k H
theorem w_test  (h : te σ H (kTest QB)) : tTest te σ H QB := h
theorem w_B  (h : te σ H (kTest QB)) : tB te σ H QB := h
theorem k_test {b : Bool} (h : QB b H) : kTest QB (.bl b) H := ⟨b, rfl, h⟩
theorem w_not  (h : tt σ H fun c H1 => QB (!c) H1) : tNot tt σ H QB := h
def kAnd (tu : TT) (σ : St) (QB : Bool → Hp → Prop) (c : Bool) (H : Hp) : Prop := if c = true then tu σ H QB else QB false H
def kOr (tu : TT) (σ : St) (QB : Bool → Hp → Prop) (c : Bool) (H : Hp) : Prop := if c = true then QB true H else tu σ H QB
theorem w_and  (h : tt σ H (kAnd tu σ QB)) : tAnd tt tu σ H QB := h
theorem w_or  (h : tt σ H (kOr tu σ QB)) : tOr tt tu σ H QB := h
theorem k_andT  (h : tu σ H QB) : kAnd tu σ QB true H := h
theorem k_andF  (h : QB false H) : kAnd tu σ QB false H := iteF h
theorem k_orT  (h : QB true H) : kOr tu σ QB true H := h
theorem k_orF  (h : tu σ H QB) : kOr tu σ QB false H := iteF h
theorem k_and2 {c : Bool} (h1 : c = true → tu σ H QB) (h2 : c = false → QB false H) : kAnd tu σ QB c H := by cases c with | true => exact h1 rfl | false => exact iteF (h2 rfl)
theorem k_or2 {c : Bool} (h1 : c = true → QB true H) (h2 : c = false → tu σ H QB) : kOr tu σ QB c H := by cases c with | true => exact h1 rfl | false => exact iteF (h2 rfl)
def kAndV (tb : TE) (σ : St) (Q : VK) (x : V) (H : Hp) : Prop := ∃ c, x = .bl c ∧ if c = true then tb σ H Q else Q (.bl false) H
def kOrV (tb : TE) (σ : St) (Q : VK) (x : V) (H : Hp) : Prop := ∃ c, x = .bl c ∧ if c = true then Q (.bl true) H else tb σ H Q
theorem w_andV  (h : ta σ H (kAndV tb σ Q)) : tAndV ta tb σ H Q := h
theorem w_orV  (h : ta σ H (kOrV tb σ Q)) : tOrV ta tb σ H Q := h
theorem k_andVT  (h : tb σ H Q) : kAndV tb σ Q (.bl true) H := ⟨true, rfl, h⟩
theorem k_andVF  (h : Q (.bl false) H) : kAndV tb σ Q (.bl false) H := ⟨false, rfl, iteF h⟩
theorem k_orVT  (h : Q (.bl true) H) : kOrV tb σ Q (.bl true) H := ⟨true, rfl, h⟩
theorem k_orVF  (h : tb σ H Q) : kOrV tb σ Q (.bl false) H := ⟨false, rfl, iteF h⟩
theorem k_andV2 {c : Bool} (h1 : c = true → tb σ H Q) (h2 : c = false → Q (.bl false) H) : kAndV tb σ Q (.bl c) H := by cases c with | true => exact ⟨true, rfl, h1 rfl⟩ | false => exact ⟨false, rfl, iteF (h2 rfl)⟩
theorem k_orV2 {c : Bool} (h1 : c = true → Q (.bl true) H) (h2 : c = false → tb σ H Q) : kOrV tb σ Q (.bl c) H := by cases c with | true => exact ⟨true, rfl, h1 rfl⟩ | false => exact ⟨false, rfl, iteF (h2 rfl)⟩
def kNotV (Q : VK) (x : V) (H : Hp) : Prop := ∃ c, x = .bl c ∧ Q (.bl (!c)) H
theorem w_notV  (h : ta σ H (kNotV Q)) : tNotV ta σ H Q := h
theorem k_notV {c : Bool} (h : Q (.bl (!c)) H) : kNotV Q (.bl c) H := ⟨c, rfl, h⟩
def kIf (ta tb : TE) (σ : St) (Q : VK) (c : Bool) (H : Hp) : Prop := if c = true then ta σ H Q else tb σ H Q
theorem w_if  (h : tt σ H (kIf ta tb σ Q)) : tIf tt ta tb σ H Q := h
theorem k_ifET  (h : ta σ H Q) : kIf ta tb σ Q true H := h
theorem k_ifEF  (h : tb σ H Q) : kIf ta tb σ Q false H := iteF h
theorem k_ifE2 {b : Bool} (h1 : b = true → ta σ H Q) (h2 : b = false → tb σ H Q) : kIf ta tb σ Q b H := by cases b with | true => exact h1 rfl | false => exact iteF (h2 rfl)
def kChain (tc : TE) (r' : R2) (σ : St) (Q : VK) (y z : V) (H : Hp) : Prop := ∃ k, z = .bl k ∧ (if k = true then tc σ H fun w' H4 => r' y w' H4 Q else Q (.bl false) H)
def kChain1 (r r' : R2) (tb tc : TE) (σ : St) (Q : VK) (x : V) (H : Hp) : Prop := tb σ H fun y H2 => r x y H2 (kChain tc r' σ Q y)
theorem w_chain  (h : ta σ H (kChain1 r r' tb tc σ Q)) : tChain r r' ta tb tc σ H Q := h
theorem k_chain1  (h : tb σ H fun y H2 => r x y H2 (kChain tc r' σ Q y)) : kChain1 r r' tb tc σ Q x H := h
theorem k_chT  (h : tc σ H fun w' H4 => r' y w' H4 Q) : kChain tc r' σ Q y (.bl true) H := ⟨true, rfl, h⟩
theorem k_chF  (h : Q (.bl false) H) : kChain tc r' σ Q y (.bl false) H := ⟨false, rfl, iteF h⟩
theorem k_ch2 {b : Bool} (h1 : b = true → tc σ H fun w' H4 => r' y w' H4 Q) (h2 : b = false → Q (.bl false) H) : kChain tc r' σ Q y (.bl b) H := by cases b with | true => exact ⟨true, rfl, h1 rfl⟩ | false => exact ⟨false, rfl, iteF (h2 rfl)⟩
theorem w_nil  (h : QA [] H) : tNil σ H QA := h
def kCons (tr : TA) (σ : St) (QA : List V → Hp → Prop) (x : V) (H : Hp) : Prop := tr σ H fun xs H2 => QA (x :: xs) H2
theorem w_cons  (h : te σ H (kCons tr σ QA)) : tCons te tr σ H QA := h
theorem k_cons  (h : tr σ H fun xs H2 => QA (x :: xs) H2) : kCons tr σ QA x H := h
def kTup (Q : VK) (xs : List V) (H : Hp) : Prop := xs.length ≤ sizeLine ∧ ∀ p, H p = none → Q (.ref p) (upd H p (.tup xs))
def kLst (Q : VK) (xs : List V) (H : Hp) : Prop := xs.length ≤ sizeLine ∧ ∀ p, H p = none → Q (.ref p) (upd H p (.lst xs))
theorem w_tup  (h : tr σ H (kTup Q)) : tTup tr σ H Q := h
theorem w_lst  (h : tr σ H (kLst Q)) : tLst tr σ H Q := h
theorem k_tup {xs : List V} (hl : xs.length ≤ sizeLine) (h : ∀ p, H p = none → Q (.ref p) (upd H p (.tup xs))) : kTup Q xs H := ⟨hl, h⟩
theorem Same.new {p : Addr} {o : HO} (h : H p = none) : Same H (upd H p o) := fun a u e => by rw [upd_ne (ne_of_none e h)]; exact e
theorem s_tup {xs : List V} (hl : xs.length ≤ sizeLine) (h : ∀ p, H p = none → Same H (upd H p (.tup xs)) → Q (.ref p) (upd H p (.tup xs))) : kTup Q xs H := ⟨hl, fun p np => h p np (Same.new np)⟩
theorem s_lst {xs : List V} (hl : xs.length ≤ sizeLine) (h : ∀ p, H p = none → Same H (upd H p (.lst xs)) → Q (.ref p) (upd H p (.lst xs))) : kLst Q xs H := ⟨hl, fun p np => h p np (Same.new np)⟩
theorem k_lst {xs : List V} (hl : xs.length ≤ sizeLine) (h : ∀ p, H p = none → Q (.ref p) (upd H p (.lst xs))) : kLst Q xs H := ⟨hl, h⟩
theorem sz_of {n : Nat} (h : n ≤ 100000) : n ≤ sizeLine := Nat.le_trans h (by decide)
theorem sz_lt {n : Nat} (h : n < 100000) : n < sizeLine := Nat.lt_of_lt_of_le h (by decide)
theorem w_cb {rb : List V → Hp → VK → Prop} (h : tr σ H fun vs H1 => rb vs H1 Q) : tCB rb tr σ H Q := h
def kCall (sp : Sp) (E : XK) (Q : VK) (vs : List V) (H : Hp) : Prop := sp vs H Q E
theorem w_call {sp : Sp} (h : tr σ H (kCall sp E Q)) : tCall sp [] E tr σ H Q := (by have e : tCall sp [] E tr σ H Q = tr σ H (fun vs H1 => sp (vs ++ []) H1 Q E) := rfl; rw [e]; simp only [List.append_nil]; exact h)
def kMake (C : Addr) (sp : Sp) (E : XK) (Q : VK) (vs : List V) (H : Hp) : Prop := ∀ x dx, H x = none → H dx = none → dx ≠ x → sp (.ref x :: vs) (upd (upd H dx (.own x)) x (.ins C dx [])) (fun v H2 => v = .non ∧ Q (.ref x) H2) E
theorem w_make {C : Addr} {sp : Sp} (h : tr σ H (kMake C sp E Q)) : tMake C sp [] E tr σ H Q := (by have e : tMake C sp [] E tr σ H Q = tr σ H (fun vs H1 => ∀ x dx, H1 x = none → H1 dx = none → dx ≠ x → sp (.ref x :: (vs ++ [])) (upd (upd H1 dx (.own x)) x (.ins C dx [])) (fun v H2 => v = .non ∧ Q (.ref x) H2) E) := rfl; rw [e]; simp only [List.append_nil]; exact h)
def kMeth (C : Addr) (m : Str) (sp : Sp) (E : XK) (tr : TA) (σ : St) (Q : VK) (x : V) (H : Hp) : Prop := ∃ a dx fs, x = .ref a ∧ H a = some (.ins C dx fs) ∧ fs.lookup m = none ∧ tr σ H fun vs H2 => sp (x :: vs) H2 Q E
theorem w_meth {C : Addr} {m : Str} {sp : Sp} (h : ta σ H (kMeth C m sp E tr σ Q)) : tMeth C m sp [] E ta tr σ H Q := (by have e : tMeth C m sp [] E ta tr σ H Q = ta σ H (fun x H1 => ∃ a dx fs, x = .ref a ∧ H1 a = some (.ins C dx fs) ∧ fs.lookup m = none ∧ tr σ H1 fun vs H2 => sp (x :: (vs ++ [])) H2 Q E) := rfl; rw [e]; simp only [List.append_nil]; exact h)
theorem k_meth {C : Addr} {m : Str} {sp : Sp} {p dx : Addr} {fs : List (Str × V)} (ho : H p = some (.ins C dx fs)) (hl : fs.lookup m = none) (h : tr σ H fun vs H2 => kCall sp E Q (.ref p :: vs) H2) : kMeth C m sp E tr σ Q (.ref p) H := ⟨p, dx, fs, rfl, ho, hl, h⟩
def kFld (K : PySem.W.Frag) (f : Str) (Q : VK) (x : V) (H : Hp) : Prop := ∃ a C dx fs v, x = .ref a ∧ H a = some (.ins C dx fs) ∧ Cls K C ∧ NoAttr K C f ∧ fs.lookup f = some v ∧ Q v H
theorem w_fld {f : Str} (h : ta σ H (kFld K f Q)) : tFld K ta f σ H Q := h
theorem k_fld {f : Str} {p C dx : Addr} {fs : List (Str × V)} (ho : H p = some (.ins C dx fs)) (c : Cls K C) (n : NoAttr K C f) (l : fs.lookup f = some v) (h : Q v H) : kFld K f Q (.ref p) H := ⟨p, C, dx, fs, v, rfl, ho, c, n, l, h⟩
def kSFld (K : PySem.W.Frag) (f : Str) (nx : St → Hp → Prop) (σ : St) (y x : V) (H : Hp) : Prop := ∃ a C dx fs, x = .ref a ∧ H a = some (.ins C dx fs) ∧ Cls K C ∧ NoAttr K C f ∧ fs.length < 1000 ∧ nx σ (upd H a (.ins C dx (putF f y fs)))
theorem w_sfld {f : Str} {tv : TE} (h : tv σ H fun y H1 => ta σ H1 (kSFld K f nx σ y)) : sFld K ta tv f ⟨nx, rt, bk, ct⟩ σ H := h
theorem k_sfld {f : Str} {p C dx : Addr} {fs fs' : List (Str × V)} (ho : H p = some (.ins C dx fs)) (c : Cls K C) (n : NoAttr K C f) (hl : fs.length < 1000) (e : putF f y fs = fs') (h : nx σ (upd H p (.ins C dx fs'))) : kSFld K f nx σ y (.ref p) H := ⟨p, C, dx, fs, rfl, ho, c, n, hl, by rw [e]; exact h⟩
theorem g_nil  (h : QS σ H) : gNil [] σ H QS := ⟨rfl, h⟩
theorem g_cons {l : List V} (h : g x σ H fun σ' H' => gs l σ' H' QS) : gCons g gs (x :: l) σ H QS := ⟨x, l, rfl, h⟩
theorem g_tup {n : Nat} {p : Addr} {xs : List V} (hp : SqT K H p xs) (hl : xs.length = n) (h : gs xs σ H QS) : gTup K n gs (.ref p) σ H QS := ⟨p, xs, rfl, hp, hl, h⟩
def kGSub (ti : TE) (ts : TSet) (σ : St) (v : V) (QS : St → Hp → Prop) (o : V) (H : Hp) : Prop := ti σ H fun i H2 => ts o i v H2 fun H3 => QS σ H3
theorem g_sub {ts : TSet} (h : to σ H (kGSub ti ts σ v QS)) : gSub to ti ts v σ H QS := h
theorem k_gsub {ts : TSet} {o : V} (h : ti σ H fun i H2 => ts o i v H2 fun H3 => QS σ H3) : kGSub ti ts σ v QS o H := h
theorem r_setL {p : Addr} {xs : List V} {i : Int} {j : Nat} {QH : Hp → Prop} (hp : H p = some (.lst xs)) (hj : ixN xs.length i = some j) (h : QH (upd H p (.lst (xs.set j v)))) : rSetL (.ref p) (.int i) v H QH := ⟨p, xs, i, j, rfl, rfl, hp, hj, h⟩
theorem r_ixL {p : Addr} {xs : List V} {i : Int} (hp : SqL K H p xs) (ha : atI xs i = some v) (h : Q v H) : rIxL K (.ref p) (.int i) H Q := ⟨p, xs, i, v, rfl, rfl, hp, ha, h⟩
theorem r_ixT {p : Addr} {xs : List V} {i : Int} (hp : SqT K H p xs) (ha : atI xs i = some v) (h : Q v H) : rIxT K (.ref p) (.int i) H Q := ⟨p, xs, i, v, rfl, rfl, hp, ha, h⟩
theorem r_ixS {a : Str} {i : Int} {c : Nat} (hl : a.length ≤ sizeLine) (ha : atI a.cps.toList i = some c) (h : Q (.str ⟨#[c]⟩) H) : rIxS (.str a) (.int i) H Q := ⟨a, i, c, rfl, rfl, hl, ha, h⟩
/-! built-ins by named readings -/
def qLen (K : PySem.W.Frag) : List V → Hp → VK → Prop := fun xs H Q => ∃ p ys, xs = [.ref p] ∧ (SqL K H p ys ∨ SqT K H p ys) ∧ Q (.int ys.length) H
theorem call_lenN {X : Cx} : CallR X (.builtin "len") (qLen X.K) := call_len_seq
theorem b_lenL {p : Addr} {ys : List V} (hp : SqL K H p ys) (h : Q (.int ys.length) H) : qLen K [.ref p] H Q := ⟨p, ys, rfl, .inl hp, h⟩
theorem b_lenT {p : Addr} {ys : List V} (hp : SqT K H p ys) (h : Q (.int ys.length) H) : qLen K [.ref p] H Q := ⟨p, ys, rfl, .inr hp, h⟩
def qLenS : List V → Hp → VK → Prop := fun xs H Q => ∃ z, xs = [.str z] ∧ z.length ≤ sizeLine ∧ Q (.int z.length) H
theorem call_lenSN {X : Cx} : CallR X (.builtin "len") qLenS := call_len_str
theorem b_lenS {z : Str} (hp : z.length ≤ sizeLine) (h : Q (.int z.length) H) : qLenS [.str z] H Q := ⟨z, rfl, hp, h⟩
def qAbs : List V → Hp → VK → Prop := fun xs H Q => ∃ i, xs = [.int i] ∧ Q (.int (if i < 0 then -i else i)) H
theorem call_absN {X : Cx} : CallR X (.builtin "abs") qAbs := call_abs
theorem b_abs {i : Int} (h : Q (.int (if i < 0 then -i else i)) H) : qAbs [.int i] H Q := ⟨i, rfl, h⟩
def qMax2 : List V → Hp → VK → Prop := fun xs H Q => ∃ i j, xs = [.int i, .int j] ∧ Q (.int (if j > i then j else i)) H
theorem call_max2N {X : Cx} (hc : X.calm = true) : CallR X (.builtin "max") qMax2 := call_max2 hc
theorem b_max2 {i j : Int} (h : Q (.int (if j > i then j else i)) H) : qMax2 [.int i, .int j] H Q := ⟨i, j, rfl, h⟩
def qMin2 : List V → Hp → VK → Prop := fun xs H Q => ∃ i j, xs = [.int i, .int j] ∧ Q (.int (if j < i then j else i)) H
theorem call_min2N {X : Cx} (hc : X.calm = true) : CallR X (.builtin "min") qMin2 := call_min2 hc
theorem b_min2 {i j : Int} (h : Q (.int (if j < i then j else i)) H) : qMin2 [.int i, .int j] H Q := ⟨i, j, rfl, h⟩
def qInt1 : List V → Hp → VK → Prop := fun xs H Q => (∃ i, xs = [.int i] ∧ Q (.int i) H) ∨ ∃ k, xs = [.bl k] ∧ Q (.int (if k then 1 else 0)) H
theorem call_int1N {X : Cx} : CallR X (.type "int") qInt1 := call_int1
theorem b_intB {k : Bool} (h : Q (.int (if k then 1 else 0)) H) : qInt1 [.bl k] H Q := .inr ⟨k, rfl, h⟩
theorem b_intI {i : Int} (h : Q (.int i) H) : qInt1 [.int i] H Q := .inl ⟨i, rfl, h⟩
def qStr : List V → Hp → VK → Prop := fun xs H Q => ∃ i, xs = [.int i] ∧ i.natAbs.log2 < 1920 ∧ Q (.str (toString i)) H
theorem call_strN {X : Cx} : CallR X (.type "str") qStr := call_str_int
theorem b_str {i : Int} (hl : i.natAbs.log2 < 1920) (h : Q (.str (toString i)) H) : qStr [.int i] H Q := ⟨i, rfl, hl, h⟩
def qTupOf (K : PySem.W.Frag) : List V → Hp → VK → Prop := fun xs H Q => ∃ p ys, xs = [.ref p] ∧ ((SqL K H p ys ∧ ∀ l, H l = none → Q (.ref l) (upd H l (.tup ys))) ∨ (SqT K H p ys ∧ Q (.ref p) H))
theorem call_tupN {X : Cx} : CallR X (.type "tuple") (qTupOf X.K) := call_tuple_of
theorem b_tupL {p : Addr} {ys : List V} (hp : SqL K H p ys) (h : ∀ l, H l = none → Q (.ref l) (upd H l (.tup ys))) : qTupOf K [.ref p] H Q := ⟨p, ys, rfl, .inl ⟨hp, h⟩⟩
theorem s_tupL {p : Addr} {ys : List V} (hp : SqL K H p ys) (h : ∀ l, H l = none → Same H (upd H l (.tup ys)) → Q (.ref l) (upd H l (.tup ys))) : qTupOf K [.ref p] H Q := ⟨p, ys, rfl, .inl ⟨hp, fun l nl => h l nl (Same.new nl)⟩⟩
theorem s_listL {p : Addr} {ys : List V} (hp : SqL K H p ys) (h : ∀ l, H l = none → Same H (upd H l (.lst ys)) → Q (.ref l) (upd H l (.lst ys))) : (∃ p' ys', [V.ref p] = [V.ref p'] ∧ (SqL K H p' ys' ∨ SqT K H p' ys') ∧ ∀ l, H l = none → Q (.ref l) (upd H l (.lst ys'))) := ⟨p, ys, rfl, .inl hp, fun l nl => h l nl (Same.new nl)⟩
theorem b_tupT {p : Addr} {ys : List V} (hp : SqT K H p ys) (h : Q (.ref p) H) : qTupOf K [.ref p] H Q := ⟨p, ys, rfl, .inr ⟨hp, h⟩⟩
def qListOf (K : PySem.W.Frag) : List V → Hp → VK → Prop := fun xs H Q => ∃ p ys, xs = [.ref p] ∧ (SqL K H p ys ∨ SqT K H p ys) ∧ ∀ l, H l = none → Q (.ref l) (upd H l (.lst ys))
theorem call_listN {X : Cx} : CallR X (.type "list") (qListOf X.K) := call_list_of
theorem b_listL {p : Addr} {ys : List V} (hp : SqL K H p ys) (h : ∀ l, H l = none → Q (.ref l) (upd H l (.lst ys))) : qListOf K [.ref p] H Q := ⟨p, ys, rfl, .inl hp, h⟩
theorem s_listOf {p : Addr} {ys : List V} (hp : SqL K H p ys) (h : ∀ l, H l = none → Same H (upd H l (.lst ys)) → Q (.ref l) (upd H l (.lst ys))) : qListOf K [.ref p] H Q := s_listL hp h
theorem b_listT {p : Addr} {ys : List V} (hp : SqT K H p ys) (h : ∀ l, H l = none → Q (.ref l) (upd H l (.lst ys))) : qListOf K [.ref p] H Q := ⟨p, ys, rfl, .inr hp, h⟩
def qIsN : R2 := fun x y H Q => y = .non ∧ Q (.bl (decide (x = .non))) H
theorem op_isNN {X : Cx} : OpR X (compareOp .Is) qIsN := op_isN
theorem r_isN (h : Q (.bl (decide (x = .non))) H) : qIsN x .non H Q := ⟨rfl, h⟩
def qNotN : R2 := fun x y H Q => y = .non ∧ Q (.bl (!decide (x = .non))) H
theorem op_notNN {X : Cx} : OpR X (compareOp .IsNot) qNotN := op_notN
theorem r_notN (h : Q (.bl (!decide (x = .non))) H) : qNotN x .non H Q := ⟨rfl, h⟩
def qInC : R2 := fun x y H Q => ∃ (c : Nat) (z : Str), x = .str ⟨#[c]⟩ ∧ y = .str z ∧ Q (.bl (decide (c ∈ z.cps.toList))) H
theorem op_inC {X : Cx} : OpR X (compareOp .In) qInC := op_in_sign
theorem r_inC {c : Nat} {z : Str} (h : Q (.bl (decide (c ∈ z.cps.toList))) H) : qInC (.str ⟨#[c]⟩) (.str z) H Q := ⟨c, z, rfl, rfl, h⟩
def qNotInC : R2 := fun x y H Q => ∃ (c : Nat) (z : Str), x = .str ⟨#[c]⟩ ∧ y = .str z ∧ Q (.bl (!decide (c ∈ z.cps.toList))) H
theorem op_notInC {X : Cx} : OpR X (compareOp .NotIn) qNotInC := op_notIn_sign
theorem r_notInC {c : Nat} {z : Str} (h : Q (.bl (!decide (c ∈ z.cps.toList))) H) : qNotInC (.str ⟨#[c]⟩) (.str z) H Q := ⟨c, z, rfl, rfl, h⟩
def qAddS : R2 := fun x y H Q => ∃ i j, x = .str i ∧ y = .str j ∧ i.length + j.length ≤ sizeLine ∧ Q (.str (i ++ j)) H
theorem op_addSN {X : Cx} : OpR X (binaryOp .Add) qAddS := op_add_str
theorem r_addS {a b : Str} (hl : a.length + b.length ≤ sizeLine) (h : Q (.str (a ++ b)) H) : qAddS (.str a) (.str b) H Q := ⟨a, b, rfl, rfl, hl, h⟩
theorem n_isNT (h : Q (.bl true) H) : qIsN .non .non H Q := ⟨rfl, h⟩
theorem n_isNi {i : Int} (h : Q (.bl false) H) : qIsN (.int i) .non H Q := ⟨rfl, h⟩
theorem n_isNb {b : Bool} (h : Q (.bl false) H) : qIsN (.bl b) .non H Q := ⟨rfl, h⟩
theorem n_isNs {a : Str} (h : Q (.bl false) H) : qIsN (.str a) .non H Q := ⟨rfl, h⟩
theorem n_isNr {a : Addr} (h : Q (.bl false) H) : qIsN (.ref a) .non H Q := ⟨rfl, h⟩
theorem n_notNT (h : Q (.bl false) H) : qNotN .non .non H Q := ⟨rfl, h⟩
theorem n_notNi {i : Int} (h : Q (.bl true) H) : qNotN (.int i) .non H Q := ⟨rfl, h⟩
theorem n_notNb {b : Bool} (h : Q (.bl true) H) : qNotN (.bl b) .non H Q := ⟨rfl, h⟩
theorem n_notNs {a : Str} (h : Q (.bl true) H) : qNotN (.str a) .non H Q := ⟨rfl, h⟩
theorem n_notNr {a : Addr} (h : Q (.bl true) H) : qNotN (.ref a) .non H Q := ⟨rfl, h⟩
/-! methods of lists -/
def kBM (K : PySem.W.Frag) (T : String) (rm : V → List V → Hp → VK → Prop) (tr : TA) (σ : L2.St) (Q : VK) (x : V) (H : Hp) : Prop := tyV K T x H ∧ tr σ H fun xs H2 => rm x xs H2 Q
theorem w_bm {T : String} {rm : V → List V → Hp → VK → Prop} (h : to σ H (kBM K T rm tr σ Q)) : tBM K T rm to tr σ H Q := h
theorem k_bmL {rm : V → List V → Hp → VK → Prop} {p : Addr} {ys : List V} (hp : SqL K H p ys) (h : tr σ H fun xs H2 => rm (.ref p) xs H2 Q) : kBM K "list" rm tr σ Q (.ref p) H := ⟨.inl ⟨rfl, ys, hp⟩, h⟩
theorem k_bmS {rm : V → List V → Hp → VK → Prop} {z : Str} (h : tr σ H fun xs H2 => rm (.str z) xs H2 Q) : kBM K "str" rm tr σ Q (.str z) H := ⟨rfl, h⟩
def kBM0 (K : PySem.W.Frag) (T : String) (rm : V → List V → Hp → VK → Prop) (Q : VK) (x : V) (H : Hp) : Prop := tyV K T x H ∧ rm x [] H Q
theorem w_bm0 {T : String} {rm : V → List V → Hp → VK → Prop} (h : to σ H (kBM0 K T rm Q)) : tBM0 K T rm to σ H Q := h
theorem k_bm0L {rm : V → List V → Hp → VK → Prop} {p : Addr} {ys : List V} (hp : SqL K H p ys) (h : rm (.ref p) [] H Q) : kBM0 K "list" rm Q (.ref p) H := ⟨.inl ⟨rfl, ys, hp⟩, h⟩
theorem m_append {p : Addr} {xs : List V} (hp : H p = some (.lst xs)) (hl : xs.length < sizeLine) (h : Q .non (upd H p (.lst (xs ++ [y])))) : rAppend (.ref p) [y] H Q := ⟨p, xs, y, rfl, rfl, hp, hl, h⟩
theorem m_extend {p b : Addr} {xs zs : List V} (hp : H p = some (.lst xs)) (hb : H b = some (.lst zs)) (hl : xs.length + zs.length ≤ sizeLine) (h : Q .non (upd H p (.lst (xs ++ zs)))) : rExtend (.ref p) [.ref b] H Q := ⟨p, b, xs, zs, rfl, rfl, hp, hb, hl, h⟩
theorem r_cat {p b : Addr} {xs zs : List V} (hp : H p = some (.lst xs)) (hb : H b = some (.lst zs)) (hl : xs.length + zs.length ≤ sizeLine) (h : ∀ q, H q = none → Q (.ref q) (upd H q (.lst (xs ++ zs)))) : rCat (.ref p) (.ref b) H Q := ⟨p, b, xs, zs, rfl, rfl, hp, hb, hl, h⟩
theorem s_cat {p b : Addr} {xs zs : List V} (hp : H p = some (.lst xs)) (hb : H b = some (.lst zs)) (hl : xs.length + zs.length ≤ sizeLine) (h : ∀ q, H q = none → Same H (upd H q (.lst (xs ++ zs))) → Q (.ref q) (upd H q (.lst (xs ++ zs)))) : rCat (.ref p) (.ref b) H Q := r_cat hp hb hl fun q nq => h q nq (Same.new nq)
theorem r_catA {a b : Addr} {xs ys : List V} (ha : SqT K H a xs) (hb : SqT K H b ys) (hl : xs.length + ys.length ≤ sizeLine) (h1 : xs = [] → Q (.ref b) H) (h2 : xs ≠ [] → ys = [] → Q (.ref a) H) (h3 : xs ≠ [] → ys ≠ [] → ∀ p, H p = none → Q (.ref p) (upd H p (.tup (xs ++ ys)))) : rCatA K (.ref a) (.ref b) H Q := ⟨a, b, xs, ys, rfl, rfl, ha, hb, hl, h1, h2, h3⟩
/-! slices -/
def kSl1 (rs : V → Option Int → Option Int → Hp → VK → Prop) (tl th : TO) (σ : L2.St) (Q : VK) (x : V) (H : Hp) : Prop := tl σ H fun l H2 => th σ H2 fun u H3 => rs x l u H3 Q
theorem w_sl {rs : V → Option Int → Option Int → Hp → VK → Prop} {tl th : TO} (h : te σ H (kSl1 rs tl th σ Q)) : tSl rs te tl th σ H Q := h
theorem k_sl1 {rs : V → Option Int → Option Int → Hp → VK → Prop} {tl th : TO} (h : tl σ H fun l H2 => th σ H2 fun u H3 => rs x l u H3 Q) : kSl1 rs tl th σ Q x H := h
theorem w_nopart {QO : Option Int → Hp → Prop} (h : QO none H) : tNoPart σ H QO := h
def kPart (QO : Option Int → Hp → Prop) (x : V) (H : Hp) : Prop := ∃ i, x = .int i ∧ QO (some i) H
theorem w_part {QO : Option Int → Hp → Prop} (h : te σ H (kPart QO)) : tPart te σ H QO := h
theorem k_part {QO : Option Int → Hp → Prop} {i : Int} (h : QO (some i) H) : kPart QO (.int i) H := ⟨i, rfl, h⟩
theorem s_slL {p : Addr} {xs : List V} {lo hi : Option Int} (hp : SqL K H p xs) (h : ∀ q, H q = none → Same H (upd H q (.lst (cutV xs lo hi))) → Q (.ref q) (upd H q (.lst (cutV xs lo hi)))) : rSlL K (.ref p) lo hi H Q := ⟨p, xs, rfl, hp, fun q nq => h q nq (Same.new nq)⟩
theorem r_slL {p : Addr} {xs : List V} {lo hi : Option Int} (hp : SqL K H p xs) (h : ∀ q, H q = none → Q (.ref q) (upd H q (.lst (cutV xs lo hi)))) : rSlL K (.ref p) lo hi H Q := ⟨p, xs, rfl, hp, h⟩
/-! walked things -/
def kIList (K : PySem.W.Frag) (R : It → Hp → Prop) (x : V) (H : Hp) : Prop := ∃ a, x = .ref a ∧ (∃ xs, SqL K H a xs) ∧ R (Itl K a) H
def kITup (K : PySem.W.Frag) (R : It → Hp → Prop) (x : V) (H : Hp) : Prop := ∃ a, x = .ref a ∧ (∃ xs, SqT K H a xs) ∧ R (Itt K a) H
def kIRng1 (R : It → Hp → Prop) (vs : List V) (H : Hp) : Prop := ∃ j : Int, vs = [.int j] ∧ -(2 ^ 62) ≤ j ∧ j < 2 ^ 62 ∧ R (Itr 0 j.toNat) H
theorem w_ilist {R : It → Hp → Prop} (h : te σ H (kIList K R)) : iList K te σ H R := h
theorem w_itup {R : It → Hp → Prop} (h : te σ H (kITup K R)) : iTup K te σ H R := h
theorem w_irng1 {R : It → Hp → Prop} (h : tr σ H (kIRng1 R)) : iRng1 tr σ H R := h
theorem k_ilist {R : It → Hp → Prop} {p : Addr} {xs : List V} (hp : SqL K H p xs) (h : R (Itl K p) H) : kIList K R (.ref p) H := ⟨p, rfl, ⟨xs, hp⟩, h⟩
theorem k_itup {R : It → Hp → Prop} {p : Addr} {xs : List V} (hp : SqT K H p xs) (h : R (Itt K p) H) : kITup K R (.ref p) H := ⟨p, rfl, ⟨xs, hp⟩, h⟩
theorem k_irng1 {R : It → Hp → Prop} {j : Int} (h1 : -(2 ^ 62) ≤ j) (h2 : j < 2 ^ 62) (h : R (Itr 0 j.toNat) H) : kIRng1 R [.int j] H := ⟨j, rfl, h1, h2, h⟩
def kFor (g : TG) (tb : TS) (D : Ends) (σ : L2.St) (J : It) (H : Hp) : Prop := ∃ W : Nat → Nat → L2.St → Hp → Prop, (∃ m, W 0 m σ H) ∧ ∀ i m σ H, W i m σ H →
  (J.stop i H ∧ D.nx σ H) ∨ (J.go i H ∧ ∃ N : L2.St → Hp → Prop, (∀ σ' H', N σ' H' → ∃ m', m' < m ∧ W (i + 1) m' σ' H') ∧ ∀ x H', J.yld i H x H' → g x σ H' fun σ2 H2 => tb { D with nx := N, ct := N, bk := D.nx } σ2 H2)
theorem w_for {wi : TI} {tb : TS} {D : Ends} (h : wi σ H (kFor g tb D σ)) : tFor wi g tb D σ H := h
def kLc (g : TG) (tt : TT) (te : TE) (ws : List Nat) (σ : L2.St) (Q : VK) (J : It) (H1 : Hp) : Prop := ∀ D, H1 D = none → ∃ W : Nat → Nat → Hp → Prop, (∃ m, W 0 m (upd H1 D (.lst []))) ∧ ∀ i m H, W i m H →
  (J.stop i H ∧ Q (.ref D) H) ∨ (J.go i H ∧ ∃ Nx : Hp → Prop, (∀ H', Nx H' → ∃ m', m' < m ∧ W (i + 1) m' H') ∧ ∀ x H', J.yld i H x H' → g x (wipe σ ws) H' fun σ2 H2 => wipe σ2 ws = wipe σ ws ∧ tt σ2 H2 fun b H3 =>
    if b = true then te σ2 H3 fun y H4 => ∃ acc, H4 D = some (.lst acc) ∧ acc.length < sizeLine ∧ Nx (upd H4 D (.lst (acc ++ [y]))) else Nx H3)
theorem w_lc {wi : TI} {ws : List Nat} (h : wi σ H (kLc g tt te ws σ Q)) : tLc wi g tt te ws σ H Q := h
/-- a for, by a statement over (turn, slots, heap) -/
theorem k_for {J : It} {n : Nat} {G : Hp → Prop} {Y : Nat → Hp → V → Hp → Prop} {tb : TS} (wk : Walk J n G Y) (Pv : Nat → L2.St → Hp → Prop) (h0 : Pv 0 σ H) (hG : ∀ i σ H, i ≤ n → Pv i σ H → G H)
    (hs : ∀ i x σ H H', i < n → Pv i σ H → Y i H x H' → g x σ H' fun σ2 H2 => tb ⟨Pv (i + 1), rt, nx, Pv (i + 1)⟩ σ2 H2) (hd : ∀ σ H, Pv n σ H → nx σ H) : kFor g tb ⟨nx, rt, bk, ct⟩ σ J H := for_it wk Pv h0 hG hs hd
/-- one turn of a comprehension, behind the target -/
def kTurn (tt : TT) (te : TE) (ws : List Nat) (σ : L2.St) (D : Addr) (N : Hp → Prop) (σ2 : L2.St) (H2 : Hp) : Prop := wipe σ2 ws = wipe σ ws ∧ tt σ2 H2 fun b H3 =>
    if b = true then te σ2 H3 fun y H4 => ∃ acc, H4 D = some (.lst acc) ∧ acc.length < sizeLine ∧ N (upd H4 D (.lst (acc ++ [y]))) else N H3
theorem k_lc {J : It} {n : Nat} {G : Hp → Prop} {Y : Nat → Hp → V → Hp → Prop} {ws : List Nat} {σ' : L2.St} (hw : wipe σ ws = σ') (wk : Walk J n G Y) (Pv : Addr → Nat → Hp → Prop) (h0 : ∀ D, H D = none → Pv D 0 (upd H D (.lst []))) (hG : ∀ D i H, i ≤ n → Pv D i H → G H)
    (hs : ∀ D i x H1 H', H D = none → i < n → Pv D i H1 → Y i H1 x H' → g x σ' H' (kTurn tt te ws σ D (Pv D (i + 1)))) (hd : ∀ D H', H D = none → Pv D n H' → Q (.ref D) H') : kLc g tt te ws σ Q J H := by
  subst hw
  exact fun D nD => lc_it wk (Pv D) (h0 D nD) (hG D) (fun i x H1 H' hi hp hy => hs D i x H1 H' nD hi hp hy) fun H' hp => hd D H' nD hp
def kKeep (te : TE) (σ2 : L2.St) (D : Addr) (N : Hp → Prop) (b : Bool) (H3 : Hp) : Prop := if b = true then te σ2 H3 fun y H4 => ∃ acc, H4 D = some (.lst acc) ∧ acc.length < sizeLine ∧ N (upd H4 D (.lst (acc ++ [y]))) else N H3
def kPut (D : Addr) (N : Hp → Prop) (y : V) (H4 : Hp) : Prop := ∃ acc, H4 D = some (.lst acc) ∧ acc.length < sizeLine ∧ N (upd H4 D (.lst (acc ++ [y])))
theorem k_turn {ws : List Nat} {σ2 : L2.St} {D : Addr} {N : Hp → Prop} (e : wipe σ2 ws = wipe σ ws) (h : tt σ2 H (kKeep te σ2 D N)) : kTurn tt te ws σ D N σ2 H := ⟨e, h⟩
theorem k_keepT {σ2 : L2.St} {D : Addr} {N : Hp → Prop} (h : te σ2 H (kPut D N)) : kKeep te σ2 D N true H := h
theorem k_keepF {σ2 : L2.St} {D : Addr} {N : Hp → Prop} (h : N H) : kKeep te σ2 D N false H := iteF h
theorem k_keep2 {σ2 : L2.St} {D : Addr} {N : Hp → Prop} {b : Bool} (h1 : b = true → te σ2 H (kPut D N)) (h2 : b = false → N H) : kKeep te σ2 D N b H := by cases b with | true => exact h1 rfl | false => exact iteF (h2 rfl)
theorem k_put {D : Addr} {N : Hp → Prop} {acc : List V} (hp : H D = some (.lst acc)) (hl : acc.length < sizeLine) (h : N (upd H D (.lst (acc ++ [y])))) : kPut D N y H := ⟨acc, hp, hl, h⟩
theorem w_yes (h : QB true H) : tYes σ H QB := h
theorem k_boT {P : V → Hp → Prop} (h : P (.bl false) H) : P (.bl (!true)) H := h
theorem k_boF {P : V → Hp → Prop} (h : P (.bl true) H) : P (.bl (!false)) H := h
theorem same_rd {H' : Hp} {a : Addr} {u : HO} (e : Same H H') (h : Rd H a u) : Rd H' a u := by
  rcases h with h | ⟨o, h⟩
  · exact .inl (e a _ h)
  · exact .inr ⟨o, e a _ h⟩
theorem same_l {H' : Hp} {a : Addr} {xs : List V} (e : Same H H') (h : SqL K H a xs) : SqL K H' a xs := h.imp (same_rd e) id
theorem same_t {H' : Hp} {a : Addr} {xs : List V} (e : Same H H') (h : SqT K H a xs) : SqT K H' a xs := h.imp (same_rd e) id
theorem ty_l {a : Addr} {xs : List V} (h : SqL K H a xs) : TyX K H (.ref a) (.type "list") := by
  rcases h with (h1 | ⟨o, h1⟩) | ⟨o, its, n, h1, c, _⟩
  · exact .base (.lst h1)
  · exact .base (.frz h1)
  · exact .kList h1 c
theorem ty_t {a : Addr} {xs : List V} (h : SqT K H a xs) : TyX K H (.ref a) (.type "tuple") := by
  rcases h with (h1 | ⟨o, h1⟩) | ⟨o, its, n, h1, c, _⟩
  · exact .base (.tup h1)
  · exact .fTuple h1
  · exact .kTuple h1 c
theorem upd_rd {a p : Addr} {u w o : HO} (h : Rd H a u) (hp : H p = some w) (h1 : w ≠ u) (h2 : ∀ ob, w ≠ .frz ob u) : Rd (upd H p o) a u := by
  rcases h with h | ⟨ob, h⟩
  · exact .inl (by rw [upd_ne (ne_of h hp (Ne.symm h1))]; exact h)
  · exact .inr ⟨ob, by rw [upd_ne (ne_of h hp (Ne.symm (h2 ob)))]; exact h⟩
theorem upd_ins_t {a p C dx : Addr} {fs : List (Str × V)} {o : HO} {xs : List V} (h : SqT K H a xs) (hp : H p = some (.ins C dx fs)) : SqT K (upd H p o) a xs := h.imp (fun h => upd_rd h hp (by intro z; cases z) (by intro _ z; cases z)) id
theorem upd_ins_l {a p C dx : Addr} {fs : List (Str × V)} {o : HO} {xs : List V} (h : SqL K H a xs) (hp : H p = some (.ins C dx fs)) : SqL K (upd H p o) a xs := h.imp (fun h => upd_rd h hp (by intro z; cases z) (by intro _ z; cases z)) id
theorem upd_lst_t {a p : Addr} {ys : List V} {o : HO} {xs : List V} (h : SqT K H a xs) (hp : H p = some (.lst ys)) : SqT K (upd H p o) a xs := h.imp (fun h => upd_rd h hp (by intro z; cases z) (by intro _ z; cases z)) id
/-! isinstance -/
theorem kit2 {t a b : String} {b1 b2 : Bool} (h1 : kitB t a = some b1) (h2 : kitB t b = some b2) : PySem.W.kitAny K (.type t) [.type a, .type b] = some (b1 || b2) :=
  kitAny_cons (kit_ty h1) (fun e => by rw [e]; exact kitAny_cons (kit_ty h2) (fun e2 => by rw [e2]; exact kitAny_nil) (fun e2 => e2)) (fun e => by rw [e]; rfl)
theorem b_isi1 {t n : String} {b : Bool} (ht : TyX K H x (.type t)) (hk : kitB t n = some b) (h : Q (.bl b) H) : rIsi K [x, .ty n] H Q := ⟨x, .ty n, .type t, .type n, b, rfl, .ty n, ht, kit_ty hk, h⟩
theorem b_isi2 {tp : Addr} {t a c : String} {b1 b2 : Bool} (hp : H tp = some (.tup [.ty a, .ty c])) (ht : TyX K H x (.type t)) (h1 : kitB t a = some b1) (h2 : kitB t c = some b2) (h : Q (.bl (b1 || b2)) H) : rIsiT K [x, .ref tp] H Q :=
  ⟨x, tp, _, .type t, [.type a, .type c], _, rfl, hp, .cons (.ty a) (.cons (.ty c) .nil), ht, kit2 h1 h2, h⟩
theorem b_isi {c : V} {tyx u : Value} {b : Bool} (hc : ClsV c u) (ht : TyX K H x tyx) (hk : PySem.W.kitOne K tyx u = some b) (h : Q (.bl b) H) : rIsi K [x, c] H Q := ⟨x, c, tyx, u, b, rfl, hc, ht, hk, h⟩
theorem b_isiT {tp : Addr} {cs : List V} {tyx : Value} {us : List Value} {b : Bool} (hp : H tp = some (.tup cs)) (hc : Paired ClsV cs us) (ht : TyX K H x tyx) (hk : PySem.W.kitAny K tyx us = some b) (h : Q (.bl b) H) : rIsiT K [x, .ref tp] H Q := ⟨x, tp, cs, tyx, us, b, rfl, hp, hc, ht, hk, h⟩
theorem d_eq {d e : PyData} {x y : V} (hd : Dp K H x d) (he : Dp K H y e) (h1 : SeqAt.shaped d = true) (h2 : SeqAt.shaped e = true) (h : Q (.bl (PyData.eqv d e)) H) : rEqD K x y H Q := ⟨d, e, hd, he, h1, h2, h⟩
theorem d_ne {d e : PyData} {x y : V} (hd : Dp K H x d) (he : Dp K H y e) (h1 : SeqAt.shaped d = true) (h2 : SeqAt.shaped e = true) (h : Q (.bl (!PyData.eqv d e)) H) : rNeD K x y H Q := ⟨d, e, hd, he, h1, h2, h⟩
end
/-! rules with the written part told apart (within a comprehension's block it is the def's) -/
section
variable {X : Cx} {K : PySem.W.Frag}
theorem z_ixL (e : X.K = K) : IxR X (rIxL K) := by subst e; exact ix_list
theorem z_ixT (e : X.K = K) : IxR X (rIxT K) := by subst e; exact ix_tup
theorem z_ixQ (e : X.K = K) : IxR X (rIx K) := by subst e; exact ix_seq
theorem z_ixD {w : World} (e : X.K = K) (ew : X.w = w) : IxR X (rIxD K w) := by subst e; subst ew; exact ix_kdict
theorem z_len (e : X.K = K) : CallR X (.builtin "len") (qLen K) := by subst e; exact call_lenN
theorem z_tupOf (e : X.K = K) : CallR X (.type "tuple") (qTupOf K) := by subst e; exact call_tupN
theorem z_listOf (e : X.K = K) : CallR X (.type "list") (qListOf K) := by subst e; exact call_listN
theorem z_in (e : X.K = K) : OpR X (compareOp .In) (rIn K false) := by subst e; exact op_in_seq
theorem z_notIn (e : X.K = K) : OpR X (compareOp .NotIn) (rIn K true) := by subst e; exact op_notIn_seq
theorem z_eqD (e : X.K = K) (hu : X.A.units + 64 < cLine) : OpR X (compareOp .Eq) (rEqD K) := by subst e; exact op_eqD hu
theorem z_neD (e : X.K = K) (hu : X.A.units + 64 < cLine) : OpR X (compareOp .NotEq) (rNeD K) := by subst e; exact op_neD hu
theorem z_inD (e : X.K = K) (hu : X.A.units + 65 < cLine) : OpR X (compareOp .In) (rInD K) := by subst e; exact op_inD hu
theorem z_notInD (e : X.K = K) (hu : X.A.units + 65 < cLine) : OpR X (compareOp .NotIn) (rNotInD K) := by subst e; exact op_notInD hu
theorem z_catA (e : X.K = K) : OpR X (binaryOp .Add) (rCatA K) := by subst e; exact op_catA
theorem z_slL (e : X.K = K) : SlR X (rSlL K) := by subst e; exact sl_list
theorem z_slT (e : X.K = K) : SlR X (rSlA K) := by subst e; exact sl_tupA
theorem z_isi (e : X.K = K) : CallR X (.builtin "isinstance") (rIsi K) := by subst e; exact call_isi
theorem z_isiT (e : X.K = K) : CallR X (.builtin "isinstance") (rIsiT K) := by subst e; exact call_isiT
theorem z_index (e : X.K = K) : MtR X "list.index" (rIndex K) := by subst e; exact mt_index
theorem z_indexD (e : X.K = K) (hu : X.A.units + 65 < cLine) : MtR X "list.index" (rIndexD K) := by subst e; exact mt_indexD hu
theorem z_iL {tg l : Expr} {tl : TE} (e : X.K = K) (h : PE X l tl) : PI X tg l (iList K tl) := by subst e; exact pi_list h
theorem z_iT {tg l : Expr} {tl : TE} (e : X.K = K) (h : PE X l tl) : PI X tg l (iTup K tl) := by subst e; exact pi_tup h
theorem z_fld {o : Expr} {ta : TE} {f : Str} {pos : Pos} (e : X.K = K) (he : PE X o ta) (hb : attributeBase o f X.env (eval o X.env) = eval o X.env) : PE X (.Attribute o f pos) (tFld K ta f) := by subst e; exact pe_fld he hb
theorem z_sfld {o v : Expr} {ta tv : TE} {f : Str} {pos p2 : Pos} (e : X.K = K) (ha : PE X o ta) (hv : PE X v tv) (hs : swapsWith v (some (.Attribute o f p2)) pos.line X.env = pure false) : PS X (.Assign [.Attribute o f p2] v pos) (sFld K ta tv f) := by subst e; exact ps_fld ha hv hs
theorem z_gtup {es : List Expr} {k : Nat} {pos : Pos} {t : TGs} {n : Nat} (e : X.K = K) (hc : X.calm = true) (h : PGs X es t) (hn : (assignEach es X.env).length = n := by rfl) (hst : (assignEach es X.env).findIdx? (·.1) = none := by rfl) : PG X (.Tuple es k pos) (gTup K n t) := by subst e; exact pg_tup hc h hn hst
theorem z_bm0 {o : Expr} {to : TE} {name : Str} {apos cpos : Pos} {T id : String} {r : V → List V → Hp → VK → Prop} (eK : X.K = K) (pa : PlainAttrs T) (slot : Slot T name id) (hty : typeOf (.builtin id) = pure (.type "method_descriptor")) (hm : MtR X id r) (ho : PE X o to) (hbase : attributeBase o name X.env (eval o X.env) = eval o X.env := by rfl) (hline : (apos.endLine == cpos.line) = true := by rfl) : PE X (.Call (.Attribute o name apos) [] [] cpos) (tBM0 K T r to) := by
  subst eK; exact pe_bm0 pa slot hty hm ho hbase hline
theorem z_bm {o e : Expr} {es : List Expr} {to : TE} {t : TA} {name : Str} {apos cpos : Pos} {T id : String} {r : V → List V → Hp → VK → Prop} (eK : X.K = K) (pa : PlainAttrs T) (slot : Slot T name id) (hty : typeOf (.builtin id) = pure (.type "method_descriptor")) (hm : MtR X id r) (ho : PE X o to) (ha : PA X (e :: es) t) (hbase : attributeBase o name X.env (eval o X.env) = eval o X.env := by rfl) (hfew : ((backTo cpos (starEach (e :: es) X.env)).all (fun x => !x.1) && (backToKw cpos (keywordEach [] X.env)).all (fun x => x.1.isSome) && decide ((e :: es).length + ([] : List Keyword).length + (if ([] : List Keyword).isEmpty then 0 else 1) < 30)) = true := by rfl) (hline : (apos.endLine == cpos.line) = true := by rfl) (hs : starEach (e :: es) X.env = (false, eval e X.env) :: starEach es X.env := by rfl) (hplain : (backTo cpos (starEach es X.env)).any (·.1) = false := by rfl) : PE X (.Call (.Attribute o name apos) (e :: es) [] cpos) (tBM K T r to t) := by
  subst eK; exact pe_bm pa slot hty hm ho ha hbase hfew hline hs hplain
end
section
variable {K : PySem.W.Frag} {σ : L2.St} {H : Hp}
theorem cxK {CX : CXT} {P : Program} {w : World} {mg : Str → Option Value} {base : Heap} {N : List Str} {q : Str} {sc : Scope} {f : Addr} {cd : Value} {A : Around} {outer : List Env} {s : Shared} {E : XK} : (cxOf CX P w K mg base N q sc f cd A outer s H E).nox.K = K := rfl
theorem cxK0 {CX : CXT} {P : Program} {w : World} {mg : Str → Option Value} {base : Heap} {N : List Str} {q : Str} {sc : Scope} {f : Addr} {cd : Value} {A : Around} {outer : List Env} {s : Shared} {E : XK} : (cxOf CX P w K mg base N q sc f cd A outer s H E).K = K := rfl
/-- what stood stands, but for the object at r -/
def Kp (r : Addr) (H H' : Hp) : Prop := ∀ a o, a ≠ r → H a = some o → H' a = some o
theorem same_g {H' : Hp} {a : Addr} {o : HO} (e : Same H H') (h : H a = some o) : H' a = some o := e _ _ h
theorem kp_g {H' : Hp} {r a : Addr} {o : HO} (e : Kp r H H') (ne : a ≠ r) (h : H a = some o) : H' a = some o := e _ _ ne h
theorem Kp.refl {r : Addr} : Kp r H H := fun _ _ _ h => h
theorem Kp.trans {r : Addr} {H1 H2 : Hp} (a : Kp r H H1) (b : Kp r H1 H2) : Kp r H H2 := fun c o n h => b c o n (a c o n h)
theorem Kp.of {r : Addr} {H1 : Hp} (a : Same H H1) : Kp r H H1 := fun c o _ h => a c o h
theorem Kp.set {r : Addr} {o : HO} : Kp r H (upd H r o) := fun c u n h => by rw [upd_ne n]; exact h

/-- a statement that goes on: P holds behind it -/
theorem w_cut (P : L2.St → Hp → Prop) (h1 : ∀ N : L2.St → Hp → Prop, (∀ σ' H', P σ' H' → N σ' H') → t ⟨N, rt, bk, ct⟩ σ H) (h2 : ∀ σ' H', P σ' H' → u ⟨nx, rt, bk, ct⟩ σ' H') : tSeq t u ⟨nx, rt, bk, ct⟩ σ H := h1 _ h2
theorem Same.mut {H' : Hp} {p : Addr} {o : HO} (e : Same H H') (h : H p = none) : Same H (upd H' p o) := fun a u ha => by rw [upd_ne (ne_of_none ha h)]; exact e a u ha
/-- a comprehension: Rl what holds of the heap, A over (turn, what is made so far, heap) -/
theorem k_lcR {J : It} {n : Nat} {G : Hp → Prop} {Y : Nat → Hp → V → Hp → Prop} {ws : List Nat} {σ' : L2.St} (hw : wipe σ ws = σ') (wk : Walk J n G Y) (Rl : Hp → Prop) (A : Nat → List V → Hp → Prop) (hG : ∀ H1, Rl H1 → G H1) (h0 : ∀ D, H D = none → Rl (upd H D (.lst [])) ∧ A 0 [] (upd H D (.lst [])))
    (hs : ∀ D i x H1 H' acc, H D = none → i < n → Rl H1 → H1 D = some (.lst acc) → A i acc H1 → Y i H1 x H' → g x σ' H' (kTurn tt te ws σ D (fun H2 => Rl H2 ∧ ∃ acc, H2 D = some (.lst acc) ∧ A (i + 1) acc H2)))
    (hd : ∀ D H' acc, H D = none → Rl H' → H' D = some (.lst acc) → A n acc H' → Q (.ref D) H') : kLc g tt te ws σ Q J H :=
  k_lc hw wk (fun D i H2 => H D = none ∧ Rl H2 ∧ ∃ acc, H2 D = some (.lst acc) ∧ A i acc H2) (fun D nD => ⟨nD, (h0 D nD).1, [], upd_same, (h0 D nD).2⟩) (fun D i H2 _ p => hG H2 p.2.1)
    (fun D i x H1 H' nD hi p y => by
      obtain ⟨_, S, acc, hD, hA⟩ := p
      have e : (fun H2 => H D = none ∧ Rl H2 ∧ ∃ acc, H2 D = some (.lst acc) ∧ A (i + 1) acc H2) = (fun H2 => Rl H2 ∧ ∃ acc, H2 D = some (.lst acc) ∧ A (i + 1) acc H2) := by
        funext H2
        exact propext ⟨fun z => z.2, fun z => ⟨nD, z⟩⟩
      show g x σ' H' (kTurn tt te ws σ D (fun H2 => H D = none ∧ Rl H2 ∧ ∃ acc, H2 D = some (.lst acc) ∧ A (i + 1) acc H2))
      rw [e]
      exact hs D i x H1 H' acc nD hi S hD hA y)
    (fun D H' nD p => by
      obtain ⟨_, S, acc, hD, hA⟩ := p
      exact hd D H' acc nD S hD hA)
/-- a comprehension that leaves all as it was -/
theorem k_lcS {J : It} {n : Nat} {G : Hp → Prop} {Y : Nat → Hp → V → Hp → Prop} {ws : List Nat} {σ' : L2.St} (hw : wipe σ ws = σ') (wk : Walk J n G Y) (A : Nat → List V → Hp → Prop) (hG : ∀ H1, Same H H1 → G H1) (h0 : ∀ D, H D = none → A 0 [] (upd H D (.lst [])))
    (hs : ∀ D i x H1 H' acc, H D = none → i < n → Same H H1 → H1 D = some (.lst acc) → A i acc H1 → Y i H1 x H' → g x σ' H' (kTurn tt te ws σ D (fun H2 => Same H H2 ∧ ∃ acc, H2 D = some (.lst acc) ∧ A (i + 1) acc H2)))
    (hd : ∀ D H' acc, H D = none → Same H H' → H' D = some (.lst acc) → A n acc H' → Q (.ref D) H') : kLc g tt te ws σ Q J H :=
  k_lcR hw wk (fun H2 => Same H H2) A hG (fun D nD => ⟨Same.mut (Same.refl H) nD, h0 D nD⟩) hs hd
theorem r_ixQL {p : Addr} {xs : List V} {i : Int} (hp : SqL K H p xs) (ha : atI xs i = some v) (h : Q v H) : rIx K (.ref p) (.int i) H Q := .inl ⟨p, xs, i, v, rfl, rfl, hp, ha, h⟩
theorem r_ixQT {p : Addr} {xs : List V} {i : Int} (hp : SqT K H p xs) (ha : atI xs i = some v) (h : Q v H) : rIx K (.ref p) (.int i) H Q := .inr (.inl ⟨p, xs, i, v, rfl, rfl, hp, ha, h⟩)
theorem ndT {c : Prop} [Decidable c] (h : ¬ c) : (!decide c) = true := by rw [decide_eq_false h]; rfl
theorem ndF {c : Prop} [Decidable c] (h : c) : (!decide c) = false := by rw [decide_eq_true h]; rfl
theorem e_ifT {b : Bool} (e : b = true) (h : t ⟨nx, rt, bk, ct⟩ σ H) : kIfS t u ⟨nx, rt, bk, ct⟩ σ b H := by rw [e]; exact h
theorem e_ifF {b : Bool} (e : b = false) (h : u ⟨nx, rt, bk, ct⟩ σ H) : kIfS t u ⟨nx, rt, bk, ct⟩ σ b H := by rw [e]; exact iteF h
theorem e_orT {b : Bool} (e : b = true) (h : QB true H) : kOr tu σ QB b H := by rw [e]; exact h
theorem e_orF {b : Bool} (e : b = false) (h : tu σ H QB) : kOr tu σ QB b H := by rw [e]; exact iteF h
theorem e_andT {b : Bool} (e : b = true) (h : tu σ H QB) : kAnd tu σ QB b H := by rw [e]; exact h
theorem e_andF {b : Bool} (e : b = false) (h : QB false H) : kAnd tu σ QB b H := by rw [e]; exact iteF h
theorem e_orVT {b : Bool} (e : b = true) (h : Q (.bl true) H) : kOrV tb σ Q (.bl b) H := by rw [e]; exact ⟨true, rfl, h⟩
theorem e_orVF {b : Bool} (e : b = false) (h : tb σ H Q) : kOrV tb σ Q (.bl b) H := by rw [e]; exact ⟨false, rfl, iteF h⟩
theorem e_andVT {b : Bool} (e : b = true) (h : tb σ H Q) : kAndV tb σ Q (.bl b) H := by rw [e]; exact ⟨true, rfl, h⟩
theorem e_andVF {b : Bool} (e : b = false) (h : Q (.bl false) H) : kAndV tb σ Q (.bl b) H := by rw [e]; exact ⟨false, rfl, iteF h⟩
theorem e_ifET {b : Bool} (e : b = true) (h : ta σ H Q) : kIf ta tb σ Q b H := by rw [e]; exact h
theorem e_ifEF {b : Bool} (e : b = false) (h : tb σ H Q) : kIf ta tb σ Q b H := by rw [e]; exact iteF h
theorem e_chT {b : Bool} (e : b = true) (h : tc σ H fun w' H4 => r' y w' H4 Q) : kChain tc r' σ Q y (.bl b) H := by rw [e]; exact ⟨true, rfl, h⟩
theorem e_chF {b : Bool} (e : b = false) (h : Q (.bl false) H) : kChain tc r' σ Q y (.bl b) H := by rw [e]; exact ⟨false, rfl, iteF h⟩
theorem e_keepT {σ2 : L2.St} {D : Addr} {N : Hp → Prop} {b : Bool} (e : b = true) (h : te σ2 H (kPut D N)) : kKeep te σ2 D N b H := by rw [e]; exact h
theorem e_keepF {σ2 : L2.St} {D : Addr} {N : Hp → Prop} {b : Bool} (e : b = false) (h : N H) : kKeep te σ2 D N b H := by rw [e]; exact iteF h
end
end Bk

/-! More rules, with K told apart. -/
namespace Bk
open PySem L2
section
variable {X : Cx} {K : PySem.W.Frag}
theorem z_sortedI (e : X.K = K) : CallR X (.builtin "sorted") (rSortedI K) := by subst e; exact cr_sortedI
def qMax3 : List V → Hp → VK → Prop := fun xs H Q => ∃ i j k : Int, xs = [.int i, .int j, .int k] ∧ Q (.int (max (max i j) k)) H
theorem nuMax2_int (i j : Int) : nuMax2 (.int i) (.int j) = some (.int (max i j)) := by
  show some (if decide (i < j) = true then V.int j else V.int i) = _
  by_cases c : i < j
  · rw [decide_eq_true c, if_pos rfl, show max i j = j by omega]
  · rw [decide_eq_false c, if_neg (by decide), show max i j = i by omega]
theorem call_max3I (hc : X.calm = true) : CallR X (.builtin "max") qMax3 := by
  intro pins s σ H xs us Q I r h
  obtain ⟨i, j, k, rfl, q⟩ := h
  refine call_max3Nu hc pins s σ H _ us Q I r ⟨_, _, _, .int (max (max i j) k), rfl, ?_, q⟩
  show (nuMax2 (.int i) (.int j)).bind (fun m => nuMax2 m (.int k)) = _
  rw [nuMax2_int]
  exact nuMax2_int _ _
end
end Bk

/-! len(set(xs)), xs a tuple of ints; is, of bools. -/
namespace Bk
open PySem PySem.Spec PyProof.Rows L2
def tLenSetT (K : PySem.W.Frag) (ta : TE) : TE := fun σ H Q => ta σ H fun x H1 => ∃ (l : Addr) (ns : List Int), x = .ref l ∧ SqT K H1 l (ns.map V.int) ∧ ns.length ≤ 4000 ∧ ∀ n : Nat, (∃ ks : List Int, ks.Nodup ∧ (∀ k, k ∈ ks ↔ k ∈ ns) ∧ n = ks.length) → Q (.int (n : Int)) H1
theorem pe_lenSetT {X : Cx} {a : Expr} {ta : TE} {p p2 q pos : Pos} (gl : Gl X "len") (fl : X.mg "len" = none) (gs : Gl X "set") (fs : X.mg "set" = none) (ea : PE X a ta) (cm : X.calm = true)
    (sa : starEach [a] X.env = (false, eval a X.env) :: starEach [] X.env := by rfl) : PE X (.Call (.Name "len" p) [.Call (.Name "set" p2) [a] [] q] [] pos) (tLenSetT X.K ta) := by
  refine ⟨fun pn g σ H Q I hd => ?_⟩
  refine Call_ (ld_blt I gl fl PySem.boot_len ?_)
  refine PyProof.Rows.callWith_builtin1 (args_cons ?_ rfl) rfl rfl
  refine Call_ (ld_blt I gs fs PyProof.Rows.boot_set ?_)
  refine PyProof.Rows.callWith_type1 (args_cons (thn (ea.run pn g σ H _ I hd) fun v g1 ⟨x, H1, J, e1, w⟩ => args_nil ?_) sa) sa rfl
  obtain ⟨l, ns, rfl, hq, hl, w⟩ := w
  cases e1
  obtain ⟨its, rv, pl, _⟩ := J.tuple hq
  refine L2.call_set_tupI ns (J.ok.hd cm) pl (by simpa using Vals.ints rv) (by unfold scanBound; omega) fun hp tk c hS hcl hk => ?_
  refine args_nil ?_
  obtain ⟨o, es, ep, t, ho, hx, hda, _, hnd, hmem, _, hfi, hn, _⟩ := hS
  have J2 : Inv X pn σ H1 { g1 with heap := hp, toks := tk } := J.kept hk
  refine call_len_set ho hx hda hfi (by rw [hn] <;> omega) ⟨.int c, H1, J2.tok _, ⟨_, by rw [hn]⟩, w c ⟨_, hnd, fun k => ?_, ?_⟩⟩
  · rw [← hmem k, decide_eq_true_iff]
  · rw [List.length_map, Array.length_toList, hn]
theorem z_lenSet {X : Cx} {K : PySem.W.Frag} (e : X.K = K) {a : Expr} {ta : TE} {p p2 q pos : Pos} (hg : Gl X "len") (hm : X.mg "len" = none) (hg2 : Gl X "set") (hm2 : X.mg "set" = none) (ha : PE X a ta) (hc : X.calm = true)
    (na : starEach [a] X.env = (false, eval a X.env) :: starEach [] X.env := by rfl) : PE X (.Call (.Name "len" p) [.Call (.Name "set" p2) [a] [] q] [] pos) (tLenSetT K ta) := by
  subst e
  exact pe_lenSetT hg hm hg2 hm2 ha hc na
def qIsB : R2 := fun x y H Q => ∃ a b, x = .bl a ∧ y = .bl b ∧ Q (.bl (decide (a = b))) H
def qNotB : R2 := fun x y H Q => ∃ a b, x = .bl a ∧ y = .bl b ∧ Q (.bl (!decide (a = b))) H
theorem op_isBB {X : Cx} : OpR X (compareOp .Is) qIsB := op_is_bl
theorem op_notBB {X : Cx} : OpR X (compareOp .IsNot) qNotB := op_isnot_bl
/-- what a for walks: a list or a tuple -/
def iLT (K : PySem.W.Frag) (tl : TE) : TI := fun σ H R => iList K tl σ H R ∨ iTup K tl σ H R
theorem z_iLT {X : Cx} {K : PySem.W.Frag} {tg l : Expr} {tl : TE} (e : X.K = K) (h : PE X l tl) : PI X tg l (iLT K tl) := by
  subst e
  exact ⟨fun pn g σ H R I hd => hd.elim (fun q => (pi_list h).run pn g σ H R I q) fun q => (pi_tup h).run pn g σ H R I q⟩
end Bk

/-! Texts: join, split, int of a text, with K told apart. -/
namespace Bk
open PySem PySem.Spec PyProof.Rows L2
section
variable {X : Cx} {K : PySem.W.Frag} {o e : Expr} {to te : TE}
def rJoin (K : PySem.W.Frag) : V → List V → Hp → VK → Prop := fun x xs H Q => ∃ (a : Str) (p : Addr) (ys : List Str), x = .str a ∧ xs = [.ref p] ∧ (SqL K H p (ys.map V.str) ∨ SqT K H p (ys.map V.str)) ∧ (ys.map (·.length)).sum + ys.length * a.length ≤ 16777216 ∧ Q (.str (Txt.join a ys)) H
def rSplit : V → List V → Hp → VK → Prop := fun x xs H Q => ∃ a b, x = .str a ∧ xs = [.str b] ∧ (b.length == 0) = false ∧ a.length + 2 ≤ sizeLine ∧ rNewStrs (Txt.split a b) H Q
theorem z_join {apos pos : Pos} (eK : X.K = K) (ho : PE X o to) (he : PE X e te) (hs : starEach [e] X.env = [(false, eval e X.env)] := by rfl) (hbase : attributeBase o "join" X.env (eval o X.env) = eval o X.env := by rfl) (hline : (apos.endLine == pos.line) = true := by rfl) : PE X (.Call (.Attribute o "join" apos) [e] [] pos) (tM1 (rJoin K) to te) := by
  subst eK
  exact pe_join ho he hs hbase hline
theorem z_split {apos pos : Pos} (ho : PE X o to) (he : PE X e te) (hs : starEach [e] X.env = [(false, eval e X.env)] := by rfl) (hbase : attributeBase o "split" X.env (eval o X.env) = eval o X.env := by rfl) (hline : (apos.endLine == pos.line) = true := by rfl) : PE X (.Call (.Attribute o "split" apos) [e] [] pos) (tM1 rSplit to te) := pe_split ho he hs hbase hline
def qIntS : List V → Hp → VK → Prop := fun xs H Q => ∃ a n, xs = [.str a] ∧ PySem.intText? a = some n ∧ a.length ≤ 640 ∧ Q (.int n) H
theorem call_intS : CallR X (.type "int") qIntS := call_int_str
end
end Bk

/-! list(reversed(xs)), xs a list; len(set(xs)), xs a tuple or a list. -/
namespace Bk
open PySem PySem.Spec PyProof.Rows L2
section
variable {prog : Program} {w : World} {A : Around} {E : Value → Shared → Prop} {s : Shared}
theorem extend_rev {R : Result → Shared → Prop} (hh : A.handled = none) {it l : Addr} {items : Array Value} (S : Addr) (res : Value) (c₀ : Nat) (hit : s.heap.IsRevIter it l ((items.size : Int) - 1)) (hl : s.heap.IsList l items) (hne : l ≠ it) (hSi : S ≠ it) (hSl : S ≠ l) (hS : s.heap.get? S = some { cls := .type "list", data := .seq #[] c₀ })
    (hR : ∀ h' tk acc' c', (∀ b o, b ≠ S → b ≠ it → s.heap.get? b = some o → h'.get? b = some o) → h'.get? S = some { cls := .type "list", dict := none, data := .seq acc' c', slots := #[] } →
      ItemsOf (fun i v => items[items.size - 1 - i]? = some v) acc' items.size → R (.ok (.ret res)) { s with heap := h', toks := tk }) (hn : items.size ≤ sizeLine) :
    wpAny (model prog w) A.in1 (Builtin.List.listExtendWith (.ref S) (.ref it) res)
      (fun fin s' => match fin with | .done f => R (.ok f) s' | .again c' => c'.quiet = true ∧ codeAny (model prog w) A c' R s') (fun e s' => R (.error e) s') s := by
  have W := (Walks.listRev (prog := prog) (w := w) (A := A.in1) hh it l hne items).toS
  have hSf : S ∉ [it, l] := by simp only [List.mem_cons, List.not_mem_nil, or_false, not_or]; exact ⟨hSi, hSl⟩
  have hT : s.TypeIs (.ref it) "list_reverseiterator" := hit.typeIs
  have h1 : Builtin.List.listSameRef (.ref S) (.ref it) = false := by simp [Builtin.List.listSameRef, hSi]
  unfold Builtin.List.listExtendWith
  refine wpAny_bind (wpAny_typeOf hT ?_)
  rw [if_neg (by rw [h1]; decide)]
  refine wpAny_bind (wpAny_pyIter_revIter hit ?_)
  refine wpAny_bind (wpAny_holding ?_)
  unfold Builtin.List.listLengthHint
  refine wpAny_bind (wpAny_specialOf hT RT.nolen_lri ?_)
  show wpAny _ A.in1 (specialOf (Value.ref it) (Str.ofString "__length_hint__") >>= _) _ _ _
  refine wpAny_bind (wpAny_specialOf hT RT.hint_lri ?_)
  generalize hid : ("list_reverseiterator.__length_hint__" : String) = id0
  wp_delta
  rw [show splitId id0 = some ("list_reverseiterator", "__length_hint__") from by subst hid; decide +kernel]
  subst hid
  refine wpAny_bind (wpAny_isInstance (b := true) hT (by rw [isSubtype_type]; kernel_rfl) ?_)
  refine wpAny_pure ?_
  rw [if_neg (by decide)]
  have e0 : ((items.size : Nat) : Int) - 1 - ((0 : Nat) : Int) = (items.size : Int) - 1 := by omega
  refine wpAny_pure ⟨plainId_quiet F.plain_extend_loop _, codeAny_extend_loopS W hn _ hSf _ items.size 0 _ _ _ rfl (Nat.zero_le _) ⟨Nat.zero_le _, by rw [e0]; exact hit, hl⟩ hS (ItemsOf.nil _) fun s' acc' c' hm hS' hacc => ?_⟩
  rw [Moved.eq_with hm]
  refine hR s'.heap s'.toks acc' c' (fun b o hb hbi e => hm.heap b o (fun hmem => ?_) e) hS' hacc
  rcases List.mem_cons.mp hmem with e' | hmem
  · exact hb e'
  · exact hbi (List.mem_singleton.mp hmem)
theorem list_init_rev {R : Result → Shared → Prop} (hh : A.handled = none) {it l : Addr} {items : Array Value} (S : Addr) (hit : s.heap.IsRevIter it l ((items.size : Int) - 1)) (hl : s.heap.IsList l items) (hne : l ≠ it) (hSi : S ≠ it) (hSl : S ≠ l) (hS : s.heap.get? S = some { cls := .type "list", data := .seq #[] })
    (hR : ∀ h' tk acc' c', (∀ b o, b ≠ S → b ≠ it → s.heap.get? b = some o → h'.get? b = some o) → h'.get? S = some { cls := .type "list", dict := none, data := .seq acc' c', slots := #[] } →
      ItemsOf (fun i v => items[items.size - 1 - i]? = some v) acc' items.size → R (.ok (.ret .none)) { s with heap := h', toks := tk }) (hn : items.size ≤ sizeLine) :
    wpAny (model prog w) A.in1 (Builtin.«list.__init__» ⟨[.ref S, .ref it], []⟩)
      (fun fin s' => match fin with | .done f => R (.ok f) s' | .again c' => c'.quiet = true ∧ codeAny (model prog w) A c' R s') (fun e s' => R (.error e) s') s := by
  show wpAny _ _ (do let old ← Builtin.List.listItems (.ref S); Builtin.List.listUpdate (.ref S) (fun _ => #[]); letGo old.toList.reverse; Builtin.List.listExtendWith (.ref S) (.ref it) .none) _ _ s
  refine wpAny_bind ?_
  unfold Builtin.List.listItems
  refine wpAny_bind (wpAny_seqItems hS rfl (wpAny_pure ?_))
  show wpAny _ _ (updateSeq S (fun _ => #[]) >>= fun _ => letGo (#[] : Array Value).toList.reverse >>= fun _ => Builtin.List.listExtendWith (.ref S) (.ref it) .none) _ _ s
  refine wpAny_bind (wpAny_updateSeq hS rfl ?_)
  have hS₂ := Heap.get?_update_self (Obj.mapSeq (fun _ => (#[] : Array Value))) hS rfl
  have oth : ∀ b o, b ≠ S → s.heap.get? b = some o → (s.heap.update S (Obj.mapSeq (fun _ => (#[] : Array Value)))).get? b = some o :=
    fun b o hb e => (Heap.get?_update_other _ _ (Ne.symm hb)).trans e
  refine wpAny_bind (wpAny_letGo ?_)
  have hl2 : (s.heap.update S (Obj.mapSeq (fun _ => (#[] : Array Value)))).IsList l items := by
    obtain ⟨o, ho, r⟩ := hl
    exact ⟨o, oth l o (Ne.symm hSl) ho, r⟩
  refine extend_rev hh S .none _ (hit.at fun o e => oth it o (Ne.symm hSi) e) hl2 hne hSi hSl hS₂ (fun h' tk acc' c' hk hS' hacc => ?_) hn
  exact hR h' tk acc' c' (fun b o hb hbi e => hk b o hb hbi (oth b o hb e)) hS' hacc
/-- list(it), it a list's walk from its end -/
theorem call_list_rev {it l : Addr} {items : Array Value} {Q : Value → Shared → Prop} (hh : A.handled = none) (hit : s.heap.IsRevIter it l ((items.size : Int) - 1)) (hl : s.heap.IsList l items) (hne : l ≠ it) (hn : items.size ≤ sizeLine)
    (hQ : ∀ h' tk acc' c', (∀ b o, b ≠ it → s.heap.get? b = some o → h'.get? b = some o) →
      h'.get? s.heap.objs.size = some { cls := .type "list", dict := none, data := .seq acc' c', slots := #[] } → ItemsOf (fun i v => items[items.size - 1 - i]? = some v) acc' items.size → Q (.ref s.heap.objs.size) { s with heap := h', toks := tk }) :
    wpAny (model prog w) A (call (.type "list") [.ref it]) Q E s := by
  obtain ⟨oi, hoi, _⟩ := id hit
  obtain ⟨ol, hol, _⟩ := id hl
  refine callType_codes (Q₁ := fun obj s₁ => obj = .ref s.heap.objs.size ∧ s₁ = { s with heap := s.heap.push { cls := .type "list", data := .seq #[] } }) PySem.F.called_list (PySem.F.typeCall_list_1 _) PySem.F.entry_list_init
    (code_list_new _ ⟨rfl, rfl⟩) fun obj s₁ h₁ => ?_
  obtain ⟨rfl, rfl⟩ := h₁
  have hS : (s.heap.push { cls := .type "list", data := .seq #[] }).get? s.heap.objs.size = some { cls := .type "list", data := .seq #[] } := Heap.get?_push_size _ rfl
  refine ⟨⟨_, hS, rfl⟩, PySem.F.args_list_init_2 _ _, list_init_rev (A := A.in1) hh s.heap.objs.size (hit.at fun o e => Heap.get?_push_of_some _ e) (hl.push _) hne (Nat.ne_of_gt (Heap.lt_size hoi)) (Nat.ne_of_gt (Heap.lt_size hol)) hS (fun h' tk acc' c' hk hS' hacc => ?_) hn⟩
  exact ⟨rfl, hQ h' tk acc' c' (fun b o hb e => hk b o (Nat.ne_of_lt (Heap.lt_size e)) hb (Heap.get?_push_of_some _ e)) hS' hacc⟩
end
def tListRev (K : PySem.W.Frag) (te : TE) : TE := fun σ H Q => te σ H fun v H1 => ∃ (a : Addr) (xs : List V), v = .ref a ∧ SqL K H1 a xs ∧ ∀ q, H1 q = none → Q (.ref q) (upd H1 q (.lst xs.reverse))
theorem pe_listRev {X : Cx} {e : Expr} {te : TE} {p p2 pos pos2 : Pos} (hc : X.calm = true) (hg : Gl X "list") (hm : X.mg "list" = none) (hg2 : Gl X "reversed") (hm2 : X.mg "reversed" = none) (he : PE X e te)
    (hs : starEach [e] X.env = (false, eval e X.env) :: starEach [] X.env := by rfl)
    (hs2 : starEach [.Call (.Name "reversed" p2) [e] [] pos2] X.env = (false, eval (.Call (.Name "reversed" p2) [e] [] pos2) X.env) :: starEach [] X.env := by rfl) :
    PE X (.Call (.Name "list" p) [.Call (.Name "reversed" p2) [e] [] pos2] [] pos) (tListRev X.K te) := by
  refine ⟨fun pins s σ H Q I h => ?_⟩
  refine Call_ (ld_blt I hg hm PyProof.Rows.boot_list (PyProof.Rows.callWith_type1 (args_cons (Call_ (ld_blt I hg2 hm2 PyProof.Rows.boot_reversed (PyProof.Rows.callWith_type1 (args_cons (thn (he.run pins s σ H _ I h) fun u s1 ⟨v, H1, I1, r1, q1⟩ => args_nil ?_) hs) hs rfl))) hs2) hs2 rfl))
  obtain ⟨a, xs, ev, hq, q⟩ := q1
  subst ev
  obtain rfl : u = Value.ref a := r1
  obtain ⟨its, rv, p', hz⟩ := I1.list hq
  refine call_reversed_list p'.isList (args_nil ?_)
  have k0 : ∀ b o, s1.heap.get? b = some o → (s1.heap.push (revObj a ((its.toArray.size : Int) - 1))).get? b = some o := fun b o e => Heap.get?_push_of_some _ e
  have I2 : Inv X pins σ H1 { s1 with heap := s1.heap.push (revObj a ((its.toArray.size : Int) - 1)) } := I1.kept (t' := s1.toks) k0
  have ff := I1.fpOk (H' := H1) (b := s1.heap.objs.size) (Nat.le_refl _) (I1.hok.fresh (Nat.le_refl _))
  have hl := p'.isList
  obtain ⟨ol, hol, _⟩ := id hl
  have hne : a ≠ s1.heap.objs.size := Nat.ne_of_lt (Heap.lt_size hol)
  have hn : its.toArray.size ≤ sizeLine := by rw [List.size_toArray, ← rv.length]; exact hz
  refine call_list_rev (s := { s1 with heap := s1.heap.push (revObj a ((its.toArray.size : Int) - 1)) }) (I1.ok.hd hc) ⟨_, Heap.get?_push_size _ rfl, rfl, rfl⟩ (hl.push _) hne hn fun h' tk acc c' hk hS hi => ?_
  have hT := I2.hok.fresh (Nat.le_refl (s1.heap.push (revObj a ((its.toArray.size : Int) - 1))).objs.size)
  refine ⟨.ref (s1.heap.push (revObj a ((its.toArray.size : Int) - 1))).objs.size, upd H1 (s1.heap.push (revObj a ((its.toArray.size : Int) - 1))).objs.size (.lst xs.reverse), I2.turnedNew (t' := tk) (ch := [s1.heap.objs.size]) (fun b o hb e => hk b o (fun c => hb (List.mem_singleton.mpr c)) e) (fun b hb => by rw [List.mem_singleton.mp hb]; exact ff) (Nat.le_refl _) ⟨by rw [List.length_reverse]; exact hz, acc.toList, c', RT.vals_rev rv hi, by rw [hS]⟩, rfl, q _ hT⟩
theorem z_listRev {X : Cx} {K : PySem.W.Frag} (e : X.K = K) {a : Expr} {ta : TE} {p p2 pos pos2 : Pos} (hg : Gl X "list") (hm : X.mg "list" = none) (hg2 : Gl X "reversed") (hm2 : X.mg "reversed" = none) (ha : PE X a ta) (hc : X.calm = true)
    (hs : starEach [a] X.env = (false, eval a X.env) :: starEach [] X.env := by rfl)
    (hs2 : starEach [.Call (.Name "reversed" p2) [a] [] pos2] X.env = (false, eval (.Call (.Name "reversed" p2) [a] [] pos2) X.env) :: starEach [] X.env := by rfl) : PE X (.Call (.Name "list" p) [.Call (.Name "reversed" p2) [a] [] pos2] [] pos) (tListRev K ta) := by
  subst e
  exact pe_listRev hc hg hm hg2 hm2 ha hs hs2
def tLenSetLT (K : PySem.W.Frag) (ta : TE) : TE := fun σ H Q => ta σ H fun x H1 => ∃ (l : Addr) (ns : List Int), x = .ref l ∧ ns.length ≤ 4000 ∧ ((SqT K H1 l (ns.map V.int) ∧ ∀ n : Nat, (∃ ks : List Int, ks.Nodup ∧ (∀ k, k ∈ ks ↔ k ∈ ns) ∧ n = ks.length) → Q (.int (n : Int)) H1) ∨ (SqL K H1 l (ns.map V.int) ∧ ns.Nodup ∧ Q (.int (ns.length : Nat)) H1))
theorem pe_lenSetLT {X : Cx} {a : Expr} {ta : TE} {p p2 q pos : Pos} (gl : Gl X "len") (fl : X.mg "len" = none) (gs : Gl X "set") (fs : X.mg "set" = none) (ea : PE X a ta) (cm : X.calm = true)
    (sa : starEach [a] X.env = (false, eval a X.env) :: starEach [] X.env := by rfl) : PE X (.Call (.Name "len" p) [.Call (.Name "set" p2) [a] [] q] [] pos) (tLenSetLT X.K ta) := by
  refine ⟨fun pn g σ H Q I hd => ?_⟩
  refine Call_ (ld_blt I gl fl PySem.boot_len ?_)
  refine PyProof.Rows.callWith_builtin1 (args_cons ?_ rfl) rfl rfl
  refine Call_ (ld_blt I gs fs PyProof.Rows.boot_set ?_)
  refine PyProof.Rows.callWith_type1 (args_cons (thn (ea.run pn g σ H _ I hd) fun v g1 ⟨x, H1, J, e1, w⟩ => args_nil ?_) sa) sa rfl
  obtain ⟨l, ns, rfl, hl, ⟨hq, w⟩ | ⟨hq, hnd, w⟩⟩ := w
  · cases e1
    obtain ⟨its, rv, pl, _⟩ := J.tuple hq
    refine L2.call_set_tupI ns (J.ok.hd cm) pl (by simpa using Vals.ints rv) (by unfold scanBound; omega) fun hp tk c hS hcl hk => ?_
    refine args_nil ?_
    obtain ⟨o, es, ep, t, ho, hx, hda, _, hnd, hmem, _, hfi, hn, _⟩ := hS
    have J2 : Inv X pn σ H1 { g1 with heap := hp, toks := tk } := J.kept hk
    refine call_len_set ho hx hda hfi (by rw [hn] <;> omega) ⟨.int c, H1, J2.tok _, ⟨_, by rw [hn]⟩, w c ⟨_, hnd, fun k => ?_, ?_⟩⟩
    · rw [← hmem k, decide_eq_true_iff]
    · rw [List.length_map, Array.length_toList, hn]
  · cases e1
    obtain ⟨its, r, pl, hz⟩ := J.list hq
    have hlen : its.toArray.size = ns.length := by rw [List.size_toArray, ← r.length, List.length_map]
    refine call_set_list (J.ok.hd cm) pl.isList (ns := ns) (by simpa using RZ.intsAre_vals r) (by rw [hlen]; unfold scanBound; omega) fun h' tk hS hk => ?_
    refine args_nil ?_
    rw [hlen, RZ.firstMet_nodup hnd ns.length (Nat.le_refl _), List.take_length] at hS
    obtain ⟨o, es, ep, t, ho, hex, hd, _, _, _, hf, hn⟩ := hS
    have I2 : Inv X pn σ H1 { g1 with heap := h', toks := tk } := J.kept fun b o e => hk b o (Heap.lt_size e) e
    exact call_len_set ho hex hd hf (by rw [hn] <;> omega) ⟨.int ns.length, H1, I2.tok _, ⟨_, by rw [hn]⟩, w⟩
theorem z_lenSetLT {X : Cx} {K : PySem.W.Frag} (e : X.K = K) {a : Expr} {ta : TE} {p p2 q pos : Pos} (hg : Gl X "len") (hm : X.mg "len" = none) (hg2 : Gl X "set") (hm2 : X.mg "set" = none) (ha : PE X a ta) (hc : X.calm = true)
    (na : starEach [a] X.env = (false, eval a X.env) :: starEach [] X.env := by rfl) : PE X (.Call (.Name "len" p) [.Call (.Name "set" p2) [a] [] q] [] pos) (tLenSetLT K ta) := by
  subst e
  exact pe_lenSetLT hg hm hg2 hm2 ha hc na
end Bk

/-! A comprehension whose element may raise, out of a call: the block is let go, the error goes on in the def's own frame. -/
namespace Bk
open PySem PySem.Spec PyProof.Rows L2
/-- an error that a call within the block Y let out -/
def BX (Y : Cx) (E : XK) (u : Value) (s' : Shared) : Prop := ∃ (pins : List (Addr × Obj)) (σ : L2.St) (H : Hp) (s : Shared), Inv Y pins σ H s ∧ CX Y.prog Y.w Y.stack H s E u s'
theorem pass_bx {Y : Cx} {E : XK} {xe : Value → Shared → Prop} (hx : xe = BX Y E) : Passes (CX Y.prog Y.w) (Y.wish xe) E := fun pins σ H s e s' I c => by
  subst hx
  exact ⟨pins, σ, H, s, I.unwish, c⟩
/-- such an error is in the def's air -/
theorem blk_air {X : Cx} {pins : List (Addr × Obj)} {σ : L2.St} {H3 : Hp} {s3 s' : Shared} {scope : Scope} {ce : PySem.Env} {fp : List Addr} {E : XK} {u : Value}
    (hst : X.stack = X.env :: X.outer) (hf : X.env.frame = some X.env.locals) (tk : Takes X fun cls d _ H => E cls d H) (I3 : Inv X pins σ H3 s3)
    (f3 : ∀ b ∈ fp, FpOk X pins H3 b ∧ b < s3.heap.objs.size) (cL : ce.locals = s3.heap.objs.size) (cf : ce.frame = X.env.frame)
    (h : BX (X.blk s3 H3 scope ce fp) E u s') : notedBy (model X.prog X.w) X.A ce (CompFails (model X.prog X.w) X.A X.xe ce) u s' := by
  obtain ⟨pins', σ', H', s, I', a, B, H2, cls, d, rfl, fl, hokB, ub, na, os, ag, hE⟩ := h
  obtain ⟨m, ⟨oC, es, ep, hoC, hdC, rC⟩, _⟩ := I'.loc
  have hC' : H' ce.locals = none := I'.free
  have nCf : ce.locals ∉ frs X.stack := fun hm => by
    rcases List.mem_cons.mp (I3.stkSub _ hm) with z | z
    · have := I3.lt
      rw [cL] at z
      rw [z] at this
      exact Nat.lt_irrefl _ this
    · exact I3.nofs (Nat.le_of_eq cL.symm) z
  have BC : B.get? ce.locals = some oC := ub.keep _ _ hoC hC' nCf
  have H2C : H2 ce.locals = none := ub.free _ oC hoC hC'
  obtain ⟨st, bn, ff, oe0, vs0, T0, oT0, ts0, he0, hz0, hd0, hv0, hnT0, hTe0, hT0, hdT0, h30⟩ := fl
  have s'C := st _ _ BC
  obtain ⟨B', hB'⟩ : ∃ B' : Heap, B' = PySem.W.hideAll B [ce.locals] := ⟨_, rfl⟩
  have b1 : ∀ b o, B'.get? b = some o → B.get? b = some o ∧ b ≠ ce.locals := fun b o e => by
    rw [hB'] at e
    refine ⟨PySem.W.of_hideAll _ e, fun z => ?_⟩
    rw [PySem.W.hideAll_none _ (List.mem_singleton.mpr z)] at e
    cases e
  have b2 : ∀ b o, b ≠ ce.locals → B.get? b = some o → B'.get? b = some o := fun b o n e => by
    rw [hB']
    exact PySem.W.hideAll_get _ e fun z => n (List.mem_singleton.mp z)
  have bnone : ∀ b, B.get? b = none → B'.get? b = none := fun b e => by
    cases q : B'.get? b with
    | none => rfl
    | some o => rw [(b1 b o q).1] at e; cases e
  have fl' : HandSPX.FlyingZ B' (X.env :: X.outer) a (Zc cls d) s'.heap := by
    rw [← hst]
    exact ⟨fun b o e => st b o (b1 b o e).1, bnone a bn, funFrames_none ff fun L hL => bnone L (ff.mem hL).1, oe0, vs0, T0, oT0, ts0, he0, hz0, hd0, hv0, bnone T0 hnT0, hTe0, hT0, hdT0, h30⟩
  have hfr : X.A.frames = some (X.env :: X.outer) := by rw [I3.ok.frames, hst]
  show wpAny _ _ (noteFrame (.ref a) ce) _ _ s'
  rw [noteFrame_env _ cf]
  refine HandSPX.looks_onZ Zc.steady hfr hf fl' fun h1 hh up1 => ?_
  obtain ⟨slC, h1C⟩ := up1 _ oC s'C fun vs q => by rw [hdC] at q; cases q
  refine ⟨m, ⟨_, es, ep, h1C, hdC, rC⟩, fun h2 m2 hn2 sb => ?_⟩
  obtain ⟨k1, k2, k3, oe, vs, T, oT, ts, he, hz, hd, hv1, hnT, hTe, hT, hdT, h3⟩ := hh
  have aC : a ≠ ce.locals := fun z => by
    rw [z, h1C] at he
    cases he
    rw [hdC] at hd
    cases hd
  have TC : T ≠ ce.locals := fun z => by
    rw [z, h1C] at hT
    cases hT
    rw [hdC] at hdT
    cases hdT
  have he2 : h2.get? a = some oe := (sb.2 a aC).trans he
  have hh2 : HandSPX.HeldZ B' (X.env :: X.outer) a (Zc cls d) X.env.locals h2 := ⟨fun b o e => (sb.2 b (b1 b o e).2).trans (k1 b o e), k2, Heap.FunFrames.sameBut sb hn2 k3, oe, vs, T, oT, ts, he2, hz, hd, hv1, hnT, hTe, (sb.2 T TC).trans hT, hdT, h3⟩
  unfold PySem.passOn
  refine wpAny_bind (wpAny_field he2 hd hv1 ?_)
  rw [if_neg (by simp : ¬ ((Value.ref T == Value.none) = true)), cf, hf]
  refine wpAny_bind (HandSPX.setFlight_onZ hh2 fun h3' hh3 up3 => ?_)
  refine wpAny_throw (tk _ _ ?_)
  obtain ⟨G, g1, g2⟩ := restrict h3' fun b => (B'.get? b).isSome || decide (b ∈ frs X.stack)
  have gB : ∀ b o, B'.get? b = some o → G.get? b = some o := fun b o e => (g1 b (by simp [e])).trans (hh3.1 b o e)
  have og : ∀ b o, G.get? b = some o → h3'.get? b = some o ∧ ((B'.get? b).isSome = true ∨ b ∈ frs X.stack) := fun b o e => by
    cases q : ((B'.get? b).isSome || decide (b ∈ frs X.stack)) with
    | false => rw [g2 b q] at e; cases e
    | true => exact ⟨(g1 b q).symm.trans e, (Bool.or_eq_true _ _ ▸ q).imp id of_decide_eq_true⟩
  have fr : ∀ b o, s.heap.get? b = some o → b ∈ frs X.stack → ∃ sl, G.get? b = some { o with slots := sl } := fun b o e hb => by
    obtain ⟨sl1, e1⟩ := ub.slot b o e hb
    obtain ⟨_, o', e', hnf⟩ := ff.mem hb
    rw [e1] at e'
    cases e'
    obtain ⟨sl2, e2⟩ := up1 b _ e1 hnf
    have e3 := (sb.2 b fun z => nCf (z ▸ hb)).trans e2
    obtain ⟨sl4, e4⟩ := up3 b _ e3 hnf
    exact ⟨sl4, (g1 b (by simp [hb])).trans e4⟩
  have hokB' : HOk X.prog X.w H2 B' := fun b o q => (hokB b o q).stay (fun c v hc r => b2 c v (fun z => by
    rcases hc with hc | hc
    · rw [← hc, z, H2C] at q; cases q
    · rw [z, H2C] at hc; cases hc) r) (fun _ r => r) fun _ _ r => r
  have un2 : Un (frs X.stack) [ce.locals] H' H2 s.heap G := by
    have ne : ∀ b, b ∉ [ce.locals] → b ≠ ce.locals := fun b hx z => hx (List.mem_singleton.mpr z)
    refine ⟨fun b o e n hb hx => gB b o (b2 b o (ne b hx) (ub.keep b o e n hb)), fun b o e _ hb _ => fr b o e hb, fun b o e n _ => ub.free b o e n, fun b o e hx => ?_, ub.tups, ub.frzs, ub.tbls⟩
    by_cases hb : b ∈ frs X.stack
    · obtain ⟨sl, q⟩ := fr b o e hb
      exact ⟨_, q⟩
    · obtain ⟨o', q⟩ := ub.there b o e hb
      exact ⟨o', gB b o' (b2 b o' (ne b hx) q)⟩
  have un1 : Un (frs X.stack) fp H3 H' s3.heap s.heap := I'.base
  have un : Un (frs X.stack) (ce.locals :: fp) H3 H2 s3.heap G := (un1.mono (fun _ z => z) fun _ z => List.mem_cons_of_mem _ z).trans (un2.mono (fun _ z => z) fun b z => by rw [List.mem_singleton.mp z]; exact List.mem_cons_self)
  have os1 : s.os = s3.os := I'.os
  have IX : Inv X pins σ H2 { s with heap := G, gens := s'.gens, drawn := s'.drawn, toks := s'.toks } := by
    refine I3.call' (ch := ce.locals :: fp) os1 un (hokB'.kept gB) ag fun b hb => ?_
    rcases List.mem_cons.mp hb with z | hb
    · have f := I3.fpOk (H' := H2) (b := ce.locals) (Nat.le_of_eq cL.symm) H2C
      rw [z]
      exact ⟨f.2.2.2.1, f.2.1, f.2.2.2.2.1, f.2.2.2.2.2⟩
    · have f := (f3 b hb).1
      exact ⟨f.2.2.2.1, f.2.1, f.2.2.2.2.1, f.2.2.2.2.2⟩
  refine ⟨a, B', _, pins, σ, H2, cls, d, rfl, IX, fun b o e hb => ?_, Heap.UpToSlots.of_keeps fun b o e => (og b o e).1, ?_, na, os, ag, hE⟩
  · obtain ⟨e', z⟩ := og b o e
    rcases z with z | z
    · obtain ⟨o', q⟩ := Option.isSome_iff_exists.mp z
      rw [hh3.1 b o' q] at e'
      cases e'
      exact q
    · exact absurd z hb
  · rw [hst]
    exact .inr (.inr hh3)
/-- as a value; what the calls of its element let out goes on in the def's own air -/
theorem pe_lcX {X : Cx} {E : XK} {elt tg iter : Expr} {ifs : List Expr} {scope : Scope} {own : List (Str × Nat)} {pos : Pos} {wi : TI} {g : TG} {tt : TT} {te : TE}
    (hc : X.calm = true) (hst : X.stack = X.env :: X.outer) (hf : X.env.frame = some X.env.locals) (tk : Takes X fun cls d _ H => E cls d H) (hN : X.N.Nodup) (hi : PI X tg iter wi) (ok : BlkOk X.N X.env.scope scope own)
    (hg : ∀ (t : Shared) (G : Hp) (C : Addr) (cl : List (Str × Addr)) (fp : List Addr), PG (X.blk t G scope (compEnvC scope cl C X.env) fp) tg g)
    (ht : ∀ (t : Shared) (G : Hp) (C : Addr) (cl : List (Str × Addr)) (fp : List Addr), PTs (X.blk t G scope (compEnvC scope cl C X.env) fp) ifs tt)
    (he : ∀ (t : Shared) (G : Hp) (C : Addr) (cl : List (Str × Addr)) (fp : List Addr), PE ((X.blk t G scope (compEnvC scope cl C X.env) fp).wish (BX (X.blk t G scope (compEnvC scope cl C X.env) fp) E)) elt te)
    (hz : ∀ x, foldedSetIterable iter X.env x = pure x := by intro _; rfl) :
    PE X (.ListComp elt [⟨tg, iter, ifs, 0⟩] scope pos) (tLc wi g tt te (own.map (·.2))) := by
  refine ⟨fun pins u0 σ H Q I h => ?_⟩
  rw [eval_ListComp]
  have hfr : ∀ y ∈ scope.names, y.2 = .free → ∃ c, X.env.cells.lookup y.1 = some c := fun y hy e => (ok.free y hy e).elim (fun k => I.ok.has _ (.inl k)) fun k => I.ok.has _ (.inr k)
  refine comprehension_at (use := none) rfl hz (closure_ok hfr) ok.kind (fun y hy e => (ok.uniq y hy).trans (congrArg some e)) ?_
  refine thn (hi.run pins u0 σ H _ I h) fun xv u1 hx => thn hx fun itv u2 hq => ?_
  obtain ⟨it, fp, tn, J, H2, eit, I2, T, st2, f2, q⟩ := hq
  subst eit
  refine wpAny_newObj_type (newEnv_comp ?_) (Nat.zero_le _)
  generalize eD : u2.heap.objs.size = D
  have nD : H2 D = none := I2.hok.fresh (Nat.le_of_eq eD)
  obtain ⟨W, ⟨m0, w0⟩, turn⟩ := q D nD
  generalize e3 : ({ u2 with heap := u2.heap.push { cls := .type "list", data := .seq ([] : List Value).toArray } } : Shared) = u3
  have h3 : u3.heap = u2.heap.push { cls := .type "list", data := .seq ([] : List Value).toArray } := e3 ▸ rfl
  have I3 : Inv X pins σ (upd H2 D (.lst [])) u3 := by
    subst e3
    refine I2.laid (t' := u2.toks) (fun b o z => Heap.get?_push_of_some _ z) (Nat.le_of_eq eD) ⟨Nat.zero_le _, [], 0, .nil, ?_⟩
    rw [← eD]
    exact Heap.get?_push_size _ rfl
  have f3 : ∀ b ∈ fp, FpOk X pins (upd H2 D (.lst [])) b ∧ b < u3.heap.objs.size := fun b hb => by
    obtain ⟨o, z, _⟩ := T.obj _ _ st2 b hb
    have lt := Heap.lt_size z
    refine ⟨⟨(upd_ne (eD ▸ Nat.ne_of_lt lt)).trans (f2 b hb).1, (f2 b hb).2⟩, ?_⟩
    rw [h3, Heap.size_push]
    exact Nat.lt_succ_of_lt lt
  have st3 : tn 0 u3.heap := T.keep _ _ _ st2 fun b _ o z => h3 ▸ Heap.get?_push_of_some _ z
  have I4 := block_start I3 ok hN f3
  have pg := hg u3 (upd H2 D (.lst [])) u3.heap.objs.size (cellsFrom (u3.heap.objs.size + 1) scope.names (cloFrom X.env.cells scope.names [])) fp
  have pt := ht u3 (upd H2 D (.lst [])) u3.heap.objs.size (cellsFrom (u3.heap.objs.size + 1) scope.names (cloFrom X.env.cells scope.names [])) fp
  have pe := he u3 (upd H2 D (.lst [])) u3.heap.objs.size (cellsFrom (u3.heap.objs.size + 1) scope.names (cloFrom X.env.cells scope.names [])) fp
  show codeAny _ _ (.compStart (.ListComp elt [⟨tg, iter, ifs, 0⟩] scope pos) 0 (.ref it) (.ref D) (compEnvC scope (cellsFrom (u3.heap.objs.size + 1) scope.names (cloFrom X.env.cells scope.names [])) u3.heap.objs.size X.env)) (compEnds (model X.prog X.w) X.A X.xe none (EP X pins σ Q) (.ref D) (compEnvC scope (cellsFrom (u3.heap.objs.size + 1) scope.names (cloFrom X.env.cells scope.names [])) u3.heap.objs.size X.env)) { u3 with heap := pushCells (u3.heap.push { cls := .type "dict", data := .dict #[] }) scope.names }
  have cF : (compEnvC scope (cellsFrom (u3.heap.objs.size + 1) scope.names (cloFrom X.env.cells scope.names [])) u3.heap.objs.size X.env).frame = X.env.frame := rfl
  have cL : (compEnvC scope (cellsFrom (u3.heap.objs.size + 1) scope.names (cloFrom X.env.cells scope.names [])) u3.heap.objs.size X.env).locals = u3.heap.objs.size := rfl
  have nfp : ∀ b ∈ fp, (upd H2 D (.lst [])) b = none := fun b hb => (f3 b hb).1.1
  generalize compEnvC scope (cellsFrom (u3.heap.objs.size + 1) scope.names (cloFrom X.env.cells scope.names [])) u3.heap.objs.size X.env = ce at I4 pg pt pe cF cL ⊢
  generalize upd H2 D (.lst []) = H3 at I3 I4 pg pt pe w0 nfp f3
  generalize e4 : ({ u3 with heap := pushCells (u3.heap.push { cls := .type "dict", data := .dict #[] }) scope.names } : Shared) = u4 at I4 ⊢
  have st4 : tn 0 u4.heap := T.keep _ _ _ st3 fun b _ o z => by
    subst e4
    exact pushCells_keeps _ _ _ _ (Heap.get?_push_of_some _ z)
  have stat : ∀ {τ : L2.St} {G : Hp} {t : Shared}, Inv (X.blk u3 H3 scope ce fp) [] τ G t → (∀ b ∈ fp, G b = none) → ∀ b ∈ fp, FpOk (X.blk u3 H3 scope ce fp) [] G b := fun {τ G t} J' hn b hb =>
    ⟨hn b hb, (J'.ok.exf b hb).1, J'.ok.exfs b hb, .inl hb, fun x c z => (J'.ok.exf b hb).2 x c z, fun p hp => by cases hp⟩
  have air : ∀ {v : Value} {t : Shared}, BX (X.blk u3 H3 scope ce fp) E v t → notedBy (model X.prog X.w) X.A ce (fun e t' => compEnds (model X.prog X.w) X.A X.xe none (EP X pins σ Q) (.ref D) ce (.error e) t') v t := fun z => blk_air hst hf tk I3 f3 cL cF z
  have loop : codeAny (model X.prog X.w) X.A (.compLoop (.ListComp elt [⟨tg, iter, ifs, 0⟩] scope pos) 0 (.ref it) (.ref D) ce) (compEnds (model X.prog X.w) X.A X.xe none (EP X pins σ Q) (.ref D) ce) u4 := by
    refine compLoop_any (fun n t => ∃ i G, Inv (X.blk u3 H3 scope ce fp) [] (wipe σ (own.map (·.2))) G t ∧ tn i t.heap ∧ (∀ b ∈ fp, G b = none) ∧ W i n G) ?_ m0 ⟨0, H3, I4, st4, nfp, w0⟩
    rintro n u5 ⟨i, H5, I5, st5, n5, w5⟩
    rcases turn i n H5 w5 with ⟨stop, qq⟩ | ⟨go, Nx, hNx, step⟩
    · refine thnF (T.done (X.blk u3 H3 scope ce fp) rfl rfl rfl hc i [] u5 _ H5 (fun _ _ => False) I5 (stat I5 n5) st5 stop) fun r u6 ⟨hr, I6⟩ => ?_
      subst hr
      have I7 : Inv X pins σ H5 u6 := I3.call' (ch := fp) I6.os I6.base I6.hok I6.bare fun b hb => ⟨(f3 b hb).1.2.2.2.1, (f3 b hb).1.2.1, (f3 b hb).1.2.2.2.2.1, (f3 b hb).1.2.2.2.2.2⟩
      have nC : H5 ce.locals = none := I6.free
      obtain ⟨m, hn, _⟩ := I6.loc
      have f := I3.fpOk (H' := H5) (b := ce.locals) (Nat.le_of_eq cL.symm) nC
      exact ⟨m, hn, fun h'' sb => ⟨.ref D, H5, I7.turned (t' := u6.toks) (fun b o hb z => (sb.2 b hb).trans z) f.1 f.2.1 f.2.2.2.1 f.2.2.2.2.1 f.2.2.2.2.2, rfl, qq⟩⟩
    · refine thnF (T.item (X.blk u3 H3 scope ce fp) rfl rfl rfl hc i [] u5 _ H5 (fun _ _ => False) I5 (stat I5 n5) st5 go) fun r u6 ⟨v, hr, h6⟩ => ?_
      subst hr
      refine thnF h6 fun _ u7 ⟨x, H7, I7, r7, y7, st7, n7⟩ => ?_
      have I7' := I7.pinned (stat I7 n7) (T.obj _ _ st7)
      refine thnF (pg.run _ u7 _ H7 x v _ I7' r7 (step x H7 y7)) fun _ u8 ⟨σ8, H8, I8, hw8, q8⟩ => ?_
      refine thnF (pt.run _ u8 σ8 H8 _ I8 q8) fun b u9 ⟨H9, I9, q9⟩ => ?_
      have fin : ∀ {t : Shared} {G : Hp}, Inv (X.blk u3 H3 scope ce fp) ([] ++ pinsAt fp u7.heap) σ8 G t → Nx G → ∃ m, m < n ∧ ∃ i G, Inv (X.blk u3 H3 scope ce fp) [] (wipe σ (own.map (·.2))) G t ∧ tn i t.heap ∧ (∀ b ∈ fp, G b = none) ∧ W i m G := fun {t G} J' nx => by
        obtain ⟨m', hm, w'⟩ := hNx G nx
        have pin' : ∀ b ∈ fp, ∀ o, u7.heap.get? b = some o → t.heap.get? b = some o ∧ G b = none := fun b hb o z =>
          let y := J'.pin (b, o) (List.mem_append_right _ (List.mem_append_right _ (mem_pinsAt hb z)))
          ⟨y.1, y.2.1⟩
        have hl : (wipe σ (own.map (·.2))).length = σ8.length := by rw [← hw8, wipe_length]
        refine ⟨m', hm, i + 1, G, (J'.unpinned (pins := [])).weak hl (fun j v z => (wipe_some (hw8 ▸ z)).1), T.keep _ _ _ st7 fun b hb o z => (pin' b hb o z).1, fun b hb => ?_, w'⟩
        obtain ⟨o, z, _⟩ := T.obj _ _ st7 b hb
        exact (pin' b hb o z).2
      cases b with
      | false => exact fin I9 q9
      | true =>
        rw [if_pos rfl] at q9 ⊢
        refine wpAny_mono (pe.run _ u9 σ8 H9 _ (I9.wish _) q9) (fun z u10 hz10 => ?_) fun _ _ => air
        obtain ⟨yv, H10, I10, r10, acc, hD10, hz10, nx⟩ := hz10
        exact app_ok (X := X.blk u3 H3 scope ce fp) I10.unwish hD10 hz10 r10 fun u11 I11 => fin I11 nx
  exact codeAny_compStart_list loop (T.self X.A 0 _ _ _ st4 loop)
end Bk

/-! sorted of tuples by their first int, which tells them apart. -/
namespace SrtO
open PySem PySem.Spec PyProof.Rows L2
section
variable {prog : Program} {w : World} {A : Around} {s : Shared} {E : Value → Shared → Prop}
/-- v is a tuple whose first item is the int x -/
def IsHead (h : Heap) (v : Value) (x : Int) : Prop := ∃ a o t rest n, v = .ref a ∧ h.get? a = some o ∧ o.cls = .type "tuple" ∧ o.data = .seq (Value.int x t :: rest).toArray n
theorem IsHead.keeps {h h' : Heap} {v : Value} {x : Int} (p : IsHead h v x) (k : ∀ b o, h.get? b = some o → o.cls = .type "tuple" → h'.get? b = some o) : IsHead h' v x := by
  obtain ⟨a, o, t, rest, n, e, ho, hc, hd⟩ := p
  exact ⟨a, o, t, rest, n, e, k _ _ ho hc, hc, hd⟩
theorem heads_of {h : Heap} : ∀ {vs : List Value}, (∀ v ∈ vs, ∃ x, IsHead h v x) → ∃ fs : List Value, PySem.W.KatTups h vs fs ∧ fs.length = vs.length ∧ ∀ f ∈ fs, ∃ x t, f = Value.int x t
  | [], _ => ⟨[], PySem.W.KatTups.nil, rfl, fun _ hm => by simp at hm⟩
  | v :: vs, hp => by
    obtain ⟨fs, h1, h2, h3⟩ := heads_of (vs := vs) fun v' hm => hp v' (List.mem_cons_of_mem _ hm)
    obtain ⟨x, a, o, t, rest, n, e, ho, hc, hd⟩ := hp v (List.mem_cons_self ..)
    subst e
    refine ⟨.int x t :: fs, PySem.W.KatTups.cons ho hc hd (by simp) h1, by rw [List.length_cons, List.length_cons, h2], fun f hm => ?_⟩
    rcases List.mem_cons.mp hm with rfl | hm
    · exact ⟨x, t, rfl⟩
    · exact h3 f hm
theorem kat_same {b fin : Bool} {Q : Bool → Shared → Prop} (h : Q fin s) : ∀ (l : List Value) (i : Nat), PySem.W.KatLex prog w A b fin Q (l.zip l) i s
  | [], _ => PySem.W.kat_nil h
  | v :: l, i => PySem.W.kat_cons (SeqAt.EqAt.same v prog w _ _ (PySem.W.kat_yes (kat_same h l (i + 1))))
theorem swo_head (k : Value → Int) : Swo fun v u => decide (k v < k u) :=
  ⟨fun x y h => by simp only [decide_eq_true_eq, decide_eq_false_iff_not] at *; omega, fun x y z h1 h2 => by simp only [decide_eq_false_iff_not] at *; omega⟩
theorem head_cmp {vs : List Value} {k : Value → Int} (hp : ∀ v ∈ vs, IsHead s.heap v (k v)) (hi : ∀ v ∈ vs, ∀ u ∈ vs, k v = k u → v = u) : Cmp prog w A s (tuples' true) (fun p => p.1 ∈ vs) (lt2 fun v u => decide (k v < k u)) := by
  intro p q hm hm'
  have h1 := hp _ hm
  have h2 := hp _ hm'
  have h3 := hi _ hm _ hm'
  show wpAny (model prog w) A (keyLt' (tuples' true) p.1 q.1) (fun r s' => s' = s ∧ r = decide (k p.1 < k q.1)) (fun _ _ => False) s
  by_cases e : k p.1 = k q.1
  · have e2 := h3 e
    rw [← e2]
    obtain ⟨a, o, t, rest, n, ea, ho, hc, hd⟩ := h1
    rw [ea]
    refine PySem.W.kat_lt ho hd ho hd ?_
    refine kat_same ⟨rfl, ?_⟩ _ 0
    rw [decide_eq_false (Nat.lt_irrefl _), decide_eq_false (Int.lt_irrefl _)]
  · generalize k p.1 = x at h1 e ⊢
    generalize k q.1 = x' at h2 e ⊢
    obtain ⟨a, o, t, rest, n, ea, ho, hc, hd⟩ := h1
    obtain ⟨a', o', t', rest', n', ea', ho', hc', hd'⟩ := h2
    rw [ea, ea']
    refine PySem.W.kat_lt ho hd ho' hd' ?_
    show PySem.W.KatLex prog w A true _ _ ((.int x t, .int x' t') :: rest.zip rest') 0 s
    refine PySem.W.kat_cons (SeqAt.EqAt.int_int x t x' t' prog w _ _ ?_)
    refine PySem.W.kat_go (fun e1 => absurd (by simpa using e1) e) (fun _ => ?_)
    exact PySem.W.kat_no (oneLt_int ⟨rfl, rfl⟩)
theorem heads_sortable {a : Addr} {vs : List Value} {k : Value → Int} (h0 : 0 < vs.length) (hp : ∀ v ∈ vs, IsHead s.heap v (k v)) (hi : ∀ v ∈ vs, ∀ u ∈ vs, k v = k u → v = u) (ha : ∀ o, s.heap.get? a = some o → o.cls ≠ .type "tuple") : SortableO prog w A s a vs fun v u => decide (k v < k u) := by
  intro h' keep
  have hp' : ∀ v ∈ vs, IsHead h' v (k v) := fun v hm => (hp v hm).keeps fun b o e c => keep b o (fun z => by subst z; exact ha o e c) e
  obtain ⟨fs, h1, h2, h3⟩ := heads_of fun v hm => ⟨_, hp' v hm⟩
  refine ⟨tuples' true, fun Q E hq => ?_, head_cmp hp' hi⟩
  refine PySem.W.kat_kind (T := .type "int") h1 (by omega) (fun f hm => ?_) (by rfl) ?_
  · obtain ⟨x, t, rfl⟩ := h3 f hm
    exact PySem.W.Looks.now
  · have e : (Value.type "int" != Value.type "tuple") = true := by first | decide +kernel | rfl | decide
    rw [e]
    exact hq
theorem sorted_heads {l : Addr} {vs : List Value} {k : Value → Int} {Q : Value → Shared → Prop} (hl : s.heap.IsList l vs.toArray) (hz : vs.length ≤ sizeLine) (hp : ∀ v ∈ vs, IsHead s.heap v (k v)) (hi : ∀ v ∈ vs, ∀ u ∈ vs, k v = k u → v = u)
    (h : ∀ (h' : Heap) (d : Addr) (out : List Value), Srtd (fun v u => decide (k v < k u)) out → Stb (fun v u => decide (k v < k u)) out vs → (∀ b o, s.heap.get? b = some o → h'.get? b = some o) → s.heap.objs.size ≤ d → (∃ n, h'.get? d = some (seqObj "list" out.toArray n)) → Q (.ref d) { s with heap := h' }) :
    wpAny (model prog w) A (call (.builtin "sorted") [.ref l]) Q E s := by
  refine sorted_ord (swo_head k) hl hz (fun h2 h₁ a ha kk => ?_) fun out hs hb => ?_
  · refine heads_sortable (s := { s with heap := h₁ }) (by omega) (fun v hm => (hp v hm).keeps fun b o e _ => (kk b o e).2) hi fun o e => ?_
    have e' : some o = some (seqObj "list" vs.toArray 0) := e.symm.trans ha
    cases e'
    intro c
    exact absurd (Value.type.inj c) (by decide)
  · exact h _ _ out hs hb (fun b o e => sortedAll_old e) (Nat.le_succ _) (sortedAll_at s.heap vs out.toArray)
end
end SrtO
namespace Bk
open PySem L2
/-- sorted(xs), xs tuples told apart by their first ints ks -/
def rSortedK (K : PySem.W.Frag) : List V → Hp → VK → Prop := fun vs H Q => ∃ (a : Addr) (xs : List V) (ks : List Int), vs = [V.ref a] ∧ SqL K H a xs ∧ ks.length = xs.length ∧ (∀ (i : Nat) (x : V) (c : Int), xs[i]? = some x → ks[i]? = some c → ∃ t ys, x = V.ref t ∧ SqT K H t (.int c :: ys)) ∧ ks.Nodup ∧
  ∀ (zs : List (V × Int)) p, zs.Perm (xs.zip ks) → zs.Pairwise (fun x y => x.2 ≤ y.2) → H p = none → Q (.ref p) (upd H p (.lst (zs.map (·.1))))
section
variable {X : Cx} {K : PySem.W.Frag}
theorem z_sortedK (eK : X.K = K) : CallR X (.builtin "sorted") (rSortedK K) := by
  subst eK
  intro pins s σ H vs us Q I r h
  obtain ⟨a, xs, ks, rfl, hs, hkl, hx, hnd, q⟩ := h
  obtain ⟨its, rv, hl, hz⟩ := I.list hs
  obtain ⟨u, rfl, ru⟩ := vals1 r
  obtain rfl : u = Value.ref a := ru
  have hlen : its.length = xs.length := rv.length.symm
  obtain ⟨e1, e2⟩ := refs_back rv fun x m => by
    obtain ⟨i, hi, rfl⟩ := List.getElem_of_mem m
    obtain ⟨t, ys, e, _⟩ := hx i _ _ (List.getElem?_eq_getElem hi) (List.getElem?_eq_getElem (by omega))
    exact ⟨t, e⟩
  -- an item's int
  have hit : ∀ (i : Nat) (v : Value) (c : Int), its[i]? = some v → ks[i]? = some c → ∃ t ys, v = .ref t ∧ SqT X.K H t (.int c :: ys) := fun i v c hv hc => by
    obtain ⟨t, rfl⟩ := e2 v (List.mem_of_getElem? hv)
    have hxi : xs[i]? = some (.ref t) := by rw [e1, List.getElem?_map, hv]; rfl
    obtain ⟨t', ys, e, ht⟩ := hx i _ c hxi hc
    cases e
    exact ⟨t, ys, rfl, ht⟩
  have huniq : ∀ (i j : Nat) (v : Value) (c d : Int), its[i]? = some v → ks[i]? = some c → its[j]? = some v → ks[j]? = some d → c = d := fun i j v c d h1 h2 h3 h4 => by
    obtain ⟨t, ys, rfl, ht⟩ := hit i v c h1 h2
    obtain ⟨t', ys', e, ht'⟩ := hit j _ d h3 h4
    cases e
    have := I.tuple_inj ht ht'
    cases this
    rfl
  let k : Value → Int := fun u => Classical.epsilon fun c => ∃ i : Nat, its[i]? = some u ∧ ks[i]? = some c
  have hk : ∀ (i : Nat) (v : Value) (c : Int), its[i]? = some v → ks[i]? = some c → k v = c := fun i v c h1 h2 => by
    obtain ⟨j, h3, h4⟩ := Classical.epsilon_spec (p := fun c => ∃ i : Nat, its[i]? = some v ∧ ks[i]? = some c) ⟨c, i, h1, h2⟩
    exact huniq j i v _ c h3 h4 h1 h2
  have hidx : ∀ v ∈ its, ∃ (i : Nat) (c : Int), its[i]? = some v ∧ ks[i]? = some c := fun v hv => by
    obtain ⟨i, hi, rfl⟩ := List.getElem_of_mem hv
    exact ⟨i, ks[i]'(by omega), List.getElem?_eq_getElem hi, List.getElem?_eq_getElem (by omega)⟩
  have hzip : its.map (fun u => (backV u, k u)) = xs.zip ks := by
    refine List.ext_getElem? fun i => ?_
    rw [List.getElem?_map, List.zip_eq_zipWith, List.getElem?_zipWith, e1, List.getElem?_map]
    cases h1 : its[i]? with
    | none => rfl
    | some v =>
      have hi := (List.getElem?_eq_some_iff.mp h1).1
      have h2 := List.getElem?_eq_getElem (show i < ks.length by omega)
      rw [h2]
      show some (backV v, k v) = some (backV v, ks[i])
      rw [hk i v _ h1 h2]
  refine SrtO.sorted_heads (k := k) hl.isList (by rw [← rv.length]; exact hz) (fun v hv => ?_) (fun v hv u hu e => ?_) fun h' d out h1 h2 kp hd hn => ?_
  · obtain ⟨i, c, h1, h2⟩ := hidx v hv
    rw [hk i v c h1 h2]
    obtain ⟨t, ys, rfl, ht⟩ := hit i v c h1 h2
    obtain ⟨its2, r2, ⟨o, ho, hc, n, hd⟩, _⟩ := I.tuple ht
    cases r2 with
    | cons ri rr =>
      obtain ⟨t1, rfl⟩ := ri
      exact ⟨t, o, t1, _, n, rfl, ho, hc, hd⟩
  · obtain ⟨i, c, h1, h2⟩ := hidx v hv
    obtain ⟨j, d, h3, h4⟩ := hidx u hu
    rw [hk i v c h1 h2, hk j u d h3 h4] at e
    subst e
    have hij : i = j := by
      obtain ⟨a1, b1⟩ := List.getElem?_eq_some_iff.mp h2
      obtain ⟨a2, b2⟩ := List.getElem?_eq_some_iff.mp h4
      exact (List.getElem_inj hnd).mp (b1.trans b2.symm)
    subst hij
    rw [h1] at h3
    cases h3
    rfl
  · have h3 : ∀ u ∈ out, ∃ a, u = Value.ref a := fun u hu => e2 u (h2.perm.mem_iff.mp hu)
    obtain ⟨n, hn⟩ := hn
    have hz2 : (out.map fun u => (backV u, k u)).map (·.1) = out.map backV := by rw [List.map_map]; rfl
    have hq := q (out.map fun u => (backV u, k u)) d (by rw [← hzip]; exact h2.perm.map _) (List.pairwise_map.mpr (h1.imp fun {x y} c => by
      have := of_decide_eq_false c
      show k x ≤ k y
      omega)) (I.hok.fresh hd)
    rw [hz2] at hq
    refine ⟨.ref d, upd H d (.lst (out.map backV)), I.laid (t' := s.toks) kp hd ⟨?_, out, n, vals_back h3, hn⟩, rfl, hq⟩
    rw [List.length_map, h2.perm.length_eq, ← rv.length]
    exact hz
end
end Bk

/-! Errors: own classes over ValueError, made and raised; isinstance and fields within an except suite; an instance made within a try. -/
namespace Bk
open PySem L2
section
variable {X : Cx} {K : PySem.W.Frag}
/-! ### o.f as a target -/
def gFld (K : PySem.W.Frag) (f : Str) (to : TE) : TG := fun v σ H QS => to σ H (kSFld K f QS σ v)
theorem z_gfld {o : Expr} {f : Str} {pos : Pos} {to : TE} (e : X.K = K) (ho : PE X o to) : PG X (.Attribute o f pos) (gFld K f to) := by
  subst e
  refine ⟨fun pins s σ H v u Q I r h => ?_⟩
  rw [PySem.assign_Attribute]
  refine wpAny_bind (wpAny_holding (thn (ho.run pins s σ H _ I h) fun ov s1 ⟨x, H1, I1, r1, a, C, dx, fs, ex, ea, c, n, l, q⟩ => ?_))
  subst ex
  obtain rfl : ov = Value.ref a := r1
  exact wpAny_bind (wpAny_standAt (wpAny_bind (wpAny_holding (setattr_ok I1 ea c n l r fun s2 I2 => wpAny_release ⟨σ, _, I2, q⟩))))
theorem g_fld {f : Str} {to : TE} {v : V} {σ : L2.St} {H : Hp} {QS : L2.St → Hp → Prop} (h : to σ H (kSFld K f QS σ v)) : gFld K f to v σ H QS := h
/-! ### an instance, made where what its making raises is wished for at the slots -/
def tMakeS (C : Addr) (sp : Sp) (E : L2.St → XK) (t : TA) : TE := fun σ H Q => t σ H (kMake C sp (E σ) Q)
theorem w_makeS {C : Addr} {sp : Sp} {E : L2.St → XK} {t : TA} {σ : L2.St} {H : Hp} {Q : VK} (h : t σ H (kMake C sp (E σ) Q)) : tMakeS C sp E t σ H Q := h
theorem z_makeS {CX : CXT} {k : Nat} {f C : Addr} {fd : FuncData} {ps : List Str} {sp : Sp} {E : L2.St → XK} {x : Str} {p pos : Pos} {e : Expr} {es : List Expr} {t : TA} (M : Mk X.K C f) (F : FnOk X.prog X.w X.K X.mg X.base CX k f fd ps sp) (hr : Room (k + 1) X.A) (hg : Gl X x) (hm : X.mg x = some (.ref C)) (hb : Binds X.K fd ps []) (hx : ∀ σ, PassesAt CX X σ (E σ)) (ha : PA X (e :: es) t)
    (hdb : (x == ("__debug__" : Str)) = false := by decide) (he : starEach (e :: es) X.env = (false, eval e X.env) :: starEach es X.env := by rfl) (hpl : (backTo pos (starEach es X.env)).any (·.1) = false := by rfl) : PE X (.Call (.Name x p) (e :: es) [] pos) (tMakeS C sp E t) := by
  refine ⟨fun pins s σ H Q I h => wpAny_Call_Name_kw (ld_glob I hg hm ?_ hdb)⟩
  refine PySem.W.callWith_K (h₀ := X.base) I.ok.mod.kin M.kp (thn (ha.run pos pins s σ H _ I h) fun us s1 hh => ?_) he hpl
  obtain ⟨vs, H1, I1, rv, q⟩ := hh
  refine ⟨I1.kIn, ?_⟩
  have q1 := q (s1.heap.objs.size + 1) s1.heap.objs.size (I1.hok.fresh (Nat.le_succ _)) (I1.hok.fresh (Nat.le_refl _)) (Nat.ne_of_lt (Nat.lt_succ_self _))
  have I2 := Inv.made (C := C) I1
  have rr : Vals (V.ref (s1.heap.objs.size + 1) :: vs) (Value.ref (s1.heap.objs.size + 1) :: us) := .cons rfl rv
  have hl : (Value.ref (s1.heap.objs.size + 1) :: us).length = ps.length := by rw [← rr.length]; exact F.len _ _ _ _ q1
  have bb := hb _ (Value.ref (s1.heap.objs.size + 1) :: us) I2.kIn (by rw [List.append_nil]; exact hl)
  rw [List.append_nil] at bb
  show wpAny _ _ (call (.ref C) us) _ _ _
  refine wpAny_call (make_map (f := f) I1.kIn M.makes M.init (beq_iff_eq.mp M.fn) (codeAny_mono (F.run _ X.stack _ _ ⟨Value.ref (s1.heap.objs.size + 1) :: us, []⟩ _ _ _ (E σ) (hr.make C us []) (I2.env0.make C us []) bb rr q1) fun r s' hq => ?_))
  match r, hq with
  | .error er, hq => exact hx σ pins _ _ er s' I2 hq
  | .ok (.ret u), hq =>
    obtain ⟨v, H', I3, ru, ev, q3⟩ := I2.after hq
    subst ev
    exact ⟨ru, V.ref (s1.heap.objs.size + 1), H', I3, rfl, q3⟩
  | .ok .next, hq => exact False.elim hq
  | .ok .brk, hq => exact False.elim hq
  | .ok .cont, hq => exact False.elim hq
/-! ### raise C('..') -/
def tRaiseOwn (C : Addr) (W : WX) : TS := fun _ σ H => W (.ref C) none σ H
theorem z_raise {C : Addr} {W : WX} {x m : Str} {j : Nat} {p p2 pos pos2 : Pos} (hc : X.calm = true) (tk : Takes X W) (q : PySem.W.excIn X.K C He.veBase "ValueError.__new__" = true) (gC : X.mg x = some (.ref C)) (kC : PySem.W.keepIn X.K (.ref C) = true)
    (hb : PySem.W.subIn X.K (.ref C) (.type "BaseException") = some true) (ht : PySem.W.typeIn X.K (.ref C) = some (.type "type")) (hg : Gl X x) (hdb : (x == ("__debug__" : Str)) = false := by decide) :
    PS X (.Raise (some (.Call (.Name x p) [.Constant (.str m) j p2] [] pos)) none pos2) (tRaiseOwn C W) := ps_raise hc tk (pmk_own PySem.F.excBase_ValueError q gC kC (raises_own hb ht) hg hdb)
theorem w_raise {C : Addr} {W : WX} {D : Ends} {σ : L2.St} {H : Hp} (h : W (.ref C) none σ H) : tRaiseOwn C W D σ H := h
/-! ### try .. except X as e -/
def tTryAs (K : PySem.W.Frag) (c : Value) (i : Nat) (tb : WX → TS) (ts : Addr → Value → Option Addr → TS) (Wout : WX) : TS := fun D σ H => tb (wAs K c i ts Wout D) D σ H
theorem w_try {c : Value} {i : Nat} {tb : WX → TS} {ts : Addr → Value → Option Addr → TS} {Wout : WX} {D : Ends} {σ : L2.St} {H : Hp} (h : tb (wAs K c i ts Wout D) D σ H) : tTryAs K c i tb ts Wout D σ H := h
theorem z_try {x n : Str} {c : Value} {i : Nat} {body suite : List Stmt} {b0 : Stmt} {np pos pos' : Pos} {tb : WX → TS} {ts : Addr → Value → Option Addr → TS} {Wout : WX} (eK : X.K = K) (hs : X.stack = X.env :: X.outer) (hf : X.env.frame = some X.env.locals) (hN : X.N.Nodup) (hi : X.N[i]? = some n) (hln : X.env.kindOf n = some .local) (hc : Names X x c) (tk : Takes X Wout)
    (hb : ∀ (W : WX) (pn : List (Addr × Obj)) (xe : Value → Shared → Prop), Takes (X.tr pn xe) W → PassesOwn (model X.prog X.w) X.A X.env xe → PSs (X.tr pn xe) body (tb W))
    (hsu : ∀ (a : Addr) (oe : Obj) (cls : Value) (d : Option Addr) (pn : List (Addr × Obj)), Zc cls d oe → (∃ vs, oe.data = .fields vs) → PSs (X.suite a ((a, oe) :: pn)) (b0 :: suite) (ts a cls d)) :
    PS X (.Try body [.ExceptHandler (some (.Name x np)) (some n) (b0 :: suite) pos'] [] [] pos) (tTryAs K c i tb ts Wout) := by
  subst eK
  exact ps_try_as hs hf hN hi hln hc tk hb hsu
/-- what the clause wishes, where it takes the error -/
theorem k_as {c cls : Value} {i : Nat} {ts : Addr → Value → Option Addr → TS} {Wout : WX} {nx bk ct : L2.St → Hp → Prop} {rt : VK} {d : Option Addr} {σ : L2.St} {H : Hp} (he : PySem.W.exmOne K cls c = some true)
    (h : ∀ a, H a = none → ts a cls d ⟨fun σ' H' => nx (σ'.set i none) H', rt, fun σ' H' => bk (σ'.set i none) H', fun σ' H' => ct (σ'.set i none) H'⟩ (σ.set i (some (.ref a))) H) : wAs K c i ts Wout ⟨nx, rt, bk, ct⟩ cls d σ H := ⟨true, he, fun _ => h, fun z => nomatch z⟩
/-! ### isinstance of the error at hand -/
structure XcC (K : PySem.W.Frag) (D : Addr) : Prop where
  cl : (PySem.W.clsIn K D).isSome = true
  ga : PySem.W.findIn K (.ref D) "__getattribute__" = some (some (.builtin "BaseException.__getattribute__"))
  gt : PySem.W.findIn K (.ref D) "__getattr__" = some none
  sb : PySem.W.subIn K (.ref D) (.type "BaseException") = some true
  ha : PySem.W.findIn K (.ref D) "__class__" = some (some (.builtin "object.__class__"))
  hn : PySem.W.specialIn K (.builtin "object.__class__") "__get__" = some (some (.builtin "getset_descriptor.__get__"))
  tk : PySem.W.takesIn K (.builtin "object.__class__") = some true
  mr : PySem.W.mroIn K D (.type "object") = some true
def xcB (K : PySem.W.Frag) (D : Addr) : Bool := (PySem.W.clsIn K D).isSome && (decide (PySem.W.findIn K (.ref D) "__getattribute__" = some (some (.builtin "BaseException.__getattribute__"))) && (decide (PySem.W.findIn K (.ref D) "__getattr__" = some none) && (decide (PySem.W.subIn K (.ref D) (.type "BaseException") = some true) &&
  (decide (PySem.W.findIn K (.ref D) "__class__" = some (some (.builtin "object.__class__"))) && (decide (PySem.W.specialIn K (.builtin "object.__class__") "__get__" = some (some (.builtin "getset_descriptor.__get__"))) && (decide (PySem.W.takesIn K (.builtin "object.__class__") = some true) && decide (PySem.W.mroIn K D (.type "object") = some true)))))))
theorem xcB_ok {D : Addr} (h : xcB K D = true) : XcC K D := by
  unfold xcB at h
  simp only [Bool.and_eq_true, decide_eq_true_eq] at h
  obtain ⟨h1, h2, h3, h4, h5, h6, h7, h8⟩ := h
  exact ⟨h1, h2, h3, h4, h5, h6, h7, h8⟩
def rIsX (K : PySem.W.Frag) (a : Addr) (cls : Value) (d : Option Addr) : List V → Hp → VK → Prop := fun xs H Q => ∃ (D : Addr) (c : V) (cv : Value) (b : Bool), xs = [.ref a, c] ∧ cls = .ref D ∧ XcC K D ∧ (d = none ∨ ∃ dd fs, d = some dd ∧ H dd = some (.xd fs)) ∧ (∀ u, RelV c u → u = cv) ∧ PySem.W.kitOne K (.ref D) cv = some b ∧ Q (.bl b) H
theorem call_isX {a : Addr} {oe : Obj} {cls : Value} {d : Option Addr} {pn : List (Addr × Obj)} (eK : X.K = K) (hz : Zc cls d oe) (hf : ∃ vs, oe.data = .fields vs) : CallR (X.suite a ((a, oe) :: pn)) (.builtin "isinstance") (rIsX K a cls d) := by
  subst eK
  intro pins s σ H xs us Q I r h
  obtain ⟨D, c, cv, b, rfl, rfl, T, hd, hcv, e, q⟩ := h
  match us, r with
  | [u1, u2], .cons rx (.cons rt .nil) =>
    obtain rfl : u1 = Value.ref a := rx
    obtain rfl := hcv _ rt
    have hget := (I.pin (a, oe) (List.mem_append_left _ List.mem_cons_self)).1
    obtain ⟨vs, hv⟩ := hf
    have go : ∀ od, PySem.W.InstAt s.heap a oe D od → wpAny (model (X.suite a ((a, oe) :: pn)).prog (X.suite a ((a, oe) :: pn)).w) (X.suite a ((a, oe) :: pn)).A (call (.builtin "isinstance") [.ref a, u2]) (EP (X.suite a ((a, oe) :: pn)) pins σ Q) (X.suite a ((a, oe) :: pn)).xe s := fun od J =>
      PySem.W.kia_one (PySem.W.kitx_exc T.cl T.ga T.gt T.sb T.ha T.hn T.tk T.mr) I.kIn J e (fun z => nomatch z) fun tk => ⟨.bl b, H, I.kept (t' := tk) fun _ _ z => z, rfl, q⟩
    have nc : PySem.W.notCls oe = true := by unfold PySem.W.notCls; rw [hv] <;> rfl
    rcases hd with hd | ⟨dd, fs, hd, ea⟩
    · exact go none ⟨hget, hz.1, nc, by rw [hz.2, hd]; trivial⟩
    · obtain ⟨mA, hns, _⟩ := (show ObjOk X.prog X.w H s.heap dd (.xd fs) from I.hok dd _ ea)
      obtain ⟨od, ho, _⟩ := lookIn_ns hns
      exact go (some od) ⟨hget, hz.1, nc, by rw [hz.2, hd]; exact ho⟩
theorem b_isX {D a : Addr} {c : V} {cv : Value} {d : Option Addr} {b : Bool} {H : Hp} {Q : VK} (T : XcC K D) (hd : d = none ∨ ∃ dd fs, d = some dd ∧ H dd = some (.xd fs)) (hc : ∀ u, RelV c u → u = cv) (hk : PySem.W.kitOne K (.ref D) cv = some b) (h : Q (.bl b) H) : rIsX K a (.ref D) d [.ref a, c] H Q := ⟨D, c, cv, b, rfl, rfl, T, hd, hc, hk, h⟩
end
theorem w_callS {sp : Sp} {E : L2.St → XK} {tr : TA} {σ : L2.St} {H : Hp} {Q : VK} (h : tr σ H fun vs H1 => kCall sp (E σ) Q vs H1) : tCallS sp E tr σ H Q := h
def kXf (a : Addr) (cls : Value) (d : Option Addr) (C : Addr) (f : Str) (Q : VK) (x : V) (H1 : Hp) : Prop := x = .ref a ∧ cls = .ref C ∧ ∃ (dd : Addr) (fs : List (Str × V)) (v : V), d = some dd ∧ H1 dd = some (.xd fs) ∧ fs.lookup f = some v ∧ Q v H1
theorem w_xf {a C : Addr} {cls : Value} {d : Option Addr} {f : Str} {te : TE} {σ : L2.St} {H : Hp} {Q : VK} (h : te σ H (kXf a cls d C f Q)) : tXf a cls d C f te σ H Q := h
end Bk

/-! Data of any depth: kept by what keeps all; its type; what alike takes. -/
namespace Bk
open PySem L2
section
variable {K : PySem.W.Frag} {H H' : Hp}
mutual
theorem same_dp (e : Same H H') : ∀ (d : PyData) (v : V), Dp K H v d → Dp K H' v d
  | .none, _, h => by cases h; exact .non
  | .bool _, _, h => by cases h; exact .bl _
  | .int _, _, h => by cases h; exact .int _
  | .str _, _, h => by cases h; exact .str _
  | .list ds, _, h => by cases h with | lst h1 h2 => exact .lst (same_l e h1) (same_dps e ds _ h2)
  | .tuple ds, _, h => by cases h with | tup h1 h2 => exact .tup (same_t e h1) (same_dps e ds _ h2)
  | .dict _, _, h => by cases h
theorem same_dps (e : Same H H') : ∀ (ds : List PyData) (vs : List V), DpAll K H vs ds → DpAll K H' vs ds
  | [], _, h => by cases h; exact .nil
  | d :: ds, _, h => by cases h with | cons h1 h2 => exact .cons (same_dp e d _ h1) (same_dps e ds _ h2)
end
theorem dps_len : ∀ {ds : List PyData} {vs : List V}, DpAll K H vs ds → vs.length = ds.length
  | [], _, h => by cases h; rfl
  | d :: ds, _, h => by cases h with | cons h1 h2 => exact congrArg (· + 1) (dps_len h2)
theorem dps_at : ∀ {ds : List PyData} {vs : List V} {i : Nat} {v : V}, DpAll K H vs ds → vs[i]? = some v → ∃ d, ds[i]? = some d ∧ Dp K H v d
  | [], _, i, v, h, e => by cases h; simp at e
  | d :: ds, _, 0, v, h, e => by cases h with | cons h1 h2 => cases Option.some.inj e; exact ⟨d, rfl, h1⟩
  | d :: ds, _, i + 1, v, h, e => by cases h with | cons h1 h2 => exact dps_at (i := i) h2 e
end
mutual
/-- no dict; lists not too long -/
def okD : PyData → Bool
  | .list xs => decide (xs.length ≤ 100000) && okAll xs
  | .tuple xs => decide (xs.length ≤ 100000) && okAll xs
  | .dict _ => false
  | _ => true
def okAll : List PyData → Bool
  | [] => true
  | x :: xs => okD x && okAll xs
end
theorem okAll_at : ∀ {ds : List PyData} {d : PyData}, okAll ds = true → d ∈ ds → okD d = true
  | x :: xs, d, h, m => by
    have h' : (okD x && okAll xs) = true := h
    rw [Bool.and_eq_true] at h'
    rcases List.mem_cons.mp m with e | m
    · rw [e]; exact h'.1
    · exact okAll_at h'.2 m
theorem depth_at : ∀ {ds : List PyData} {d : PyData}, d ∈ ds → d.depth ≤ PyData.depthAll ds
  | x :: xs, d, m => by
    show d.depth ≤ max x.depth (PyData.depthAll xs)
    rcases List.mem_cons.mp m with e | m
    · rw [e]; exact Nat.le_max_left _ _
    · exact Nat.le_trans (depth_at m) (Nat.le_max_right _ _)
/-- its type's name -/
def tyD : PyData → String
  | .none => "NoneType"
  | .bool _ => "bool"
  | .int _ => "int"
  | .str _ => "str"
  | .list _ => "list"
  | .tuple _ => "tuple"
  | .dict _ => "dict"
theorem ty_dp {K : PySem.W.Frag} {H : Hp} : ∀ {d : PyData} {v : V}, Dp K H v d → TyX K H v (.type (tyD d))
  | .none, _, h => by cases h; exact .base .non
  | .bool _, _, h => by cases h; exact .base (.bl _)
  | .int _, _, h => by cases h; exact .base (.int _)
  | .str _, _, h => by cases h; exact .base (.str _)
  | .list ds, _, h => by cases h with | lst h1 h2 => exact ty_l h1
  | .tuple ds, _, h => by cases h with | tup h1 h2 => exact ty_t h1
  | .dict _, _, h => by cases h
/-! ### lists of ints -/
theorem dps_ints {K : PySem.W.Frag} {H : Hp} : ∀ ns : List Int, DpAll K H (ns.map V.int) (ns.map PyData.int)
  | [] => .nil
  | n :: ns => .cons (.int n) (dps_ints ns)
theorem ok_ints : ∀ ns : List Int, okAll (ns.map PyData.int) = true
  | [] => rfl
  | n :: ns => by
    show (okD (.int n) && okAll (ns.map PyData.int)) = true
    rw [ok_ints ns]
    rfl
theorem lay_ints : ∀ ns : List Int, PyData.canLayAll0 (ns.map PyData.int) = true
  | [] => rfl
  | n :: ns => by
    show (PyData.canLay0 (.int n) && PyData.canLayAll0 (ns.map PyData.int)) = true
    rw [lay_ints ns]
    rfl
theorem depth_ints : ∀ ns : List Int, PyData.depthAll (ns.map PyData.int) ≤ 1
  | [] => by decide
  | n :: ns => by
    show max (PyData.depth (.int n)) (PyData.depthAll (ns.map PyData.int)) ≤ 1
    have := depth_ints ns
    have e : PyData.depth (.int n) = 0 := rfl
    omega
theorem shaped_of {d : PyData} (h : d.canLay0 = true) (h2 : d.depth ≤ 64) : SeqAt.shaped d = true := by
  unfold SeqAt.shaped
  rw [h, decide_eq_true h2]
  rfl
theorem shaped_ints (ns : List Int) : SeqAt.shaped (.list (ns.map PyData.int)) = true :=
  shaped_of (lay_ints ns) (by have := depth_ints ns; show PyData.depthAll (ns.map PyData.int) + 1 ≤ 64; omega)
theorem eqv_nil (ds : List PyData) : PyData.eqv (.list ds) (.list []) = ds.isEmpty := by
  show PyData.eqvAll ds [] = ds.isEmpty
  cases ds <;> rfl
theorem filter_take {α : Type} {p : α → Bool} {xs : List α} {i : Nat} {z : α} (h : xs[i]? = some z) : (xs.take (i + 1)).filter p = (xs.take i).filter p ++ if p z = true then [z] else [] := by
  have e : xs.take (i + 1) = xs.take i ++ [z] := by rw [List.take_add_one, h]; rfl
  rw [e, List.filter_append]
  congr 1
  by_cases hp : p z = true
  · rw [if_pos hp, List.filter_cons_of_pos hp]; rfl
  · rw [if_neg hp, List.filter_cons_of_neg hp]; rfl
theorem map_at {α β : Type} {f : α → β} {xs : List α} {i : Nat} {y : β} (h : (xs.map f)[i]? = some y) : ∃ x, xs[i]? = some x ∧ y = f x := by
  rw [List.getElem?_map] at h
  cases q : xs[i]? with
  | none => rw [q] at h; cases h
  | some x => rw [q] at h; exact ⟨x, rfl, (Option.some.inj h).symm⟩
/-! ### tuples of ints, cut and joined -/
theorem s_slT {K : PySem.W.Frag} {H : Hp} {Q : VK} {a : Addr} {ns : List Int} {lo hi : Option Int} (hp : SqT K H a (ns.map V.int)) (h : ∀ q (ms : List Int) H', Same H H' → SqT K H' q (ms.map V.int) → ms.length ≤ ns.length → Q (.ref q) H') : rSlA K (.ref a) lo hi H Q := by
  refine ⟨a, ns.map V.int, rfl, hp, fun _ => h a ns H (Same.refl _) hp (Nat.le_refl _), fun _ q nq => ?_⟩
  have e : cutV (ns.map V.int) lo hi = ((ns.drop (HT.sIx (ns.map V.int).length 0 lo)).take (HT.sIx (ns.map V.int).length (ns.map V.int).length hi - HT.sIx (ns.map V.int).length 0 lo)).map V.int := by
    unfold cutV
    rw [List.map_take, List.map_drop]
  refine h q _ _ (Same.new nq) (by rw [← e]; exact SqT.of upd_same) ?_
  rw [List.length_take, List.length_drop]
  omega
theorem s_catI {K : PySem.W.Frag} {H : Hp} {Q : VK} {a b : Addr} {ns ms : List Int} (ha : SqT K H a (ns.map V.int)) (hb : SqT K H b (ms.map V.int)) (hl : ns.length + ms.length ≤ 100000) (h : ∀ q H', Same H H' → SqT K H' q ((ns ++ ms).map V.int) → Q (.ref q) H') : rCatA K (.ref a) (.ref b) H Q := by
  refine r_catA ha hb (sz_of (by rw [List.length_map, List.length_map]; exact hl)) (fun e => ?_) (fun _ e => ?_) fun _ _ q nq => ?_
  · have e' : ns = [] := List.map_eq_nil_iff.mp e
    exact h b H (Same.refl _) (by rw [e', List.nil_append]; exact hb)
  · have e' : ms = [] := List.map_eq_nil_iff.mp e
    exact h a H (Same.refl _) (by rw [e', List.append_nil]; exact ha)
  · exact h q _ (Same.new nq) (by rw [List.map_append]; exact SqT.of upd_same)
end Bk

/-! Own errors with an __init__ that hands its number on to BankError's (that is ValueError's) and keeps it. -/
namespace Bk
open PySem L2
structure BkC (K : PySem.W.Frag) (B : Addr) : Prop where
  sp : PySem.W.specialIn K (.ref B) "__getattribute__" = some (some (.builtin "type.__getattribute__"))
  rd : PySem.W.readsIn K B (.type "type") = true
  fc : PySem.W.findCls K (.ref B) (.type "type") "__init__" = some (.val (.builtin "ValueError.__init__"))
def bkB (K : PySem.W.Frag) (B : Addr) : Bool := decide (PySem.W.specialIn K (.ref B) "__getattribute__" = some (some (.builtin "type.__getattribute__"))) && (PySem.W.readsIn K B (.type "type") && (match PySem.W.findCls K (.ref B) (.type "type") "__init__" with
  | some (.val (.builtin i)) => decide (i = "ValueError.__init__")
  | _ => false))
theorem bkB_ok {K : PySem.W.Frag} {B : Addr} (h : bkB K B = true) : BkC K B := by
  unfold bkB at h
  simp only [Bool.and_eq_true, decide_eq_true_eq] at h
  obtain ⟨h1, h2, h3⟩ := h
  refine ⟨h1, h2, ?_⟩
  split at h3
  · rename_i i e
    rw [e, of_decide_eq_true h3]
  · cases h3
section
variable {X : Cx} {K : PySem.W.Frag} {e : Expr} {es : List Expr} {ta : TA} {p1 p2 pos : Pos}
theorem z_bkinit {pl : Sem Bool} {B : Addr} (eK : X.K = K) (T : BkC K B) (hg : Gl X "BankError") (hm : X.mg "BankError" = some (.ref B)) (ha : PA X (e :: es) ta)
    (hc : eval (.Call (.Attribute (.Name "BankError" p1) "__init__" p2) (e :: es) [] pos) X.env = (do
      let ov ← eval (.Name "BankError" p1) X.env
      standAt p2.atName
      let (f, first) ← holding [ov] (getMethod ov "__init__" pl)
      callWith pos f first (backTo pos (starEach (e :: es) X.env)) (backToKw pos (keywordEach [] X.env))) := by rfl)
    (he : starEach (e :: es) X.env = (false, eval e X.env) :: starEach es X.env := by rfl) (hpl : (backTo pos (starEach es X.env)).any (·.1) = false := by rfl) : PE X (.Call (.Attribute (.Name "BankError" p1) "__init__" p2) (e :: es) [] pos) (tVeI K ta) := by
  subst eK
  refine ⟨fun pins s σ H Q I h => PySem.W.methodCall_KW (ld_glob I hg hm ?_ (by decide)) hc⟩
  refine PySem.W.method_cls I.kIn T.sp (PySem.W.cls_value I.kIn T.rd T.fc (by decide +kernel) ?_)
  show wpAny _ _ (callWith pos (Value.builtin "ValueError.__init__") [] (backTo pos (starEach (e :: es) X.env)) []) _ _ _
  refine PyProof.Rows.callWith_method1 (thn (ha.run pos pins _ σ H _ (I.tok _) h) fun us s1 hh => ?_) he hpl
  obtain ⟨vs, H1, I1, r1, a, C, ws, ev, hl, T', ea, q⟩ := hh
  subst ev
  match us, r1 with
  | _ :: ur, .cons ra rw' =>
    obtain rfl := (show _ = Value.ref a from ra)
    exact oinit_ok T' I1 ea (by rw [← Paired.length rw', sizeLine_eq]; omega) fun s' J => ⟨.non, H1, J, rfl, q⟩
end
/-! ### the class, and self.number = number -/
def oexB (K : PySem.W.Frag) (C : Addr) : Bool := (match K.lookup C with
  | some ⟨.type c, _, .cls cd, sl⟩ => (match cd.mro, sl.toList with
    | .ref C' :: bm, [_, _, _, _, some (.builtin n), _] => decide (c = "type") && (decide (C' = C) && (decide (n = "ValueError.__new__") && (!cd.hasDel && (cd.hasDict && PySem.HandSPX.refsVE bm))))
    | _, _ => false)
  | _ => false) && (decide (PySem.W.findIn K (.ref C) "__setattr__" = some (some (.builtin "object.__setattr__"))) && (decide (PySem.W.subIn K (.ref C) (.type "BaseException") = some true) && (decide (PySem.W.typeIn K (.ref C) = some (.type "type")) && PySem.W.keepIn K (.ref C))))
theorem oexB_ok {K : PySem.W.Frag} {C : Addr} (h : oexB K C = true) : OexC K C := by
  unfold oexB at h
  simp only [Bool.and_eq_true, decide_eq_true_eq] at h
  obtain ⟨h1, h2, h3, h4, h5⟩ := h
  refine ⟨?_, h2, h3, h4, h5⟩
  split at h1
  · rename_i c dd cd sl ho
    split at h1
    · rename_i C' bm k0 k1 k2 k3 n k5 hm hs
      simp only [Bool.and_eq_true, decide_eq_true_eq, Bool.not_eq_true'] at h1
      obtain ⟨rfl, rfl, rfl, hdel, hdct, hbm⟩ := h1
      obtain ⟨nm, bs, mro, ns, qn, hd, sn, sub, ab, col, del⟩ := cd
      dsimp only at hm hdel hdct
      subst hm hdel hdct
      have hsl : sl = #[k0, k1, k2, k3, some (.builtin "ValueError.__new__"), k5] := by
        obtain ⟨l⟩ := sl
        simp only at hs
        rw [hs]
      subst hsl
      exact ⟨nm, qn, ns, bs, bm, sn, sub, ab, col, dd, k0, k1, k2, k3, k5, ho, hbm⟩
    · cases h1
  · cases h1
theorem z_ost {X : Cx} {K : PySem.W.Frag} {o e : Expr} {to te : TE} {f : Str} {p' pos : Pos} (eK : X.K = K) (ho : PE X o to) (he : PE X e te) (hs : swapsWith e (some (.Attribute o f p')) pos.line X.env = pure false := by rfl) : PS X (.Assign [.Attribute o f p'] e pos) (tOst K f to te) := by
  subst eK
  exact ps_ost ho he hs
/-- raise C(e) -/
def tRaiseO (C : Addr) (sp : Sp) (W : WX) (ta : TA) : TS := fun _ σ H => tMkO C sp [] ta σ H fun cls d H' => W cls d σ H'
theorem z_raiseO {X : Cx} {K : PySem.W.Frag} {CX : CXT} {x : Str} {C fI : Addr} {k : Nat} {fd : FuncData} {ps : List Str} {sp : Sp} {W : WX} {e : Expr} {es : List Expr} {ta : TA} {p pos pos2 : Pos} (eK : X.K = K) (hc : X.calm = true) (tk : Takes X W) (T : OexC K C) (iC : PySem.W.findIn K (.ref C) "__init__" = some (some (.ref fI))) (tI : PySem.W.typeIn K (.ref fI) = some (.type "function"))
    (F1 : FnOk X.prog X.w X.K X.mg X.base CX k fI fd ps sp) (hr : Room (k + 1) X.A) (hb : Binds X.K fd ps []) (hx : Passes CX X (fun _ _ _ => False)) (hg : Gl X x) (hm : X.mg x = some (.ref C)) (ha : PA X (e :: es) ta)
    (hdb : (x == ("__debug__" : Str)) = false := by decide) (he : starEach (e :: es) X.env = (false, eval e X.env) :: starEach es X.env := by rfl) (hpl : (backTo pos (starEach es X.env)).any (·.1) = false := by rfl) :
    PS X (.Raise (some (.Call (.Name x p) (e :: es) [] pos)) none pos2) (tRaiseO C sp W ta) := by
  subst eK
  exact ps_raise hc tk (pmk_oex T iC tI F1 hr hb .nil hx hg hm ha hdb he hpl)
/-- what the raise asks: the wish at a heap where the error's own dict tells its number -/
def spNum (K : PySem.W.Frag) (C : Addr) (f : Str) : Sp := fun vs H Q E => ∃ (a : Addr) (n : V), vs = [.ref a, n] ∧ H a = some (exo a C none) ∧ ∀ dx, H dx = none → dx ≠ a → Q .non (upd (upd H dx (exd dx [(f, n)])) a (exo a C (some dx)))
def kRaiseO (C : Addr) (sp : Sp) (W : WX) (σ : L2.St) (vs : List V) (H1 : Hp) : Prop := vs.length ≤ 1000 ∧ ∀ a, H1 a = none → sp (.ref a :: (vs ++ [])) (upd H1 a (exo a C none))
  (fun v H2 => v = .non ∧ ∃ (d : Addr) (fs : List (Str × V)), H2 a = some (exo a C (some d)) ∧ H2 d = some (exd d fs) ∧ H1 d = none ∧ W (.ref C) (some d) σ (upd (del H2 a) d (.xd fs))) (fun _ _ _ => False)
theorem w_raiseO {C : Addr} {sp : Sp} {W : WX} {ta : TA} {D : Ends} {σ : L2.St} {H : Hp} (h : ta σ H (kRaiseO C sp W σ)) : tRaiseO C sp W ta D σ H := h
theorem k_raiseO {K : PySem.W.Frag} {C : Addr} {f : Str} {W : WX} {σ : L2.St} {H1 : Hp} {n : V} (h : ∀ d H2, Same H1 H2 → H2 d = some (.xd [(f, n)]) → W (.ref C) (some d) σ H2) : kRaiseO C (spNum K C f) W σ [n] H1 := by
  refine ⟨by show 1 ≤ 1000; decide, fun a na => ⟨a, n, rfl, upd_same, fun dx nx ne => ⟨rfl, dx, [(f, n)], upd_same, by rw [upd_ne ne]; exact upd_same, ?_, h dx _ (fun b o hb => ?_) upd_same⟩⟩⟩
  · rw [upd_ne ne] at nx
    exact nx
  · rw [upd_ne ne] at nx
    have h1 : b ≠ a := ne_of_none hb na
    have h2 : b ≠ dx := ne_of_none hb nx
    rw [upd_ne h2, del_ne h1, upd_ne h1, upd_ne h2, upd_ne h1]
    exact hb
/-! ### the __init__'s own steps -/
section
variable {K : PySem.W.Frag} {σ : L2.St} {H : Hp} {Q : VK}
def kVeI (K : PySem.W.Frag) (Q : VK) (vs : List V) (H1 : Hp) : Prop := ∃ (a C : Addr) (ws : List V), vs = .ref a :: ws ∧ ws.length ≤ 1000 ∧ OexC K C ∧ H1 a = some (exo a C none) ∧ Q .non H1
theorem w_vei {ta : TA} (h : ta σ H (kVeI K Q)) : tVeI K ta σ H Q := h
theorem k_vei {a C : Addr} {n : V} (T : OexC K C) (ha : H a = some (exo a C none)) (h : Q .non H) : kVeI K Q [.ref a, n] H := ⟨a, C, [n], rfl, by show 1 ≤ 1000; decide, T, ha, h⟩
def kOst (K : PySem.W.Frag) (f : Str) (nx : L2.St → Hp → Prop) (σ : L2.St) (y x : V) (H2 : Hp) : Prop := ∃ a C : Addr, x = .ref a ∧ OexC K C ∧ PySem.W.findIn K (.ref C) f = some none ∧
  ((H2 a = some (exo a C none) ∧ ∀ dx, H2 dx = none → dx ≠ a → nx σ (upd (upd H2 dx (exd dx [(f, y)])) a (exo a C (some dx)))) ∨
    ∃ (dx : Addr) (fs : List (Str × V)), H2 a = some (exo a C (some dx)) ∧ H2 dx = some (exd dx fs) ∧ fs.length ≤ 900 ∧ nx σ (upd H2 dx (exd dx ((f, y) :: fs))))
theorem w_ost {f : Str} {to te : TE} {nx bk ct : L2.St → Hp → Prop} {rt : VK} (h : te σ H fun y H1 => to σ H1 (kOst K f nx σ y)) : tOst K f to te ⟨nx, rt, bk, ct⟩ σ H := h
theorem k_ost {a C : Addr} {f : Str} {y : V} {nx : L2.St → Hp → Prop} (T : OexC K C) (hno : PySem.W.findIn K (.ref C) f = some none) (ha : H a = some (exo a C none)) (h : ∀ dx, H dx = none → dx ≠ a → nx σ (upd (upd H dx (exd dx [(f, y)])) a (exo a C (some dx)))) : kOst K f nx σ y (.ref a) H := ⟨a, C, rfl, T, hno, .inl ⟨ha, h⟩⟩
end
end Bk

/-! The head's facts, with looks of our own beside. -/
namespace Bk
open PySem L2
def obsX (fa : List He.Fa) (ex : List (PySem.W.Frag → Bool)) (fn : List He.DefD) (K : PySem.W.Frag) : He.AlD := ((He.obsD fa fn K).1 && ex.all fun f => f K, (He.obsD fa fn K).2)
def SaysX (fa : List He.Fa) (ex : List (PySem.W.Frag → Bool)) (fn : List He.DefD) (K : PySem.W.Frag) : Prop := obsX fa ex fn K = He.valD fn
theorem SaysX.two {fa : List He.Fa} {ex : List (PySem.W.Frag → Bool)} {fn : List He.DefD} {K : PySem.W.Frag} (c : SaysX fa ex fn K) : He.SaysD fa fn K ∧ (ex.all fun f => f K) = true := by
  have e0 : obsX fa ex fn K = He.valD fn := c
  have e1 := congrArg Prod.fst e0
  have e2 := congrArg Prod.snd e0
  replace e1 : ((He.obsD fa fn K).1 && ex.all fun f => f K) = true := e1
  rw [Bool.and_eq_true] at e1
  exact ⟨Prod.ext e1.1 e2, e1.2⟩
theorem SaysX.fact {fa : List He.Fa} {ex : List (PySem.W.Frag → Bool)} {fn : List He.DefD} {K : PySem.W.Frag} (c : SaysX fa ex fn K) (i : Nat) {f : He.Fa} (h : fa[i]? = some f) : f.ok K = true := c.two.1.fact i h
theorem SaysX.def_ {fa : List He.Fa} {ex : List (PySem.W.Frag → Bool)} {fn : List He.DefD} {K : PySem.W.Frag} (c : SaysX fa ex fn K) (i : Nat) {d : He.DefD} (h : fn[i]? = some d) : ∃ fd, FunD K d.name d.qual d.params d.body d.scope (d.dvs K) (d.kws K) (He.fAd K d.at_) fd := c.two.1.def_ i h
theorem SaysX.extra {fa : List He.Fa} {ex : List (PySem.W.Frag → Bool)} {fn : List He.DefD} {K : PySem.W.Frag} (c : SaysX fa ex fn K) (i : Nat) {f : PySem.W.Frag → Bool} (h : ex[i]? = some f) : f K = true := List.all_eq_true.mp c.two.2 f (List.mem_of_getElem? h)
def obsXG (n : Nat) (fa : List He.Fa) (ex : List (PySem.W.Frag → Bool)) (fn : List He.DefD) (g : Addr → Option Obj) : He.AlD := obsX fa ex fn (He.frG g (He.asD g n))
def hookX (n : Nat) (fa : List He.Fa) (ex : List (PySem.W.Frag → Bool)) (fn : List He.DefD) : PySem.W.Hook where
  α := He.AlD
  obs := fun s => obsXG n fa ex fn s.heap.get?
  val := fun _ => He.valD fn
  says := fun _ h => ∃ K : PySem.W.Frag, K.In h ∧ SaysX fa ex fn K
  of := fun _ _ e => ⟨_, He.frG_in, e⟩
  keeps := fun _ _ _ hK k => by
    obtain ⟨K, h1, h2⟩ := hK
    exact ⟨K, h1.keeps k, h2⟩
theorem obsXG_eq {n : Nat} {fa : List He.Fa} {ex : List (PySem.W.Frag → Bool)} {fn : List He.DefD} {g : Addr → Option Obj} {s : Shared} (h : ∀ a, g a = s.heap.get? a) : obsXG n fa ex fn g = (hookX n fa ex fn).obs s := by
  obtain rfl : g = s.heap.get? := funext h
  rfl
end Bk

/-! min and max of a tuple or list of ints. -/
namespace Bk
open PySem L2
section
variable {X : Cx} {K : PySem.W.Frag}
theorem fold_least (z : Int) (zs : List Int) : PySem.W.minOf z zs ∈ z :: zs ∧ ∀ y ∈ z :: zs, PySem.W.minOf z zs ≤ y := by
  have key : ∀ (zs : List Int) (z : Int), (zs.foldl (fun a y => if PySem.W.DatumOrd.lt y a = true then y else a) z) ∈ z :: zs ∧ ∀ y ∈ z :: zs, (zs.foldl (fun a y => if PySem.W.DatumOrd.lt y a = true then y else a) z) ≤ y := by
    intro zs
    induction zs with
    | nil => intro z; exact ⟨by simp, fun y hy => by simp at hy; rw [hy]; exact Int.le_refl _⟩
    | cons w r ih =>
      intro z
      show _ ∧ _
      rw [List.foldl_cons]
      have e : (if PySem.W.DatumOrd.lt w z = true then w else z) = if w < z then w else z := by
        show (if decide (w < z) = true then w else z) = _
        simp only [decide_eq_true_eq]
      rw [e]
      have hc : ∀ c : Int, c = (if w < z then w else z) → c ≤ w ∧ c ≤ z ∧ (c = w ∨ c = z) := fun c hc => by
        split at hc <;> omega
      generalize (if w < z then w else z) = c at hc ⊢
      obtain ⟨c1, c2, c3⟩ := hc c rfl
      obtain ⟨h1, h2⟩ := ih c
      have h3 := h2 _ List.mem_cons_self
      refine ⟨?_, fun y hy => ?_⟩
      · rcases List.mem_cons.mp h1 with h | h
        · rw [h]
          rcases c3 with c3 | c3 <;> simp [c3]
        · exact List.mem_cons_of_mem _ (List.mem_cons_of_mem _ h)
      · rcases List.mem_cons.mp hy with h | hy
        · rw [h]; exact Int.le_trans h3 c2
        · rcases List.mem_cons.mp hy with h | hy
          · rw [h]; exact Int.le_trans h3 c1
          · exact h2 y (List.mem_cons_of_mem _ hy)
  exact key zs z
theorem fold_most (z : Int) (zs : List Int) : PySem.W.maxOf z zs ∈ z :: zs ∧ ∀ y ∈ z :: zs, y ≤ PySem.W.maxOf z zs := by
  have key : ∀ (zs : List Int) (z : Int), (zs.foldl (fun a y => if PySem.W.DatumOrd.lt a y = true then y else a) z) ∈ z :: zs ∧ ∀ y ∈ z :: zs, y ≤ (zs.foldl (fun a y => if PySem.W.DatumOrd.lt a y = true then y else a) z) := by
    intro zs
    induction zs with
    | nil => intro z; exact ⟨by simp, fun y hy => by simp at hy; rw [hy]; exact Int.le_refl _⟩
    | cons w r ih =>
      intro z
      show _ ∧ _
      rw [List.foldl_cons]
      have e : (if PySem.W.DatumOrd.lt z w = true then w else z) = if z < w then w else z := by
        show (if decide (z < w) = true then w else z) = _
        simp only [decide_eq_true_eq]
      rw [e]
      have hc : ∀ c : Int, c = (if z < w then w else z) → w ≤ c ∧ z ≤ c ∧ (c = w ∨ c = z) := fun c hc => by
        split at hc <;> omega
      generalize (if z < w then w else z) = c at hc ⊢
      obtain ⟨c1, c2, c3⟩ := hc c rfl
      obtain ⟨h1, h2⟩ := ih c
      have h3 := h2 _ List.mem_cons_self
      refine ⟨?_, fun y hy => ?_⟩
      · rcases List.mem_cons.mp h1 with h | h
        · rw [h]
          rcases c3 with c3 | c3 <;> simp [c3]
        · exact List.mem_cons_of_mem _ (List.mem_cons_of_mem _ h)
      · rcases List.mem_cons.mp hy with h | hy
        · rw [h]; exact Int.le_trans c2 h3
        · rcases List.mem_cons.mp hy with h | hy
          · rw [h]; exact Int.le_trans c1 h3
          · exact h2 y (List.mem_cons_of_mem _ hy)
  exact key zs z
theorem holds_int_is {h : Heap} {v : Value} {n : Int} (q : PySem.W.Holds h v n) : ∃ t, v = .int n t := by
  obtain ⟨as, q⟩ := q
  have q' : PySem.Reads h v (.int n) as := q
  cases q'
  exact ⟨_, rfl⟩
def qMinT (K : PySem.W.Frag) : List V → Hp → VK → Prop := fun xs H Q => ∃ (a : Addr) (zs : List Int), xs = [V.ref a] ∧ SqT K H a (zs.map V.int) ∧ zs ≠ [] ∧ ∀ m, m ∈ zs → (∀ y ∈ zs, m ≤ y) → Q (.int m) H
def qMaxT (K : PySem.W.Frag) : List V → Hp → VK → Prop := fun xs H Q => ∃ (a : Addr) (zs : List Int), xs = [V.ref a] ∧ SqT K H a (zs.map V.int) ∧ zs ≠ [] ∧ ∀ m, m ∈ zs → (∀ y ∈ zs, y ≤ m) → Q (.int m) H
theorem z_minT (eK : X.K = K) (hc : X.calm = true) (hu : X.A.units + 1 < cLine) : CallR X (.builtin "min") (qMinT K) := by
  subst eK
  intro pins s σ H xs us Q I r h
  obtain ⟨a, zs, rfl, hs, hne, q⟩ := h
  obtain ⟨its, rv, hl, _⟩ := I.tuple hs
  match us, r with
  | [u], .cons ru .nil =>
    obtain rfl : u = Value.ref a := ru
    cases zs with
    | nil => exact absurd rfl hne
    | cons z zs =>
      refine PySem.W.min_tuple_datum (α := Int) (x := z) (xs := zs) (I.ok.hd hc) (show s.heap.IsTuple a its.toArray from hl) (PySem.W.HoldAll.of_ints rv.ints) hu fun i v h' tk _ hv hk => ?_
      obtain ⟨t, rfl⟩ := holds_int_is hv
      exact ⟨.int _, H, I.kept hk, ⟨t, rfl⟩, q _ (fold_least z zs).1 (fold_least z zs).2⟩
theorem z_maxT (eK : X.K = K) (hc : X.calm = true) (hu : X.A.units + 1 < cLine) : CallR X (.builtin "max") (qMaxT K) := by
  subst eK
  intro pins s σ H xs us Q I r h
  obtain ⟨a, zs, rfl, hs, hne, q⟩ := h
  obtain ⟨its, rv, hl, _⟩ := I.tuple hs
  match us, r with
  | [u], .cons ru .nil =>
    obtain rfl : u = Value.ref a := ru
    cases zs with
    | nil => exact absurd rfl hne
    | cons z zs =>
      refine PySem.W.max_tuple_datum (α := Int) (x := z) (xs := zs) (I.ok.hd hc) (show s.heap.IsTuple a its.toArray from hl) (PySem.W.HoldAll.of_ints rv.ints) hu fun i v h' tk _ hv hk => ?_
      obtain ⟨t, rfl⟩ := holds_int_is hv
      exact ⟨.int _, H, I.kept hk, ⟨t, rfl⟩, q _ (fold_most z zs).1 (fold_most z zs).2⟩
theorem b_minT {a : Addr} {zs : List Int} {H : Hp} {Q : VK} (hs : SqT K H a (zs.map V.int)) (hne : zs ≠ []) (h : ∀ m, m ∈ zs → (∀ y ∈ zs, m ≤ y) → Q (.int m) H) : qMinT K [.ref a] H Q := ⟨a, zs, rfl, hs, hne, h⟩
theorem b_maxT {a : Addr} {zs : List Int} {H : Hp} {Q : VK} (hs : SqT K H a (zs.map V.int)) (hne : zs ≠ []) (h : ∀ m, m ∈ zs → (∀ y ∈ zs, y ≤ m) → Q (.int m) H) : qMaxT K [.ref a] H Q := ⟨a, zs, rfl, hs, hne, h⟩
end
end Bk
namespace Bk
open PySem L2
theorem z_maxL {X : Cx} {K : PySem.W.Frag} (e : X.K = K) (hc : X.calm = true) : CallR X (.builtin "max") (rMax K) := by subst e; exact cr_max hc
theorem z_minL {X : Cx} {K : PySem.W.Frag} (e : X.K = K) (hc : X.calm = true) : CallR X (.builtin "min") (rMin K) := by subst e; exact cr_min hc
end Bk

/-! max(xs, default=d). -/
namespace Bk
open PySem L2
/-- max of a list of ints, d where there are none -/
def rMaxDf (K : PySem.W.Frag) : List V → List V → Hp → VK → Prop := fun vs zs H Q => ∃ (a : Addr) (ns : List Int) (d : Int), vs = [V.ref a] ∧ zs = [.int d] ∧ SqL K H a (ns.map V.int) ∧ (ns = [] → Q (.int d) H) ∧ ∀ m, m ∈ ns → (∀ y ∈ ns, y ≤ m) → Q (.int m) H
theorem z_maxDf {X : Cx} {K : PySem.W.Frag} (e : X.K = K) (hc : X.calm = true) (hu : X.A.units + 1 < cLine) : CallRK X (.builtin "max") [Str.ofString "default"] (rMaxDf K) := by
  subst e
  intro pins s σ H vs zs us ws Q I r rz h
  obtain ⟨a, ns, d, rfl, rfl, hs, q0, q⟩ := h
  obtain ⟨its, rv, hl, _⟩ := I.list hs
  obtain rfl := Vals.ref1 r
  obtain ⟨w1, rfl, t, rfl⟩ := vals1 rz
  refine PySem.W.max_list_datum_default (α := Int) (xs := ns) (I.ok.hd hc) hl.isList (PySem.W.HoldAll.of_ints rv.ints) hu (fun e h' tk hk => ⟨.int d, H, I.kept hk, ⟨t, rfl⟩, q0 e⟩) fun y ys i v h' tk e _ hv hk => ?_
  obtain ⟨t', rfl⟩ := holds_int_is hv
  subst e
  exact ⟨.int _, H, I.kept hk, ⟨t', rfl⟩, q _ (fold_most y ys).1 (fold_most y ys).2⟩
end Bk

/-! The table LENGTHS, as the top has made it; the head's facts with it. -/
namespace Bk
open PySem L2
/-- an entry: its key, its hash, its number -/
def entB (e : DictEntry) : Option (Str × Int × Int) := match e.key, e.val with
  | .str x _, .int v _ => some (x, e.hash, v)
  | _, _ => none
def dicB (K : PySem.W.Frag) (a : Addr) : Option (List (Option (Str × Int × Int))) := match K.lookup a with
  | some ⟨.type c, none, .dict es _, sl⟩ => if c = "dict" ∧ sl.isEmpty = true ∧ (a == sysModules) = false then some (es.toList.map entB) else none
  | _ => none
def lenW (P : Params) : Option (List (Option (Str × Int × Int))) := some [some ("open", PyData.keyHash P "open", 3), some ("shut", PyData.keyHash P "shut", 2), some ("touch", PyData.keyHash P "touch", 2)]
/-- how many things a deed of a word has -/
def lenOf (z : Str) : Option Int := if z = "open" then some 3 else if z = "shut" then some 2 else if z = "touch" then some 2 else none
structure LenD (K : PySem.W.Frag) (w : World) : Prop where
  d : ∃ es n, KDict K w (He.ga K "LENGTHS") es n
  get : ∀ z v, lenOf z = some v → ∃ t, PySem.W.nsIn K (He.ga K "LENGTHS") z = some (some (.int v t))
  not : ∀ z, lenOf z = none → PySem.W.nsIn K (He.ga K "LENGTHS") z = some none
theorem entB_is {e : DictEntry} {x : Str} {h v : Int} (q : entB e = some (x, h, v)) : (∃ t, e.key = .str x t) ∧ e.hash = h ∧ ∃ t, e.val = .int v t := by
  unfold entB at q
  split at q
  · rename_i y t u s e1 e2
    simp only [Option.some.injEq, Prod.mk.injEq] at q
    obtain ⟨rfl, rfl, rfl⟩ := q
    exact ⟨⟨t, e1⟩, rfl, ⟨s, e2⟩⟩
  · cases q
theorem beq_flip (x z : Str) : (x == z) = decide (z = x) := by
  by_cases h : z = x
  · rw [h, decide_eq_true rfl, beq_self_eq_true]
  · rw [decide_eq_false h, beq_eq_false_iff_ne]
    exact fun e => h e.symm
theorem lenD_of {K : PySem.W.Frag} {w : World} (h : dicB K (He.ga K "LENGTHS") = lenW w.params) : LenD K w := by
  unfold dicB at h
  split at h
  · rename_i c es n sl ho
    split at h
    · rename_i hc
      obtain ⟨rfl, h2, h3⟩ := hc
      have e2 : sl = #[] := Array.isEmpty_iff.mp h2
      subst e2
      have q := Option.some.inj h
      obtain ⟨l⟩ := es
      match l, q with
      | [e1, e2, e3], q =>
        simp only [List.map_cons, List.map_nil, List.cons.injEq, and_true] at q
        obtain ⟨q1, q2, q3⟩ := q
        obtain ⟨⟨t1, k1⟩, a1, s1, v1⟩ := entB_is q1
        obtain ⟨⟨t2, k2⟩, a2, s2, v2⟩ := entB_is q2
        obtain ⟨⟨t3, k3⟩, a3, s3, v3⟩ := entB_is q3
        have ns : ∀ z, PySem.W.nsIn K (He.ga K "LENGTHS") z = (match [e1, e2, e3].find? (·.key.isStr z) with
          | some e => some (some e.val)
          | none => if [e1, e2, e3].any (·.refKey) then none else some none) := fun z => by
          unfold PySem.W.nsIn
          rw [ho]
          rfl
        have is1 : ∀ z : Str, e1.key.isStr z = decide (z = "open") := fun z => by rw [k1]; exact beq_flip _ _
        have is2 : ∀ z : Str, e2.key.isStr z = decide (z = "shut") := fun z => by rw [k2]; exact beq_flip _ _
        have is3 : ∀ z : Str, e3.key.isStr z = decide (z = "touch") := fun z => by rw [k3]; exact beq_flip _ _
        have nr : ([e1, e2, e3].any (·.refKey)) = false := by
          simp only [List.any_cons, List.any_nil, DictEntry.refKey, k1, k2, k3]
          rfl
        refine ⟨⟨_, _, ho, ⟨⟨_, _, k1, a1⟩, ⟨_, _, k2, a2⟩, ⟨_, _, k3, a3⟩, trivial⟩, h3⟩, fun z v hz => ?_, fun z hz => ?_⟩
        · rw [ns z]
          simp only [List.find?_cons, is1, is2, is3]
          unfold lenOf at hz
          by_cases c1 : z = "open"
          · rw [if_pos c1] at hz
            obtain rfl := Option.some.inj hz
            exact ⟨s1, by rw [decide_eq_true c1]; exact congrArg (fun y => some (some y)) v1⟩
          · rw [if_neg c1] at hz
            by_cases c2 : z = "shut"
            · rw [if_pos c2] at hz
              obtain rfl := Option.some.inj hz
              exact ⟨s2, by rw [decide_eq_false c1, decide_eq_true c2]; exact congrArg (fun y => some (some y)) v2⟩
            · rw [if_neg c2] at hz
              by_cases c3 : z = "touch"
              · rw [if_pos c3] at hz
                obtain rfl := Option.some.inj hz
                exact ⟨s3, by rw [decide_eq_false c1, decide_eq_false c2, decide_eq_true c3]; exact congrArg (fun y => some (some y)) v3⟩
              · rw [if_neg c3] at hz
                cases hz
        · rw [ns z]
          unfold lenOf at hz
          have c1 : ¬ z = "open" := fun c => by rw [if_pos c] at hz; cases hz
          rw [if_neg c1] at hz
          have c2 : ¬ z = "shut" := fun c => by rw [if_pos c] at hz; cases hz
          rw [if_neg c2] at hz
          have c3 : ¬ z = "touch" := fun c => by rw [if_pos c] at hz; cases hz
          simp only [List.find?_cons, List.find?_nil, is1, is2, is3, decide_eq_false c1, decide_eq_false c2, decide_eq_false c3, nr]
          rfl
      | [], q => simp at q
      | [_], q => simp at q
      | [_, _], q => simp at q
      | _ :: _ :: _ :: _ :: _, q => simp at q
    · cases h
  · cases h
/-! rules: z in LENGTHS, LENGTHS[z] -/
section
variable {X : Cx} {K : PySem.W.Frag} {w : World}
def qInLen (K : PySem.W.Frag) : R2 := fun x y H Q => ∃ z : Str, x = .str z ∧ y = .ref (He.ga K "LENGTHS") ∧ Q (.bl (lenOf z).isSome) H
def qNotInLen (K : PySem.W.Frag) : R2 := fun x y H Q => ∃ z : Str, x = .str z ∧ y = .ref (He.ga K "LENGTHS") ∧ Q (.bl (!(lenOf z).isSome)) H
def qIxLen (K : PySem.W.Frag) : R2 := fun x y H Q => ∃ (z : Str) (v : Int), x = .ref (He.ga K "LENGTHS") ∧ y = .str z ∧ lenOf z = some v ∧ Q (.int v) H
theorem LenD.some (L : LenD K w) (z : Str) : ∃ r, PySem.W.nsIn K (He.ga K "LENGTHS") z = some r ∧ r.isSome = (lenOf z).isSome := by
  cases e : lenOf z with
  | none => exact ⟨none, L.not z e, rfl⟩
  | some v =>
    obtain ⟨t, h⟩ := L.get z v e
    exact ⟨_, h, rfl⟩
theorem z_inLen (eK : X.K = K) (ew : X.w = w) (L : LenD K w) : OpR X (compareOp .In) (qInLen K) := by
  subst eK
  subst ew
  obtain ⟨es, n, D⟩ := L.d
  intro pins s σ H x y v u Q I rx ry h
  obtain ⟨z, rfl, rfl, q⟩ := h
  obtain ⟨r, h1, h2⟩ := L.some z
  exact op_in_kd D pins s σ H _ _ v u Q I rx ry ⟨z, r, rfl, rfl, h1, by rw [h2]; exact q⟩
theorem z_notInLen (eK : X.K = K) (ew : X.w = w) (L : LenD K w) : OpR X (compareOp .NotIn) (qNotInLen K) := by
  subst eK
  subst ew
  obtain ⟨es, n, D⟩ := L.d
  intro pins s σ H x y v u Q I rx ry h
  obtain ⟨z, rfl, rfl, q⟩ := h
  obtain ⟨r, h1, h2⟩ := L.some z
  exact op_notIn_kd D pins s σ H _ _ v u Q I rx ry ⟨z, r, rfl, rfl, h1, by rw [h2]; exact q⟩
theorem z_ixLen (eK : X.K = K) (ew : X.w = w) (L : LenD K w) : IxR X (qIxLen K) := by
  subst eK
  subst ew
  obtain ⟨es, n, D⟩ := L.d
  intro a b pins s σ H x y v u Q I rx ry h hs
  obtain ⟨z, i, rfl, rfl, hz, q⟩ := h
  obtain ⟨t, ht⟩ := L.get z i hz
  exact ix_kdict a b pins s σ H _ _ v u Q I rx ry ⟨_, z, .int i, rfl, rfl, ⟨es, n, _, D.at_, D.lit, ht, ⟨t, rfl⟩⟩, q⟩ hs
variable {H : Hp} {Q : VK}
theorem l_in {z : Str} (h : Q (.bl (lenOf z).isSome) H) : qInLen K (.str z) (.ref (He.ga K "LENGTHS")) H Q := ⟨z, rfl, rfl, h⟩
theorem l_notIn {z : Str} (h : Q (.bl (!(lenOf z).isSome)) H) : qNotInLen K (.str z) (.ref (He.ga K "LENGTHS")) H Q := ⟨z, rfl, rfl, h⟩
theorem l_ix {z : Str} {v : Int} (hz : lenOf z = some v) (h : Q (.int v) H) : qIxLen K (.ref (He.ga K "LENGTHS")) (.str z) H Q := ⟨z, v, rfl, rfl, hz, h⟩
end
end Bk

/-! The head's facts with the table LENGTHS, whose hashes are the world's, and the interpreter's own statics in reach (readsIn looks there). -/
namespace Bk
open PySem L2
def asS (g : Addr → Option Obj) (n : Nat) : List Addr := He.asD g n ++ [cStatics]
def obsYG (n : Nat) (fa : List He.Fa) (ex : List (PySem.W.Frag → Bool)) (fn : List He.DefD) (g : Addr → Option Obj) : He.AlD × Option (List (Option (Str × Int × Int))) := (obsX fa ex fn (He.frG g (asS g n)), dicB (He.frG g (asS g n)) (He.ga (He.frG g (asS g n)) "LENGTHS"))
def hookY (n : Nat) (fa : List He.Fa) (ex : List (PySem.W.Frag → Bool)) (fn : List He.DefD) : PySem.W.Hook where
  α := He.AlD × Option (List (Option (Str × Int × Int)))
  obs := fun s => obsYG n fa ex fn s.heap.get?
  val := fun w => (He.valD fn, lenW w.params)
  says := fun w h => ∃ K : PySem.W.Frag, K.In h ∧ SaysX fa ex fn K ∧ dicB K (He.ga K "LENGTHS") = lenW w.params
  of := fun _ _ e => ⟨_, He.frG_in, congrArg Prod.fst e, congrArg Prod.snd e⟩
  keeps := fun _ _ _ hK k => by
    obtain ⟨K, h1, h2⟩ := hK
    exact ⟨K, h1.keeps k, h2⟩
theorem obsYG_eq {n : Nat} {fa : List He.Fa} {ex : List (PySem.W.Frag → Bool)} {fn : List He.DefD} {g : Addr → Option Obj} {s : Shared} (h : ∀ a, g a = s.heap.get? a) : obsYG n fa ex fn g = (hookY n fa ex fn).obs s := by
  obtain rfl : g = s.heap.get? := funext h
  rfl
end Bk

/-! A draw: any number below many, whatever the script. -/
namespace Bk
open PySem L2
section
variable {K : PySem.W.Frag} {H H' : Hp} {r : Addr}
/-- the script at s: locked, or of the written part -/
def Scr (K : PySem.W.Frag) (H : Hp) (s : Addr) (ns : List Int) : Prop := (∃ o, H s = some (.frz o (.lst (ns.map V.int)))) ∨ ∀ G : Hp, SqL K G s (ns.map V.int)
theorem Scr.l {s : Addr} {ns : List Int} (h : Scr K H s ns) : SqL K H s (ns.map V.int) := by
  rcases h with ⟨o, h⟩ | h
  · exact .inl (.inr ⟨o, h⟩)
  · exact h H
/-- the row of draws at r: [the script, how many are taken, a mixed number] -/
def RowOk (K : PySem.W.Frag) (H : Hp) (r : Addr) : Prop := ∃ (s : Addr) (ns : List Int) (i m : Int), H r = some (.lst [.ref s, .int i, .int m]) ∧ Scr K H s ns ∧ 0 ≤ i ∧ 0 ≤ m ∧ m < 2147483647
theorem row_same (h : RowOk K H r) (e : Same H H') : RowOk K H' r := by
  obtain ⟨s, ns, i, m, h1, h2, h3⟩ := h
  refine ⟨s, ns, i, m, e _ _ h1, ?_, h3⟩
  rcases h2 with ⟨o, h⟩ | h
  · exact .inl ⟨o, e _ _ h⟩
  · exact .inr h
theorem row_at (h : RowOk K H r) : ∃ xs, H r = some (.lst xs) := by
  obtain ⟨s, ns, i, m, h1, _⟩ := h
  exact ⟨_, h1⟩
theorem ne_of_none' {p : Addr} (h : ∃ xs, H r = some (.lst xs)) (n : H p = none) : p ≠ r := by
  obtain ⟨xs, h⟩ := h
  exact Ne.symm (ne_of_none h n)
/-- another thing changes -/
theorem row_mut {D : Addr} {u o : HO} (h : RowOk K H r) (hD : H D = some u) (hu : ∀ ob v, u ≠ .frz ob v) (ne : D ≠ r) : RowOk K (upd H D o) r := by
  obtain ⟨s, ns, i, m, h1, h2, h3⟩ := h
  refine ⟨s, ns, i, m, by rw [upd_ne (Ne.symm ne)]; exact h1, ?_, h3⟩
  rcases h2 with ⟨ob, h⟩ | h
  · exact .inl ⟨ob, by rw [upd_ne (ne_of h hD (Ne.symm (hu _ _)))]; exact h⟩
  · exact .inr h
/-- a tuple is read on -/
theorem kp_t {p : Addr} {xs : List V} (k : Kp r H H') (h : RowOk K H r) (ht : SqT K H p xs) : SqT K H' p xs := by
  obtain ⟨ys, hy⟩ := row_at h
  refine ht.imp (fun z => ?_) id
  rcases z with z | ⟨ob, z⟩
  · exact .inl (k _ _ (ne_of z hy (by intro q; cases q)) z)
  · exact .inr ⟨ob, k _ _ (ne_of z hy (by intro q; cases q)) z⟩
theorem Kp.mut {D : Addr} {o : HO} (e : Kp r H H') (h : H D = none) : Kp r H (upd H' D o) := fun a u n ha => by rw [upd_ne (ne_of_none ha h)]; exact e a u n ha
theorem Kp.same {H2 : Hp} (a : Kp r H H') (b : Same H' H2) : Kp r H H2 := fun c o n h => b c o (a c o n h)
end
theorem upd_self {H : Hp} {r : Addr} {o : HO} (h : H r = some o) : upd H r o = H := by
  funext b
  by_cases e : b = r
  · rw [e, upd_same, h]
  · rw [upd_ne e]
theorem at_some {α : Type} {xs : List α} {i : Int} (h0 : 0 ≤ i) (h1 : i < xs.length) : ∃ v, xs[i.toNat]? = some v ∧ atI xs i = some v := by
  have h : i.toNat < xs.length := by omega
  refine ⟨xs[i.toNat], List.getElem?_eq_getElem h, ?_⟩
  have q := atI_nat (List.getElem?_eq_getElem h)
  rw [show ((i.toNat : Nat) : Int) = i by omega] at q
  exact q
theorem at_ints {ns : List Int} {i : Int} (h0 : 0 ≤ i) (h1 : i < ns.length) : ∃ z, atI (ns.map V.int) i = some (V.int z) := by
  obtain ⟨v, hv, e⟩ := at_some (xs := ns.map V.int) (i := i) h0 (by rw [List.length_map]; exact h1)
  rw [List.getElem?_map] at hv
  cases q : ns[i.toNat]? with
  | none => rw [q] at hv; cases hv
  | some z => rw [q] at hv; cases hv; exact ⟨z, e⟩
end Bk

/-! Data: what values are, whatever their addresses. -/
namespace Bk
open PySem L2
inductive D where
  | non | bl (b : Bool) | int (i : Int) | str (z : Str)
  | lst (xs : List D) | tup (xs : List D) | ins (C : Str) (fs : List (Str × D)) | dic (kvs : List (Key × D))
mutual
/-- nothing in it can be changed -/
def flat : D → Bool
  | .lst _ => false
  | .ins _ _ => false
  | .dic _ => false
  | .tup xs => flats xs
  | _ => true
def flats : List D → Bool
  | [] => true
  | x :: xs => flat x && flats xs
end
mutual
/-- as data of the library -/
def toP : D → PyData
  | .non => .none
  | .bl b => .bool b
  | .int i => .int i
  | .str z => .str z
  | .lst xs => .list (toPs xs)
  | .tup xs => .tuple (toPs xs)
  | .ins _ _ => .none
  | .dic _ => .none
def toPs : List D → List PyData
  | [] => []
  | x :: xs => toP x :: toPs xs
end
mutual
def plainD : D → Bool
  | .lst xs => plainDs xs
  | .tup xs => plainDs xs
  | .ins _ _ => false
  | .dic _ => false
  | _ => true
def plainDs : List D → Bool
  | [] => true
  | x :: xs => plainD x && plainDs xs
end
section
variable (K : PySem.W.Frag) (A : Addr → Prop) (H : Hp)
mutual
/-- v is d; what can be changed in it stands at addresses of A -/
def R : D → V → Prop
  | .non, v => v = .non
  | .bl b, v => v = .bl b
  | .int i, v => v = .int i
  | .str z, v => v = .str z
  | .lst ds, v => ∃ a vs, v = .ref a ∧ A a ∧ H a = some (.lst vs) ∧ RL ds vs
  | .tup ds, v => ∃ a vs, v = .ref a ∧ SqT K H a vs ∧ RL ds vs
  | .ins C fs, v => ∃ a dx gs, v = .ref a ∧ A a ∧ H a = some (.ins (He.ga K C) dx gs) ∧ RF fs gs
  | .dic es, v => ∃ a ws, v = .ref a ∧ A a ∧ H a = some (.dK ws) ∧ RK es ws
def RL : List D → List V → Prop
  | [], vs => vs = []
  | d :: ds, vs => ∃ v ws, vs = v :: ws ∧ R d v ∧ RL ds ws
def RF : List (Str × D) → List (Str × V) → Prop
  | [], gs => gs = []
  | (f, d) :: fs, gs => ∃ v ws, gs = (f, v) :: ws ∧ R d v ∧ RF fs ws
def RK : List (Key × D) → List (Key × V) → Prop
  | [], gs => gs = []
  | (k, d) :: fs, gs => ∃ v ws, gs = (k, v) :: ws ∧ R d v ∧ RK fs ws
end
end
section
variable {K : PySem.W.Frag} {A B : Addr → Prop} {H H' : Hp}
theorem rd_go {a : Addr} {u : HO} (h : ∀ o, H a = some o → H' a = some o) (r : Rd H a u) : Rd H' a u := by
  rcases r with r | ⟨o, r⟩
  · exact .inl (h _ r)
  · exact .inr ⟨o, h _ r⟩
mutual
theorem R.go (hA : ∀ a, A a → H a ≠ none → B a) (hH : ∀ a o, A a → H a = some o → H' a = some o) (hT : ∀ a vs, SqT K H a vs → SqT K H' a vs) : ∀ (d : D) (v : V), R K A H d v → R K B H' d v
  | .non, _, h => h
  | .bl _, _, h => h
  | .int _, _, h => h
  | .str _, _, h => h
  | .lst ds, v, h => by
    obtain ⟨a, vs, h1, h2, h3, h4⟩ := h
    exact ⟨a, vs, h1, hA _ h2 (fun c => by rw [h3] at c; cases c), hH _ _ h2 h3, RL.go hA hH hT ds vs h4⟩
  | .tup ds, v, h => by
    obtain ⟨a, vs, h1, h3, h4⟩ := h
    exact ⟨a, vs, h1, hT _ _ h3, RL.go hA hH hT ds vs h4⟩
  | .ins C fs, v, h => by
    obtain ⟨a, dx, gs, h1, h2, h3, h4⟩ := h
    exact ⟨a, dx, gs, h1, hA _ h2 (fun c => by rw [h3] at c; cases c), hH _ _ h2 h3, RF.go hA hH hT fs gs h4⟩
  | .dic es, v, h => by
    obtain ⟨a, ws, h1, h2, h3, h4⟩ := h
    exact ⟨a, ws, h1, hA _ h2 (fun c => by rw [h3] at c; cases c), hH _ _ h2 h3, RK.go hA hH hT es ws h4⟩
theorem RL.go (hA : ∀ a, A a → H a ≠ none → B a) (hH : ∀ a o, A a → H a = some o → H' a = some o) (hT : ∀ a vs, SqT K H a vs → SqT K H' a vs) : ∀ (ds : List D) (vs : List V), RL K A H ds vs → RL K B H' ds vs
  | [], _, h => h
  | d :: ds, vs, h => by
    obtain ⟨v, ws, h1, h2, h3⟩ := h
    exact ⟨v, ws, h1, R.go hA hH hT d v h2, RL.go hA hH hT ds ws h3⟩
theorem RF.go (hA : ∀ a, A a → H a ≠ none → B a) (hH : ∀ a o, A a → H a = some o → H' a = some o) (hT : ∀ a vs, SqT K H a vs → SqT K H' a vs) : ∀ (ds : List (Str × D)) (vs : List (Str × V)), RF K A H ds vs → RF K B H' ds vs
  | [], _, h => h
  | (f, d) :: ds, vs, h => by
    obtain ⟨v, ws, h1, h2, h3⟩ := h
    exact ⟨v, ws, h1, R.go hA hH hT d v h2, RF.go hA hH hT ds ws h3⟩
theorem RK.go (hA : ∀ a, A a → H a ≠ none → B a) (hH : ∀ a o, A a → H a = some o → H' a = some o) (hT : ∀ a vs, SqT K H a vs → SqT K H' a vs) : ∀ (ds : List (Key × D)) (vs : List (Key × V)), RK K A H ds vs → RK K B H' ds vs
  | [], _, h => h
  | (f, d) :: ds, vs, h => by
    obtain ⟨v, ws, h1, h2, h3⟩ := h
    exact ⟨v, ws, h1, R.go hA hH hT d v h2, RK.go hA hH hT ds ws h3⟩
end
mutual
theorem R.flat (hT : ∀ a vs, SqT K H a vs → SqT K H' a vs) : ∀ (d : D) (v : V), Bk.flat d = true → R K A H d v → R K B H' d v
  | .non, _, _, h => h
  | .bl _, _, _, h => h
  | .int _, _, _, h => h
  | .str _, _, _, h => h
  | .lst ds, v, q, h => nomatch q
  | .tup ds, v, q, h => by
    obtain ⟨a, vs, h1, h3, h4⟩ := h
    exact ⟨a, vs, h1, hT _ _ h3, RL.flat hT ds vs q h4⟩
  | .ins C fs, v, q, h => nomatch q
  | .dic es, v, q, h => nomatch q
theorem RL.flat (hT : ∀ a vs, SqT K H a vs → SqT K H' a vs) : ∀ (ds : List D) (vs : List V), flats ds = true → RL K A H ds vs → RL K B H' ds vs
  | [], _, _, h => h
  | d :: ds, vs, q, h => by
    obtain ⟨v, ws, h1, h2, h3⟩ := h
    have q' : (Bk.flat d && flats ds) = true := q
    rw [Bool.and_eq_true] at q'
    exact ⟨v, ws, h1, R.flat hT d v q'.1 h2, RL.flat hT ds ws q'.2 h3⟩
end
mutual
theorem R.dp : ∀ (d : D) (v : V), plainD d = true → R K A H d v → Dp K H v (toP d)
  | .non, _, _, h => by cases h; exact .non
  | .bl _, _, _, h => by cases h; exact .bl _
  | .int _, _, _, h => by cases h; exact .int _
  | .str _, _, _, h => by cases h; exact .str _
  | .lst ds, v, q, h => by
    obtain ⟨a, vs, rfl, h2, h3, h4⟩ := h
    exact .lst (SqL.of h3) (RL.dp ds vs q h4)
  | .tup ds, v, q, h => by
    obtain ⟨a, vs, rfl, h3, h4⟩ := h
    exact .tup h3 (RL.dp ds vs q h4)
  | .ins C fs, v, q, h => nomatch q
  | .dic es, v, q, h => nomatch q
theorem RL.dp : ∀ (ds : List D) (vs : List V), plainDs ds = true → RL K A H ds vs → DpAll K H vs (toPs ds)
  | [], _, _, h => by cases h; exact .nil
  | d :: ds, vs, q, h => by
    obtain ⟨v, ws, rfl, h2, h3⟩ := h
    have q' : (plainD d && plainDs ds) = true := q
    rw [Bool.and_eq_true] at q'
    exact .cons (R.dp d v q'.1 h2) (RL.dp ds ws q'.2 h3)
end
theorem same_go (e : Same H H') (a : Addr) (vs : List V) : SqT K H a vs → SqT K H' a vs := same_t e
theorem R.same (e : Same H H') {d : D} {v : V} (h : R K A H d v) : R K A H' d v := h.go (fun _ z _ => z) (fun a o _ z => e a o z) (fun a vs z => same_t e z)
theorem R.imp (hA : ∀ a, A a → B a) {d : D} {v : V} (h : R K A H d v) : R K B H d v := h.go (fun a z _ => hA a z) (fun _ _ _ z => z) (fun _ _ z => z)
theorem RL.imp (hA : ∀ a, A a → B a) {d : List D} {v : List V} (h : RL K A H d v) : RL K B H d v := h.go (fun a z _ => hA a z) (fun _ _ _ z => z) (fun _ _ z => z)
theorem R.fl {d : D} {v : V} (q : Bk.flat d = true) (h : R K A H d v) : R K B H d v := h.flat (fun _ _ z => z) d v q
/-! lists -/
theorem RL.iff : ∀ (ds : List D) (vs : List V), RL K A H ds vs ↔ (vs.length = ds.length ∧ ∀ (i : Nat) (d : D) (v : V), ds[i]? = some d → vs[i]? = some v → R K A H d v)
  | [], vs => by
    constructor
    · intro h
      cases h
      exact ⟨rfl, fun i d v e => by simp at e⟩
    · intro h
      exact List.length_eq_zero_iff.mp h.1
  | d :: ds, vs => by
    constructor
    · rintro ⟨v, ws, rfl, h2, h3⟩
      obtain ⟨h4, h5⟩ := (RL.iff ds ws).mp h3
      refine ⟨by simp [h4], fun i e u hi hu => ?_⟩
      cases i with
      | zero => cases hi; cases hu; exact h2
      | succ i => exact h5 i e u hi hu
    · rintro ⟨h1, h2⟩
      cases vs with
      | nil => simp at h1
      | cons v ws => exact ⟨v, ws, rfl, h2 0 d v rfl rfl, (RL.iff ds ws).mpr ⟨by simpa using h1, fun i e u hi hu => h2 (i + 1) e u hi hu⟩⟩
theorem RL.len {ds : List D} {vs : List V} (h : RL K A H ds vs) : vs.length = ds.length := ((RL.iff ds vs).mp h).1
theorem RL.at {ds : List D} {vs : List V} (h : RL K A H ds vs) {i : Nat} {d : D} (e : ds[i]? = some d) : ∃ v, vs[i]? = some v ∧ R K A H d v := by
  obtain ⟨h1, h2⟩ := (RL.iff ds vs).mp h
  have hi := (List.getElem?_eq_some_iff.mp e).1
  exact ⟨vs[i]'(by omega), List.getElem?_eq_getElem (by omega), h2 i d _ e (List.getElem?_eq_getElem (by omega))⟩
theorem RL.at' {ds : List D} {vs : List V} (h : RL K A H ds vs) {i : Nat} {v : V} (e : vs[i]? = some v) : ∃ d, ds[i]? = some d ∧ R K A H d v := by
  obtain ⟨h1, h2⟩ := (RL.iff ds vs).mp h
  have hi := (List.getElem?_eq_some_iff.mp e).1
  exact ⟨ds[i]'(by omega), List.getElem?_eq_getElem (by omega), h2 i _ v (List.getElem?_eq_getElem (by omega)) e⟩
theorem RL.app : ∀ {ds es : List D} {vs ws : List V}, RL K A H ds vs → RL K A H es ws → RL K A H (ds ++ es) (vs ++ ws)
  | [], _, _, _, h, g => by cases h; exact g
  | d :: ds, _, _, _, h, g => by
    obtain ⟨v, us, rfl, h2, h3⟩ := h
    exact ⟨v, us ++ _, rfl, h2, RL.app h3 g⟩
theorem RL.one {d : D} {v : V} (h : R K A H d v) : RL K A H [d] [v] := ⟨v, [], rfl, h, rfl⟩
theorem RL.take {ds : List D} {vs : List V} (h : RL K A H ds vs) (n : Nat) : RL K A H (ds.take n) (vs.take n) := by
  obtain ⟨h1, h2⟩ := (RL.iff ds vs).mp h
  refine (RL.iff _ _).mpr ⟨by rw [List.length_take, List.length_take, h1], fun i d v hd hv => ?_⟩
  rw [List.getElem?_take] at hd hv
  split at hd
  · rename_i c
    rw [if_pos c] at hv
    exact h2 i d v hd hv
  · cases hd
theorem RL.drop {ds : List D} {vs : List V} (h : RL K A H ds vs) (n : Nat) : RL K A H (ds.drop n) (vs.drop n) := by
  obtain ⟨h1, h2⟩ := (RL.iff ds vs).mp h
  refine (RL.iff _ _).mpr ⟨by rw [List.length_drop, List.length_drop, h1], fun i d v hd hv => ?_⟩
  rw [List.getElem?_drop] at hd hv
  exact h2 _ d v hd hv
theorem flats_at : ∀ {ds : List D} {i : Nat} {d : D}, flats ds = true → ds[i]? = some d → flat d = true
  | [], _, _, _, e => by simp at e
  | x :: xs, i, d, q, e => by
    have q' : (Bk.flat x && flats xs) = true := q
    rw [Bool.and_eq_true] at q'
    cases i with
    | zero => cases e; exact q'.1
    | succ i => exact flats_at q'.2 e
theorem flats_map {α : Type} {f : α → D} (h : ∀ a, flat (f a) = true) : ∀ xs : List α, flats (xs.map f) = true
  | [] => rfl
  | x :: xs => by
    show (flat (f x) && flats (xs.map f)) = true
    rw [h x, flats_map h xs]
    rfl
theorem plains_map {α : Type} {f : α → D} (h : ∀ a, plainD (f a) = true) : ∀ xs : List α, plainDs (xs.map f) = true
  | [] => rfl
  | x :: xs => by
    show (plainD (f x) && plainDs (xs.map f)) = true
    rw [h x, plains_map h xs]
    rfl
theorem toPs_map {α : Type} {f : α → D} : ∀ xs : List α, toPs (xs.map f) = xs.map fun a => toP (f a)
  | [] => rfl
  | x :: xs => by
    show toP (f x) :: toPs (xs.map f) = _
    rw [toPs_map xs]
    rfl
theorem RF.look : ∀ {fs : List (Str × D)} {gs : List (Str × V)} {f : Str} {d : D}, RF K A H fs gs → fs.lookup f = some d → ∃ v, gs.lookup f = some v ∧ R K A H d v
  | [], _, _, _, _, e => by simp at e
  | (g, d) :: fs, gs, f, e, h, l => by
    obtain ⟨v, ws, rfl, h2, h3⟩ := h
    rw [List.lookup_cons] at l ⊢
    cases q : f == g with
    | true => rw [q] at l; cases l; exact ⟨v, rfl, h2⟩
    | false => rw [q] at l; exact RF.look h3 l
end
end Bk

/-! Data: what an expression gives, whatever the addresses. -/
namespace Bk
open PySem L2
/-- what may have changed: the row of draws alone -/
structure Ext (K : PySem.W.Frag) (ro : Option Addr) (H H' : Hp) : Prop where
  keep : ∀ a o, ro ≠ some a → H a = some o → H' a = some o
  row : ∀ r, ro = some r → RowOk K H r → RowOk K H' r
/-- A: where strong things stand; W: where any thing stands -/
structure Gd (K : PySem.W.Frag) (ro : Option Addr) (W A : Addr → Prop) (H : Hp) : Prop where
  nw : ∀ a, H a = none → A a
  aw : ∀ a, A a → W a
  row : ∀ r, ro = some r → RowOk K H r ∧ ¬ W r
section
variable {K : PySem.W.Frag} {ro : Option Addr} {W A : Addr → Prop} {H H' H2 : Hp}
theorem Ext.refl : Ext K ro H H := ⟨fun _ _ _ h => h, fun _ _ h => h⟩
theorem Ext.trans (a : Ext K ro H H') (b : Ext K ro H' H2) : Ext K ro H H2 := ⟨fun c o n h => b.keep c o n (a.keep c o n h), fun r e h => b.row r e (a.row r e h)⟩
theorem Ext.of (e : Same H H') : Ext K ro H H' := ⟨fun a o _ h => e a o h, fun r _ h => row_same h e⟩
theorem Ext.new {p : Addr} {o : HO} (h : H p = none) : Ext K ro H (upd H p o) := Ext.of (Same.new h)
theorem Ext.kp {r : Addr} (e : Kp r H H') (h : RowOk K H' r) : Ext K (some r) H H' := ⟨fun a o n h => e a o (fun c => n (by rw [c])) h, fun q c _ => by cases c; exact h⟩
theorem Ext.same (e : Ext K none H H') : Same H H' := fun a o h => e.keep a o (fun z => nomatch z) h
theorem Ext.kpOf {r : Addr} (e : Ext K (some r) H H') : Kp r H H' := fun a o n h => e.keep a o (fun c => n (Option.some.inj c).symm) h
theorem Gd.ext (g : Gd K ro W A H) (e : Ext K ro H H') : Gd K ro W A H' := by
  refine ⟨fun a h => ?_, g.aw, fun r c => ⟨e.row r c (g.row r c).1, (g.row r c).2⟩⟩
  cases q : H a with
  | none => exact g.nw a q
  | some o =>
    by_cases c : ro = some a
    · obtain ⟨xs, z⟩ := row_at (e.row a c (g.row a c).1)
      rw [h] at z
      cases z
    · rw [e.keep a o c q] at h
      cases h
theorem Gd.sqt (g : Gd K ro W A H) (e : Ext K ro H H') (a : Addr) (vs : List V) (h : SqT K H a vs) : SqT K H' a vs := by
  refine h.imp (fun z => ?_) id
  have ne : ∀ o, H a = some o → (∀ xs, o ≠ .lst xs) → ro ≠ some a := fun o q n c => by
    obtain ⟨xs, y⟩ := row_at (g.row a c).1
    rw [q] at y
    exact n xs (Option.some.inj y)
  rcases z with z | ⟨ob, z⟩
  · exact .inl (e.keep _ _ (ne _ z (fun _ y => by cases y)) z)
  · exact .inr ⟨ob, e.keep _ _ (ne _ z (fun _ y => by cases y)) z⟩
theorem Gd.w (g : Gd K ro W A H) (e : Ext K ro H H') {d : D} {v : V} (h : R K W H d v) : R K W H' d v :=
  h.go (fun _ z _ => z) (fun a o wa ha => e.keep a o (fun c => (g.row a c).2 wa) ha) (g.sqt e)
theorem Gd.a (g : Gd K ro W A H) (e : Ext K ro H H') {d : D} {v : V} (h : R K A H d v) : R K A H' d v :=
  h.go (fun _ z _ => z) (fun a o wa ha => e.keep a o (fun c => (g.row a c).2 (g.aw _ wa)) ha) (g.sqt e)
end
/-- v is d, weakly; strongly if b -/
def sel (W A : Addr → Prop) : Bool → Addr → Prop
  | true => A
  | false => W
abbrev RB (K : PySem.W.Frag) (W A : Addr → Prop) (b : Bool) (H : Hp) (d : D) (v : V) : Prop := R K (sel W A b) H d v
section
variable {K : PySem.W.Frag} {ro : Option Addr} {W A : Addr → Prop} {H H' H2 : Hp} {b : Bool} {d : D} {v : V}
theorem Gd.sw (g : Gd K ro W A H) (b : Bool) : ∀ a, sel W A b a → W a := by
  cases b with
  | true => exact g.aw
  | false => exact fun _ z => z
theorem Gd.rb (g : Gd K ro W A H) (e : Ext K ro H H') (h : RB K W A b H d v) : RB K W A b H' d v :=
  h.go (fun _ z _ => z) (fun a o wa ha => e.keep a o (fun c => (g.row a c).2 (g.sw b _ wa)) ha) (g.sqt e)
theorem Gd.rbs (g : Gd K ro W A H) (e : Ext K ro H H') {xs : List D} {vs : List V} (h : RL K (sel W A b) H xs vs) : RL K (sel W A b) H' xs vs :=
  h.go (fun _ z _ => z) (fun a o wa ha => e.keep a o (fun c => (g.row a c).2 (g.sw b _ wa)) ha) (g.sqt e)
theorem RB.or (h : RB K W A b H d v) : RB K W A (b || flat d) H d v := by
  cases b with
  | true => exact h
  | false =>
    cases q : flat d with
    | true => exact h.fl q
    | false => exact h
theorem RL.or {xs : List D} {vs : List V} (h : RL K (sel W A b) H xs vs) : RL K (sel W A (b || flats xs)) H xs vs := by
  cases b with
  | true => exact h
  | false =>
    cases q : flats xs with
    | true => exact h.flat (fun _ _ z => z) _ _ q
    | false => exact h
theorem Gd.dn (g : Gd K ro W A H) {c : Bool} (q : c = true → b = true) (h : RB K W A b H d v) : RB K W A c H d v := by
  cases c with
  | true => rw [q rfl] at h; exact h
  | false => exact h.imp (g.sw b)
theorem Gd.dns (g : Gd K ro W A H) {c : Bool} (q : c = true → b = true) {xs : List D} {vs : List V} (h : RL K (sel W A b) H xs vs) : RL K (sel W A c) H xs vs := by
  cases c with
  | true => rw [q rfl] at h; exact h
  | false => exact h.imp (g.sw b)
theorem Gd.rw (g : Gd K ro W A H) (h : RB K W A b H d v) : R K W H d v := h.imp (g.sw b)
theorem Gd.new (g : Gd K ro W A H) {p : Addr} (np : H p = none) (b : Bool) : sel W A b p := by
  cases b with
  | true => exact g.nw _ np
  | false => exact g.aw _ (g.nw _ np)
end
/-! ### slots -/
inductive Sl where
  | un | row | sh (d : D) | fr (d : D) | ow (d : D) | dp (d : D) | st (d : D) | wk (d : D)
inductive Md where
  | sh | fr | nw | rt
def Sl.dat : Sl → Option D
  | .un => none
  | .row => none
  | .sh d => some d
  | .fr d => some d
  | .ow d => some d
  | .dp d => some d
  | .st d => some d
  | .wk d => some d
def okIn : Sl → Md → Bool
  | .st _, _ => true
  | .sh _, .sh => true
  | .fr _, .sh => true
  | .fr _, .fr => true
  | .fr _, .rt => true
  | .ow _, .rt => true
  | .dp _, .rt => true
  | _, _ => false
def slAt : List Sl → Nat → Sl
  | [], _ => .un
  | s :: _, 0 => s
  | _ :: l, n + 1 => slAt l n
def slPut : List Sl → Nat → Sl → List Sl
  | [], _, _ => []
  | _ :: l, 0, x => x :: l
  | s :: l, n + 1, x => s :: slPut l n x
section
variable (K : PySem.W.Frag) (ro : Option Addr) (W A : Addr → Prop) (m : Md) (H : Hp)
def SlA (o : Option V) (s : Sl) : Prop := (∀ d, s.dat = some d → ∃ v, o = some v ∧ R K W H d v ∧ (okIn s m = true → R K A H d v)) ∧ (s = .row → ∃ r, ro = some r ∧ o = some (.ref r))
def EnvA : List (Option V) → List Sl → Prop
  | [], [] => True
  | o :: σ, s :: ρ => SlA K ro W A m H o s ∧ EnvA σ ρ
  | _, _ => False
end
section
variable {K : PySem.W.Frag} {ro : Option Addr} {W A : Addr → Prop} {m : Md} {H H' : Hp}
theorem SlA.map {W' A' : Addr → Prop} (fw : ∀ d v, R K W H d v → R K W' H' d v) (fa : ∀ d v, R K A H d v → R K A' H' d v) {o : Option V} {s : Sl} (h : SlA K ro W A m H o s) : SlA K ro W' A' m H' o s := ⟨fun d hd => (h.1 d hd).elim fun v z => ⟨v, z.1, fw _ _ z.2.1, fun c => fa _ _ (z.2.2 c)⟩, h.2⟩
theorem EnvA.map {W' A' : Addr → Prop} (fw : ∀ d v, R K W H d v → R K W' H' d v) (fa : ∀ d v, R K A H d v → R K A' H' d v) : ∀ {σ : List (Option V)} {ρ : List Sl}, EnvA K ro W A m H σ ρ → EnvA K ro W' A' m H' σ ρ
  | [], [], _ => trivial
  | _ :: _, _ :: _, h => ⟨h.1.map fw fa, EnvA.map fw fa h.2⟩
  | [], _ :: _, h => h.elim
  | _ :: _, [], h => h.elim
theorem SlA.ext (g : Gd K ro W A H) (e : Ext K ro H H') {o : Option V} {s : Sl} (h : SlA K ro W A m H o s) : SlA K ro W A m H' o s := ⟨fun d hd => (h.1 d hd).elim fun v z => ⟨v, z.1, g.w e z.2.1, fun c => g.a e (z.2.2 c)⟩, h.2⟩
theorem EnvA.ext (g : Gd K ro W A H) (e : Ext K ro H H') : ∀ {σ : List (Option V)} {ρ : List Sl}, EnvA K ro W A m H σ ρ → EnvA K ro W A m H' σ ρ
  | [], [], _ => trivial
  | _ :: _, _ :: _, h => ⟨h.1.ext g e, EnvA.ext g e h.2⟩
  | [], _ :: _, h => h.elim
  | _ :: _, [], h => h.elim
theorem SlA.un {o : Option V} : SlA K ro W A m H o .un := ⟨fun _ h => (nomatch h), fun h => (nomatch h)⟩
theorem EnvA.at : ∀ {σ : List (Option V)} {ρ : List Sl} {i : Nat}, EnvA K ro W A m H σ ρ → slAt ρ i ≠ .un → ∃ o, σ[i]? = some o ∧ SlA K ro W A m H o (slAt ρ i)
  | [], [], _, _, h => absurd rfl h
  | o :: _, s :: _, 0, h, _ => ⟨o, rfl, h.1⟩
  | _ :: _, _ :: _, i + 1, h, n => EnvA.at (i := i) h.2 n
  | [], _ :: _, _, h, _ => h.elim
  | _ :: _, [], _, h, _ => h.elim
theorem EnvA.put {o : Option V} {s : Sl} (hs : SlA K ro W A m H o s) : ∀ {σ : List (Option V)} {ρ : List Sl} {i : Nat}, EnvA K ro W A m H σ ρ → EnvA K ro W A m H (σ.set i o) (slPut ρ i s)
  | [], [], _, _ => trivial
  | _ :: _, _ :: _, 0, h => ⟨hs, h.2⟩
  | _ :: _, _ :: _, i + 1, h => ⟨h.1, EnvA.put (i := i) hs h.2⟩
  | [], _ :: _, _, h => h.elim
  | _ :: _, [], _, h => h.elim
end
/-! ### judgements -/
inductive Err where
  | plain (C : Str)
  | num (C f : Str) (n : Int)
def ErrAt (K : PySem.W.Frag) (H : Hp) : Err → Value → Option Addr → Prop
  | .plain C, cls, od => cls = .ref (He.ga K C) ∧ od = none
  | .num C f n, cls, od => cls = .ref (He.ga K C) ∧ ∃ d, od = some d ∧ H d = some (.xd [(f, .int n)])
abbrev DE := List Sl → Md → (Err → Prop) → (D → Bool → Prop) → Prop
abbrev DT := List Sl → Md → (Err → Prop) → (Bool → Prop) → Prop
abbrev DA := List Sl → Md → (Err → Prop) → (List (D × Bool) → Prop) → Prop
def RLB (K : PySem.W.Frag) (W A : Addr → Prop) (H : Hp) : List (D × Bool) → List V → Prop
  | [], vs => vs = []
  | x :: xs, vs => ∃ v ws, vs = v :: ws ∧ RB K W A x.2 H x.1 v ∧ RLB K W A H xs ws
/-- what is raised leaves so -/
def XOk (K : PySem.W.Frag) (ro : Option Addr) (er : Err → Prop) (H : Hp) (XE : XK) : Prop := ∀ e cls od H', er e → Ext K ro H H' → ErrAt K H' e cls od → XE cls od H'
theorem XOk.ext {K : PySem.W.Frag} {ro : Option Addr} {er : Err → Prop} {H H' : Hp} {XE : XK} (x : XOk K ro er H XE) (e : Ext K ro H H') : XOk K ro er H' XE := fun c cls od H2 h e2 => x c cls od H2 h (e.trans e2)
class OkE (K : PySem.W.Frag) (XE : XK) (te : TE) (de : outParam DE) : Prop where
  ok : ∀ {ro W A m er σ ρ H P} {Q : VK}, Gd K ro W A H → EnvA K ro W A m H σ ρ → XOk K ro er H XE → de ρ m er P → (∀ d b v H', P d b → Ext K ro H H' → RB K W A b H' d v → Q v H') → te σ H Q
class OkT (K : PySem.W.Frag) (XE : XK) (tt : TT) (dt : outParam DT) : Prop where
  ok : ∀ {ro W A m er σ ρ H P} {Q : Bool → Hp → Prop}, Gd K ro W A H → EnvA K ro W A m H σ ρ → XOk K ro er H XE → dt ρ m er P → (∀ c H', P c → Ext K ro H H' → Q c H') → tt σ H Q
class OkA (K : PySem.W.Frag) (XE : XK) (ta : TA) (da : outParam DA) : Prop where
  ok : ∀ {ro W A m er σ ρ H P} {Q : List V → Hp → Prop}, Gd K ro W A H → EnvA K ro W A m H σ ρ → XOk K ro er H XE → da ρ m er P → (∀ ds vs H', P ds → Ext K ro H H' → RLB K W A H' ds vs → Q vs H') → ta σ H Q
section
variable {K : PySem.W.Frag} {XE : XK} {ta tb tc te : TE} {da db dc de : DE} {tt tu : TT} {dt du : DT} {tr : TA} {dr : DA}
/-! names, constants -/
def dVar (i : Nat) : DE := fun ρ m _ P => ∃ d, (slAt ρ i).dat = some d ∧ P d (okIn (slAt ρ i) m || flat d)
instance {i : Nat} : OkE K XE (tVar i) (dVar i) where
  ok {ro W A m er σ ρ H P Q} g env _ h fin := by
    obtain ⟨d, hd, hP⟩ := h
    obtain ⟨o, ho, hs, _⟩ := env.at (i := i) (fun c => by rw [c] at hd; cases hd)
    obtain ⟨v, rfl, h1, h2⟩ := hs d hd
    refine ⟨v, ho, fin _ _ _ _ hP Ext.refl (RB.or ?_)⟩
    cases q : okIn (slAt ρ i) m with
    | true => exact h2 q
    | false => exact h1
def dC (d : D) : DE := fun _ _ _ P => P d true
instance {i : Int} : OkE K XE (tC (.int i)) (dC (.int i)) := ⟨fun g env _ h fin => fin _ _ _ _ h Ext.refl rfl⟩
instance {i : Bool} : OkE K XE (tC (.bl i)) (dC (.bl i)) := ⟨fun g env _ h fin => fin _ _ _ _ h Ext.refl rfl⟩
instance {i : Str} : OkE K XE (tC (.str i)) (dC (.str i)) := ⟨fun g env _ h fin => fin _ _ _ _ h Ext.refl rfl⟩
instance : OkE K XE (tC .non) (dC .non) := ⟨fun g env _ h fin => fin _ _ _ _ h Ext.refl rfl⟩
/-! operators of two -/
/-- an operator by data: f tells what it asks and gives -/
class OpD (K : PySem.W.Frag) (r : R2) (f : outParam (D → D → Bool → Bool → (D → Bool → Prop) → Prop)) : Prop where
  ok : ∀ {ro W A H x y bx b u v P} {Q : VK}, Gd K ro W A H → RB K W A bx H x u → RB K W A b H y v → f x y bx b P → (∀ d c w H', P d c → Ext K ro H H' → RB K W A c H' d w → Q w H') → r u v H Q
def dOp (f : D → D → Bool → Bool → (D → Bool → Prop) → Prop) (da db : DE) : DE := fun ρ m er P => da ρ m er fun x bx => db ρ m er fun y b => f x y bx b P
instance {r : R2} {f : D → D → Bool → Bool → (D → Bool → Prop) → Prop} [ho : OpD K r f] [ha : OkE K XE ta da] [hb : OkE K XE tb db] : OkE K XE (tOp r ta tb) (dOp f da db) := ⟨fun g env xo h fin =>
  ha.ok g env xo h fun x bx u H1 h1 e1 r1 => hb.ok (g.ext e1) (env.ext g e1) (xo.ext e1) h1 fun y b v H2 h2 e2 r2 =>
    ho.ok ((g.ext e1).ext e2) ((g.ext e1).rb e2 r1) r2 h2 fun d c w H3 h3 e3 r3 => fin _ _ _ _ h3 ((e1.trans e2).trans e3) r3⟩
def fI (f : Int → Int → D) : D → D → Bool → Bool → (D → Bool → Prop) → Prop := fun x y _ _ P => ∃ i j, x = .int i ∧ y = .int j ∧ P (f i j) true
def fIC (C : Int → Int → Prop) (f : Int → Int → D) : D → D → Bool → Bool → (D → Bool → Prop) → Prop := fun x y _ _ P => ∃ i j, x = .int i ∧ y = .int j ∧ C i j ∧ P (f i j) true
instance {f : Int → Int → Int} : OpD K (rI0 fun i j => .int (f i j)) (fI fun i j => .int (f i j)) := ⟨fun g r1 r2 h fin => by
  obtain ⟨i, j, rfl, rfl, hP⟩ := h
  obtain rfl := r1
  obtain rfl := r2
  exact ⟨i, j, rfl, rfl, fin _ _ _ _ hP Ext.refl rfl⟩⟩
instance {f : Int → Int → Bool} : OpD K (rI0 fun i j => .bl (f i j)) (fI fun i j => .bl (f i j)) := ⟨fun g r1 r2 h fin => by
  obtain ⟨i, j, rfl, rfl, hP⟩ := h
  obtain rfl := r1
  obtain rfl := r2
  exact ⟨i, j, rfl, rfl, fin _ _ _ _ hP Ext.refl rfl⟩⟩
instance {C : Int → Int → Prop} {f : Int → Int → Int} : OpD K (rI C fun i j => .int (f i j)) (fIC C fun i j => .int (f i j)) := ⟨fun g r1 r2 h fin => by
  obtain ⟨i, j, rfl, rfl, hc, hP⟩ := h
  obtain rfl := r1
  obtain rfl := r2
  exact ⟨i, j, rfl, rfl, hc, fin _ _ _ _ hP Ext.refl rfl⟩⟩
/-- = of two that are compared by the eye -/
def eqS : D → D → Option Bool
  | .int i, .int j => some (decide (i = j))
  | .str i, .str j => some (decide (i = j))
  | .bl i, .bl j => some (i == j)
  | .non, .non => some true
  | .non, .int _ => some false
  | .int _, .non => some false
  | .non, .str _ => some false
  | .str _, .non => some false
  | .int _, .str _ => some false
  | .str _, .int _ => some false
  | _, _ => none
def fEq : D → D → Bool → Bool → (D → Bool → Prop) → Prop := fun x y _ _ P => ∃ c, eqS x y = some c ∧ P (.bl c) true
def fNe : D → D → Bool → Bool → (D → Bool → Prop) → Prop := fun x y _ _ P => ∃ c, eqS x y = some c ∧ P (.bl (!c)) true
theorem eqS_ok {H : Hp} {x y : D} {u v : V} {c : Bool} (h : eqS x y = some c) (r1 : R K W H x u) (r2 : R K W H y v) : scal u v = true ∧ decide (u = v) = c := by
  cases x <;> cases y <;> first | cases h | skip
  all_goals (obtain rfl := r1; obtain rfl := r2; refine ⟨rfl, ?_⟩)
  all_goals first | rfl | simp
  all_goals (rename_i a b; cases a <;> cases b <;> rfl)
instance : OpD K rEq fEq := ⟨fun g r1 r2 h fin => by
  obtain ⟨c, hc, hP⟩ := h
  obtain ⟨h1, h2⟩ := eqS_ok hc (g.rw r1) (g.rw r2)
  exact ⟨h1, by rw [h2]; exact fin _ _ _ _ hP Ext.refl rfl⟩⟩
instance : OpD K rNe fNe := ⟨fun g r1 r2 h fin => by
  obtain ⟨c, hc, hP⟩ := h
  obtain ⟨h1, h2⟩ := eqS_ok hc (g.rw r1) (g.rw r2)
  exact ⟨h1, by rw [h2]; exact fin _ _ _ _ hP Ext.refl rfl⟩⟩
/-- is None -/
def isN : D → Bool
  | .non => true
  | _ => false
def fIs : D → D → Bool → Bool → (D → Bool → Prop) → Prop := fun x y _ _ P => y = .non ∧ P (.bl (isN x)) true
def fNotIs : D → D → Bool → Bool → (D → Bool → Prop) → Prop := fun x y _ _ P => y = .non ∧ P (.bl (!isN x)) true
theorem isN_ok {W : Addr → Prop} {H : Hp} {x : D} {u : V} (r : R K W H x u) : decide (u = .non) = isN x := by
  cases x with
  | non => obtain rfl := r; rfl
  | bl _ => obtain rfl := r; rfl
  | int _ => obtain rfl := r; rfl
  | str _ => obtain rfl := r; rfl
  | lst _ => obtain ⟨a, vs, rfl, _⟩ := r; rfl
  | tup _ => obtain ⟨a, vs, rfl, _⟩ := r; rfl
  | ins _ _ => obtain ⟨a, dx, vs, rfl, _⟩ := r; rfl
  | dic _ => obtain ⟨a, vs, rfl, _⟩ := r; rfl
instance : OpD K qIsN fIs := ⟨fun g r1 r2 h fin => by
  obtain ⟨rfl, hP⟩ := h
  obtain rfl := r2
  exact ⟨rfl, by rw [isN_ok r1]; exact fin _ _ _ _ hP Ext.refl rfl⟩⟩
instance : OpD K qNotN fNotIs := ⟨fun g r1 r2 h fin => by
  obtain ⟨rfl, hP⟩ := h
  obtain rfl := r2
  exact ⟨rfl, by rw [isN_ok r1]; exact fin _ _ _ _ hP Ext.refl rfl⟩⟩
/-- == of data -/
def shp (d : D) : Bool := plainD d && SeqAt.shaped (toP d)
def fEqD : D → D → Bool → Bool → (D → Bool → Prop) → Prop := fun x y _ _ P => shp x = true ∧ shp y = true ∧ P (.bl (PyData.eqv (toP x) (toP y))) true
def fNeD : D → D → Bool → Bool → (D → Bool → Prop) → Prop := fun x y _ _ P => shp x = true ∧ shp y = true ∧ P (.bl (!PyData.eqv (toP x) (toP y))) true
theorem shp_ok {d : D} (h : shp d = true) : plainD d = true ∧ SeqAt.shaped (toP d) = true := by
  unfold shp at h
  rw [Bool.and_eq_true] at h
  exact h
instance : OpD K (rEqD K) fEqD := ⟨fun g r1 r2 h fin => by
  obtain ⟨h1, h2, hP⟩ := h
  exact ⟨_, _, R.dp _ _ (shp_ok h1).1 r1, R.dp _ _ (shp_ok h2).1 r2, (shp_ok h1).2, (shp_ok h2).2, fin _ _ _ _ hP Ext.refl rfl⟩⟩
instance : OpD K (rNeD K) fNeD := ⟨fun g r1 r2 h fin => by
  obtain ⟨h1, h2, hP⟩ := h
  exact ⟨_, _, R.dp _ _ (shp_ok h1).1 r1, R.dp _ _ (shp_ok h2).1 r2, (shp_ok h1).2, (shp_ok h2).2, fin _ _ _ _ hP Ext.refl rfl⟩⟩
/-- x in l, by data -/
def fInD : D → D → Bool → Bool → (D → Bool → Prop) → Prop := fun x y _ _ P => ∃ ys, y = .lst ys ∧ shp x = true ∧ shp y = true ∧ P (.bl ((toPs ys).any fun z => PyData.eqv z (toP x))) true
def fNotInD : D → D → Bool → Bool → (D → Bool → Prop) → Prop := fun x y _ _ P => ∃ ys, y = .lst ys ∧ shp x = true ∧ shp y = true ∧ P (.bl (!(toPs ys).any fun z => PyData.eqv z (toP x))) true
instance : OpD K (rInD K) fInD := ⟨fun g r1 r2 h fin => by
  obtain ⟨ys, rfl, h1, h2, hP⟩ := h
  exact ⟨toP _, toPs ys, R.dp _ _ (shp_ok h1).1 r1, R.dp (.lst ys) _ (shp_ok h2).1 r2, (shp_ok h1).2, (shp_ok h2).2, fin _ _ _ _ hP Ext.refl rfl⟩⟩
instance : OpD K (rNotInD K) fNotInD := ⟨fun g r1 r2 h fin => by
  obtain ⟨ys, rfl, h1, h2, hP⟩ := h
  exact ⟨toP _, toPs ys, R.dp _ _ (shp_ok h1).1 r1, R.dp (.lst ys) _ (shp_ok h2).1 r2, (shp_ok h1).2, (shp_ok h2).2, fin _ _ _ _ hP Ext.refl rfl⟩⟩
/-- + of lists -/
def fCat : D → D → Bool → Bool → (D → Bool → Prop) → Prop := fun x y bx b P => ∃ xs ys, x = .lst xs ∧ y = .lst ys ∧ xs.length + ys.length ≤ 100000 ∧ P (.lst (xs ++ ys)) ((bx || flats xs) && (b || flats ys))
theorem lst_items {A : Addr → Prop} {H : Hp} {xs : List D} {v : V} (h : R K A H (.lst xs) v) : ∃ a vs, v = .ref a ∧ H a = some (.lst vs) ∧ RL K A H xs vs := by
  obtain ⟨a, vs, rfl, _, h3, h4⟩ := h
  exact ⟨a, vs, rfl, h3, h4⟩
theorem tup_items {A : Addr → Prop} {H : Hp} {xs : List D} {v : V} (h : R K A H (.tup xs) v) : ∃ a vs, v = .ref a ∧ SqT K H a vs ∧ RL K A H xs vs := h
theorem new_lst {ro : Option Addr} {W A : Addr → Prop} {H : Hp} {b : Bool} {xs : List D} {vs : List V} {p : Addr} (g : Gd K ro W A H) (np : H p = none) (h : RL K (sel W A b) H xs vs) : RB K W A b (upd H p (.lst vs)) (.lst xs) (.ref p) :=
  ⟨p, vs, rfl, g.new np b, upd_same, g.rbs (Ext.new np) h⟩
theorem new_tup {ro : Option Addr} {W A : Addr → Prop} {H : Hp} {b : Bool} {xs : List D} {vs : List V} {p : Addr} (g : Gd K ro W A H) (np : H p = none) (h : RL K (sel W A b) H xs vs) : RB K W A b (upd H p (.tup vs)) (.tup xs) (.ref p) :=
  ⟨p, vs, rfl, SqT.of upd_same, g.rbs (Ext.new np) h⟩
theorem and1 {a b : Bool} (h : (a && b) = true) : a = true := by cases a with | true => rfl | false => cases h
theorem and2 {a b : Bool} (h : (a && b) = true) : b = true := by cases a with | true => exact h | false => cases h
instance : OpD K rCat fCat := ⟨fun g r1 r2 h fin => by
  obtain ⟨xs, ys, rfl, rfl, hl, hP⟩ := h
  obtain ⟨a, vs, rfl, ha, w1⟩ := lst_items r1
  obtain ⟨b, ws, rfl, hb, w2⟩ := lst_items r2
  exact r_cat ha hb (sz_of (by rw [w1.len, w2.len]; exact hl)) fun p np => fin _ _ _ _ hP (Ext.new np) (new_lst g np ((g.dns and1 w1.or).app (g.dns and2 w2.or)))⟩
/-- + of tuples -/
def fCatT : D → D → Bool → Bool → (D → Bool → Prop) → Prop := fun x y bx b P => ∃ xs ys, x = .tup xs ∧ y = .tup ys ∧ xs.length + ys.length ≤ 100000 ∧ P (.tup (xs ++ ys)) ((bx || flats xs) && (b || flats ys))
instance : OpD K (rCatA K) fCatT := ⟨fun {ro W A H x y bx by' u v P Q} g r1 r2 h fin => by
  obtain ⟨xs, ys, rfl, rfl, hl, hP⟩ := h
  obtain ⟨a, vs, rfl, ha, w1⟩ := tup_items r1
  obtain ⟨b, ws, rfl, hb, w2⟩ := tup_items r2
  have h1 := g.dns (fun c => and1 (b := by' || flats ys) c) w1.or
  have h2 := g.dns (fun c => and2 (a := bx || flats xs) c) w2.or
  refine r_catA ha hb (sz_of (by rw [w1.len, w2.len]; exact hl)) (fun e => ?_) (fun _ e => ?_) fun _ _ p np => fin _ _ _ _ hP (Ext.new np) (new_tup g np (h1.app h2))
  · subst e
    refine fin _ _ _ _ hP Ext.refl ?_
    exact ⟨_, ws, rfl, hb, by have := h1.app h2; rwa [List.nil_append] at this⟩
  · subst e
    refine fin _ _ _ _ hP Ext.refl ?_
    exact ⟨_, vs, rfl, ha, by have := h1.app h2; rwa [List.append_nil] at this⟩⟩
/-- + of texts -/
def fCatS : D → D → Bool → Bool → (D → Bool → Prop) → Prop := fun x y _ _ P => ∃ a b, x = .str a ∧ y = .str b ∧ a.length + b.length ≤ 100000 ∧ P (.str (a ++ b)) true
instance : OpD K qAddS fCatS := ⟨fun g r1 r2 h fin => by
  obtain ⟨a, b, rfl, rfl, hl, hP⟩ := h
  obtain rfl := r1
  obtain rfl := r2
  exact r_addS (sz_of hl) (fin _ _ _ _ hP Ext.refl rfl)⟩
/-! items -/
def fIxL : D → D → Bool → Bool → (D → Bool → Prop) → Prop := fun x y bx _ P => ∃ xs i d, x = .lst xs ∧ y = .int i ∧ atI xs i = some d ∧ P d (bx || flat d)
def fIxT : D → D → Bool → Bool → (D → Bool → Prop) → Prop := fun x y bx _ P => ∃ xs i d, x = .tup xs ∧ y = .int i ∧ atI xs i = some d ∧ P d (bx || flat d)
theorem RL.atI {A : Addr → Prop} {H : Hp} {ds : List D} {vs : List V} {i : Int} {d : D} (h : RL K A H ds vs) (e : L2.atI ds i = some d) : ∃ v, L2.atI vs i = some v ∧ R K A H d v := by
  unfold L2.atI at e ⊢
  rw [h.len]
  cases q : ixN ds.length i with
  | none => rw [q] at e; cases e
  | some j => rw [q] at e; exact h.at e
theorem RL.atI' {A : Addr → Prop} {H : Hp} {ds : List D} {vs : List V} {i : Int} {v : V} (h : RL K A H ds vs) (e : L2.atI vs i = some v) : ∃ d, L2.atI ds i = some d ∧ R K A H d v := by
  unfold L2.atI at e ⊢
  rw [h.len] at e
  cases q : ixN ds.length i with
  | none => rw [q] at e; cases e
  | some j => rw [q] at e; exact h.at' e
theorem RL.atI2 {A : Addr → Prop} {H : Hp} {ds : List D} {vs : List V} {i : Int} {d : D} {v : V} (h : RL K A H ds vs) (e : L2.atI ds i = some d) (f : L2.atI vs i = some v) : R K A H d v := by
  obtain ⟨u, h1, h2⟩ := h.atI e
  rw [f] at h1
  cases h1
  exact h2
instance : OpD K (rIxL K) fIxL := ⟨fun g r1 r2 h fin => by
  obtain ⟨xs, i, d, rfl, rfl, hi, hP⟩ := h
  obtain ⟨a, vs, rfl, ha, w1⟩ := lst_items r1
  obtain rfl := r2
  obtain ⟨v, hv, rv⟩ := w1.atI hi
  exact r_ixL (SqL.of ha) hv (fin _ _ _ _ hP Ext.refl (RB.or rv))⟩
instance : OpD K (rIxT K) fIxT := ⟨fun g r1 r2 h fin => by
  obtain ⟨xs, i, d, rfl, rfl, hi, hP⟩ := h
  obtain ⟨a, vs, rfl, ha, w1⟩ := tup_items r1
  obtain rfl := r2
  obtain ⟨v, hv, rv⟩ := w1.atI hi
  exact r_ixT ha hv (fin _ _ _ _ hP Ext.refl (RB.or rv))⟩
def fIxQ : D → D → Bool → Bool → (D → Bool → Prop) → Prop := fun x y bx _ P => ∃ xs i d, (x = .lst xs ∨ x = .tup xs) ∧ y = .int i ∧ atI xs i = some d ∧ P d (bx || flat d)
instance : OpD K (rIx K) fIxQ := ⟨fun g r1 r2 h fin => by
  obtain ⟨xs, i, d, rfl | rfl, rfl, hi, hP⟩ := h
  · obtain ⟨a, vs, rfl, ha, w1⟩ := lst_items r1
    obtain rfl := r2
    obtain ⟨v, hv, rv⟩ := w1.atI hi
    exact r_ixQL (SqL.of ha) hv (fin _ _ _ _ hP Ext.refl (RB.or rv))
  · obtain ⟨a, vs, rfl, ha, w1⟩ := tup_items r1
    obtain rfl := r2
    obtain ⟨v, hv, rv⟩ := w1.atI hi
    exact r_ixQT ha hv (fin _ _ _ _ hP Ext.refl (RB.or rv))⟩
end
end Bk

/-! Data: tests, arguments, displays, calls, slices. -/
namespace Bk
open PySem L2
section
variable {K : PySem.W.Frag} {XE : XK} {ta tb tc te : TE} {da db dc de : DE} {tt tu : TT} {dt du : DT} {tr : TA} {dr : DA}
/-! tests -/
def dTest (de : DE) : DT := fun ρ m er P => de ρ m er fun d _ => ∃ c, d = .bl c ∧ P c
instance [h : OkE K XE te de] : OkT K XE (tTest te) (dTest de) := ⟨fun g env xo hd fin => h.ok g env xo hd fun d b v H' hP e r => by
  obtain ⟨c, rfl, hP⟩ := hP
  obtain rfl := r
  exact ⟨c, rfl, fin _ _ hP e⟩⟩
instance [h : OkE K XE te de] : OkT K XE (tB te) (dTest de) := ⟨fun g env xo hd fin => h.ok g env xo hd fun d b v H' hP e r => by
  obtain ⟨c, rfl, hP⟩ := hP
  obtain rfl := r
  exact ⟨c, rfl, fin _ _ hP e⟩⟩
def dNot (dt : DT) : DT := fun ρ m er P => dt ρ m er fun c => P (!c)
instance [h : OkT K XE tt dt] : OkT K XE (tNot tt) (dNot dt) := ⟨fun g env xo hd fin => h.ok g env xo hd fun c H' hP e => fin _ _ hP e⟩
def dAnd (dt du : DT) : DT := fun ρ m er P => dt ρ m er fun c => if c = true then du ρ m er P else P false
def dOr (dt du : DT) : DT := fun ρ m er P => dt ρ m er fun c => if c = true then P true else du ρ m er P
instance [h : OkT K XE tt dt] [k : OkT K XE tu du] : OkT K XE (tAnd tt tu) (dAnd dt du) := ⟨fun g env xo hd fin => h.ok g env xo hd fun c H' hP e => by
  cases c with
  | true => exact k.ok (g.ext e) (env.ext g e) (xo.ext e) (by rwa [if_pos rfl] at hP) fun c H2 h2 e2 => fin _ _ h2 (e.trans e2)
  | false => rw [if_neg Bool.false_ne_true]; exact fin _ _ (by rwa [if_neg Bool.false_ne_true] at hP) e⟩
instance [h : OkT K XE tt dt] [k : OkT K XE tu du] : OkT K XE (tOr tt tu) (dOr dt du) := ⟨fun g env xo hd fin => h.ok g env xo hd fun c H' hP e => by
  cases c with
  | false => rw [if_neg Bool.false_ne_true]; exact k.ok (g.ext e) (env.ext g e) (xo.ext e) (by rwa [if_neg Bool.false_ne_true] at hP) fun c H2 h2 e2 => fin _ _ h2 (e.trans e2)
  | true => exact fin _ _ (by rwa [if_pos rfl] at hP) e⟩
def dYes : DT := fun _ _ _ P => P true
instance : OkT K XE tYes dYes := ⟨fun g env xo hd fin => fin _ _ hd Ext.refl⟩
def dAndV (da db : DE) : DE := fun ρ m er P => da ρ m er fun d _ => ∃ c, d = .bl c ∧ if c = true then db ρ m er P else P (.bl false) true
def dOrV (da db : DE) : DE := fun ρ m er P => da ρ m er fun d _ => ∃ c, d = .bl c ∧ if c = true then P (.bl true) true else db ρ m er P
def dNotV (da : DE) : DE := fun ρ m er P => da ρ m er fun d _ => ∃ c, d = .bl c ∧ P (.bl (!c)) true
instance [h : OkE K XE ta da] [k : OkE K XE tb db] : OkE K XE (tAndV ta tb) (dAndV da db) := ⟨fun g env xo hd fin => h.ok g env xo hd fun d b v H' hP e r => by
  obtain ⟨c, rfl, hP⟩ := hP
  obtain rfl := r
  refine ⟨c, rfl, ?_⟩
  cases c with
  | true => exact k.ok (g.ext e) (env.ext g e) (xo.ext e) (by rwa [if_pos rfl] at hP) fun d b v H2 h2 e2 r2 => fin _ _ _ _ h2 (e.trans e2) r2
  | false => rw [if_neg Bool.false_ne_true]; exact fin (.bl false) true _ _ (by rwa [if_neg Bool.false_ne_true] at hP) e rfl⟩
instance [h : OkE K XE ta da] [k : OkE K XE tb db] : OkE K XE (tOrV ta tb) (dOrV da db) := ⟨fun g env xo hd fin => h.ok g env xo hd fun d b v H' hP e r => by
  obtain ⟨c, rfl, hP⟩ := hP
  obtain rfl := r
  refine ⟨c, rfl, ?_⟩
  cases c with
  | false => rw [if_neg Bool.false_ne_true]; exact k.ok (g.ext e) (env.ext g e) (xo.ext e) (by rwa [if_neg Bool.false_ne_true] at hP) fun d b v H2 h2 e2 r2 => fin _ _ _ _ h2 (e.trans e2) r2
  | true => exact fin (.bl true) true _ _ (by rwa [if_pos rfl] at hP) e rfl⟩
instance [h : OkE K XE ta da] : OkE K XE (tNotV ta) (dNotV da) := ⟨fun g env xo hd fin => h.ok g env xo hd fun d b v H' hP e r => by
  obtain ⟨c, rfl, hP⟩ := hP
  obtain rfl := r
  exact ⟨c, rfl, fin _ _ _ _ hP e rfl⟩⟩
def dIf (dt : DT) (da db : DE) : DE := fun ρ m er P => dt ρ m er fun c => if c = true then da ρ m er P else db ρ m er P
instance [h : OkT K XE tt dt] [k : OkE K XE ta da] [l : OkE K XE tb db] : OkE K XE (tIf tt ta tb) (dIf dt da db) := ⟨fun g env xo hd fin => h.ok g env xo hd fun c H' hP e => by
  cases c with
  | true => exact k.ok (g.ext e) (env.ext g e) (xo.ext e) (by rwa [if_pos rfl] at hP) fun d b v H2 h2 e2 r2 => fin _ _ _ _ h2 (e.trans e2) r2
  | false => rw [if_neg Bool.false_ne_true]; exact l.ok (g.ext e) (env.ext g e) (xo.ext e) (by rwa [if_neg Bool.false_ne_true] at hP) fun d b v H2 h2 e2 r2 => fin _ _ _ _ h2 (e.trans e2) r2⟩
def dChain (f f' : D → D → Bool → Bool → (D → Bool → Prop) → Prop) (da db dc : DE) : DE := fun ρ m er P => da ρ m er fun x bx => db ρ m er fun y b => f x y bx b fun z _ => ∃ c, z = .bl c ∧ if c = true then dc ρ m er fun w bw => f' y w b bw P else P (.bl false) true
instance {r r' : R2} {f f' : D → D → Bool → Bool → (D → Bool → Prop) → Prop} [ho : OpD K r f] [ho' : OpD K r' f'] [ha : OkE K XE ta da] [hb : OkE K XE tb db] [hc : OkE K XE tc dc] : OkE K XE (tChain r r' ta tb tc) (dChain f f' da db dc) := ⟨fun g env xo h fin =>
  ha.ok g env xo h fun x bx u H1 h1 e1 r1 => hb.ok (g.ext e1) (env.ext g e1) (xo.ext e1) h1 fun y b v H2 h2 e2 r2 =>
    ho.ok ((g.ext e1).ext e2) ((g.ext e1).rb e2 r1) r2 h2 fun d c w H3 h3 e3 r3 => by
      obtain ⟨c, rfl, h3⟩ := h3
      obtain rfl := r3
      have e := (e1.trans e2).trans e3
      refine ⟨c, rfl, ?_⟩
      cases c with
      | false => rw [if_neg Bool.false_ne_true]; exact fin (.bl false) true _ _ (by rwa [if_neg Bool.false_ne_true] at h3) e rfl
      | true => exact hc.ok (g.ext e) (env.ext g e) (xo.ext e) (by rwa [if_pos rfl] at h3) fun w bw w' H4 h4 e4 r4 => ho'.ok ((g.ext e).ext e4) (((g.ext e1).ext e2).rb (e3.trans e4) r2) r4 h4 fun _ _ _ _ h5 e5 r5 => fin _ _ _ _ h5 ((e.trans e4).trans e5) r5⟩
def dUn (f : Int → D) (da : DE) : DE := fun ρ m er P => da ρ m er fun x _ => ∃ i, x = .int i ∧ P (f i) true
instance {f : Int → Int} [h : OkE K XE ta da] : OkE K XE (tUn (rU fun i => .int (f i)) ta) (dUn (fun i => .int (f i)) da) := ⟨fun g env xo hd fin => h.ok g env xo hd fun d b v H' hP e r => by
  obtain ⟨c, rfl, hP⟩ := hP
  obtain rfl := r
  exact ⟨c, rfl, fin _ _ _ _ hP e rfl⟩⟩
/-! arguments -/
theorem Gd.rlb {ro : Option Addr} {W A : Addr → Prop} {H H' : Hp} (g : Gd K ro W A H) (e : Ext K ro H H') : ∀ {ds : List (D × Bool)} {vs : List V}, RLB K W A H ds vs → RLB K W A H' ds vs
  | [], _, h => h
  | x :: xs, _, h => by
    obtain ⟨v, ws, h1, h2, h3⟩ := h
    exact ⟨v, ws, h1, g.rb e h2, g.rlb e h3⟩
def dNil : DA := fun _ _ _ P => P []
def dCons (da : DE) (dr : DA) : DA := fun ρ m er P => da ρ m er fun x b => dr ρ m er fun xs => P ((x, b) :: xs)
instance : OkA K XE tNil dNil := ⟨fun g env xo hd fin => fin _ _ _ hd Ext.refl rfl⟩
instance [h : OkE K XE ta da] [k : OkA K XE tr dr] : OkA K XE (tCons ta tr) (dCons da dr) := ⟨fun g env xo hd fin => h.ok g env xo hd fun d b v H' hP e r =>
  k.ok (g.ext e) (env.ext g e) (xo.ext e) hP fun ds vs H2 h2 e2 r2 => fin _ _ _ h2 (e.trans e2) ⟨v, vs, rfl, (g.ext e).rb e2 r, r2⟩⟩
def allB : List (D × Bool) → Bool
  | [] => true
  | x :: xs => x.2 && allB xs
theorem RLB.all {ro : Option Addr} {W A : Addr → Prop} {H : Hp} (g : Gd K ro W A H) : ∀ {ds : List (D × Bool)} {vs : List V}, RLB K W A H ds vs → RL K (sel W A (allB ds)) H (ds.map (·.1)) vs
  | [], _, h => h
  | x :: xs, _, h => by
    obtain ⟨v, ws, rfl, h2, h3⟩ := h
    exact ⟨v, ws, rfl, g.dn (fun c => and1 c) h2, g.dns (fun c => and2 (a := x.2) c) (RLB.all g h3)⟩
theorem RLB.w {ro : Option Addr} {W A : Addr → Prop} {H : Hp} (g : Gd K ro W A H) {ds : List (D × Bool)} {vs : List V} (h : RLB K W A H ds vs) : RL K W H (ds.map (·.1)) vs := (h.all g).imp (g.sw _)
/-! displays -/
def dTup (dr : DA) : DE := fun ρ m er P => dr ρ m er fun ds => ds.length ≤ 1000 ∧ P (.tup (ds.map (·.1))) (allB ds)
def dLst (dr : DA) : DE := fun ρ m er P => dr ρ m er fun ds => ds.length ≤ 1000 ∧ P (.lst (ds.map (·.1))) (allB ds)
theorem RLB.len {W A : Addr → Prop} {H : Hp} : ∀ {ds : List (D × Bool)} {vs : List V}, RLB K W A H ds vs → vs.length = ds.length
  | [], _, h => by cases h; rfl
  | x :: xs, _, h => by
    obtain ⟨v, ws, rfl, h2, h3⟩ := h
    exact congrArg (· + 1) h3.len
instance [h : OkA K XE tr dr] : OkE K XE (tTup tr) (dTup dr) := ⟨fun g env xo hd fin => h.ok g env xo hd fun ds vs H' hP e r =>
  ⟨sz_of (by rw [r.len]; have := hP.1; omega), fun p np => fin _ _ _ _ hP.2 (e.trans (Ext.new np)) (new_tup (g.ext e) np (r.all (g.ext e)))⟩⟩
instance [h : OkA K XE tr dr] : OkE K XE (tLst tr) (dLst dr) := ⟨fun g env xo hd fin => h.ok g env xo hd fun ds vs H' hP e r =>
  ⟨sz_of (by rw [r.len]; have := hP.1; omega), fun p np => fin _ _ _ _ hP.2 (e.trans (Ext.new np)) (new_lst (g.ext e) np (r.all (g.ext e)))⟩⟩
/-! built-ins by values -/
class CbD (K : PySem.W.Frag) (rb : List V → Hp → VK → Prop) (f : outParam (List (D × Bool) → (D → Bool → Prop) → Prop)) : Prop where
  ok : ∀ {ro W A H ds vs P} {Q : VK}, Gd K ro W A H → RLB K W A H ds vs → f ds P → (∀ d c w H', P d c → Ext K ro H H' → RB K W A c H' d w → Q w H') → rb vs H Q
def dCB (f : List (D × Bool) → (D → Bool → Prop) → Prop) (dr : DA) : DE := fun ρ m er P => dr ρ m er fun ds => f ds P
instance {rb : List V → Hp → VK → Prop} {f : List (D × Bool) → (D → Bool → Prop) → Prop} [hb : CbD K rb f] [h : OkA K XE tr dr] : OkE K XE (tCB rb tr) (dCB f dr) := ⟨fun g env xo hd fin => h.ok g env xo hd fun ds vs H' hP e r =>
  hb.ok (g.ext e) r hP fun d c w H2 h2 e2 r2 => fin _ _ _ _ h2 (e.trans e2) r2⟩
theorem RLB.one {W A : Addr → Prop} {H : Hp} {d : D} {b : Bool} {vs : List V} (h : RLB K W A H [(d, b)] vs) : ∃ v, vs = [v] ∧ RB K W A b H d v := by
  obtain ⟨v, ws, rfl, h2, h3⟩ := h
  obtain rfl := h3
  exact ⟨v, rfl, h2⟩
theorem RLB.two {W A : Addr → Prop} {H : Hp} {d d' : D} {b b' : Bool} {vs : List V} (h : RLB K W A H [(d, b), (d', b')] vs) : ∃ v v', vs = [v, v'] ∧ RB K W A b H d v ∧ RB K W A b' H d' v' := by
  obtain ⟨v, ws, rfl, h2, h3⟩ := h
  obtain ⟨v', rfl, h4⟩ := h3.one
  exact ⟨v, v', rfl, h2, h4⟩
def fLen : List (D × Bool) → (D → Bool → Prop) → Prop := fun ds P => ∃ xs b, (ds = [(.lst xs, b)] ∨ ds = [(.tup xs, b)]) ∧ P (.int xs.length) true
instance : CbD K (qLen K) fLen := ⟨fun g q h fin => by
  obtain ⟨xs, b, rfl | rfl, hP⟩ := h
  · obtain ⟨v, rfl, r⟩ := q.one
    obtain ⟨a, vs, rfl, ha, w⟩ := lst_items r
    refine b_lenL (SqL.of ha) ?_
    rw [w.len]
    exact fin _ _ _ _ hP Ext.refl rfl
  · obtain ⟨v, rfl, r⟩ := q.one
    obtain ⟨a, vs, rfl, ha, w⟩ := tup_items r
    refine b_lenT ha ?_
    rw [w.len]
    exact fin _ _ _ _ hP Ext.refl rfl⟩
def fLenS : List (D × Bool) → (D → Bool → Prop) → Prop := fun ds P => ∃ z b, ds = [(.str z, b)] ∧ z.length ≤ 100000 ∧ P (.int z.length) true
instance : CbD K qLenS fLenS := ⟨fun g q h fin => by
  obtain ⟨z, b, rfl, hl, hP⟩ := h
  obtain ⟨v, rfl, r⟩ := q.one
  obtain rfl := r
  exact b_lenS (sz_of hl) (fin _ _ _ _ hP Ext.refl rfl)⟩
def fAbs : List (D × Bool) → (D → Bool → Prop) → Prop := fun ds P => ∃ i b, ds = [(.int i, b)] ∧ P (.int (if i < 0 then -i else i)) true
instance : CbD K qAbs fAbs := ⟨fun g q h fin => by
  obtain ⟨z, b, rfl, hP⟩ := h
  obtain ⟨v, rfl, r⟩ := q.one
  obtain rfl := r
  exact b_abs (fin _ _ _ _ hP Ext.refl rfl)⟩
def fMax2 : List (D × Bool) → (D → Bool → Prop) → Prop := fun ds P => ∃ i j b c, ds = [(.int i, b), (.int j, c)] ∧ P (.int (if j > i then j else i)) true
def fMin2 : List (D × Bool) → (D → Bool → Prop) → Prop := fun ds P => ∃ i j b c, ds = [(.int i, b), (.int j, c)] ∧ P (.int (if j < i then j else i)) true
instance : CbD K qMax2 fMax2 := ⟨fun g q h fin => by
  obtain ⟨i, j, b, c, rfl, hP⟩ := h
  obtain ⟨v, v', rfl, r, r'⟩ := q.two
  obtain rfl := r
  obtain rfl := r'
  exact b_max2 (fin _ _ _ _ hP Ext.refl rfl)⟩
instance : CbD K qMin2 fMin2 := ⟨fun g q h fin => by
  obtain ⟨i, j, b, c, rfl, hP⟩ := h
  obtain ⟨v, v', rfl, r, r'⟩ := q.two
  obtain rfl := r
  obtain rfl := r'
  exact b_min2 (fin _ _ _ _ hP Ext.refl rfl)⟩
def fInt1 : List (D × Bool) → (D → Bool → Prop) → Prop := fun ds P => (∃ i b, ds = [(.int i, b)] ∧ P (.int i) true) ∨ ∃ k b, ds = [(.bl k, b)] ∧ P (.int (if k = true then 1 else 0)) true
instance : CbD K qInt1 fInt1 := ⟨fun g q h fin => by
  rcases h with ⟨i, b, rfl, hP⟩ | ⟨k, b, rfl, hP⟩
  · obtain ⟨v, rfl, r⟩ := q.one
    obtain rfl := r
    exact b_intI (fin _ _ _ _ hP Ext.refl rfl)
  · obtain ⟨v, rfl, r⟩ := q.one
    obtain rfl := r
    exact b_intB (fin _ _ _ _ hP Ext.refl rfl)⟩
def fStr1 : List (D × Bool) → (D → Bool → Prop) → Prop := fun ds P => ∃ i b, ds = [(.int i, b)] ∧ i.natAbs.log2 < 1920 ∧ P (.str (toString i)) true
instance : CbD K qStr fStr1 := ⟨fun g q h fin => by
  obtain ⟨z, b, rfl, hl, hP⟩ := h
  obtain ⟨v, rfl, r⟩ := q.one
  obtain rfl := r
  exact b_str hl (fin _ _ _ _ hP Ext.refl rfl)⟩
def fTupOf : List (D × Bool) → (D → Bool → Prop) → Prop := fun ds P => ∃ xs b, (ds = [(.lst xs, b)] ∨ ds = [(.tup xs, b)]) ∧ P (.tup xs) (b || flats xs)
instance : CbD K (qTupOf K) fTupOf := ⟨fun g q h fin => by
  obtain ⟨xs, b, rfl | rfl, hP⟩ := h
  · obtain ⟨v, rfl, r⟩ := q.one
    obtain ⟨a, vs, rfl, ha, w⟩ := lst_items r
    exact b_tupL (SqL.of ha) fun p np => fin _ _ _ _ hP (Ext.new np) (new_tup g np w.or)
  · obtain ⟨v, rfl, r⟩ := q.one
    obtain ⟨a, vs, rfl, ha, w⟩ := tup_items r
    exact b_tupT ha (fin _ _ _ _ hP Ext.refl ⟨a, vs, rfl, ha, w.or⟩)⟩
def fListOf : List (D × Bool) → (D → Bool → Prop) → Prop := fun ds P => ∃ xs b, (ds = [(.lst xs, b)] ∨ ds = [(.tup xs, b)]) ∧ P (.lst xs) (b || flats xs)
instance : CbD K (qListOf K) fListOf := ⟨fun g q h fin => by
  obtain ⟨xs, b, rfl | rfl, hP⟩ := h
  · obtain ⟨v, rfl, r⟩ := q.one
    obtain ⟨a, vs, rfl, ha, w⟩ := lst_items r
    exact b_listL (SqL.of ha) fun p np => fin _ _ _ _ hP (Ext.new np) (new_lst g np w.or)
  · obtain ⟨v, rfl, r⟩ := q.one
    obtain ⟨a, vs, rfl, ha, w⟩ := tup_items r
    exact b_listT ha fun p np => fin _ _ _ _ hP (Ext.new np) (new_lst g np w.or)⟩
theorem ints_of {A : Addr → Prop} {H : Hp} : ∀ {ns : List Int} {vs : List V}, RL K A H (ns.map D.int) vs → vs = ns.map V.int
  | [], _, h => h
  | n :: ns, _, h => by
    obtain ⟨v, ws, rfl, h1, h2⟩ := h
    obtain rfl := h1
    rw [ints_of h2]
    rfl
theorem of_ints {A : Addr → Prop} {H : Hp} : ∀ {ns : List Int}, RL K A H (ns.map D.int) (ns.map V.int)
  | [] => rfl
  | n :: ns => ⟨.int n, _, rfl, rfl, of_ints⟩
def fMaxL : List (D × Bool) → (D → Bool → Prop) → Prop := fun ds P => ∃ (ns : List Int) (b : Bool), ds = [(.lst (ns.map D.int), b)] ∧ 0 < ns.length ∧ ∀ m, m ∈ ns → (∀ y, y ∈ ns → y ≤ m) → P (.int m) true
def fMinL : List (D × Bool) → (D → Bool → Prop) → Prop := fun ds P => ∃ (ns : List Int) (b : Bool), ds = [(.lst (ns.map D.int), b)] ∧ 0 < ns.length ∧ ∀ m, m ∈ ns → (∀ y, y ∈ ns → m ≤ y) → P (.int m) true
instance : CbD K (rMax K) fMaxL := ⟨fun g q h fin => by
  obtain ⟨ns, b, rfl, hl, hP⟩ := h
  obtain ⟨v, rfl, r⟩ := q.one
  obtain ⟨a, vs, rfl, ha, w⟩ := lst_items r
  obtain rfl := ints_of w
  exact ⟨a, ns, rfl, SqL.of ha, hl, fun m h1 h2 => fin _ _ _ _ (hP m h1 h2) Ext.refl rfl⟩⟩
instance : CbD K (rMin K) fMinL := ⟨fun g q h fin => by
  obtain ⟨ns, b, rfl, hl, hP⟩ := h
  obtain ⟨v, rfl, r⟩ := q.one
  obtain ⟨a, vs, rfl, ha, w⟩ := lst_items r
  obtain rfl := ints_of w
  exact ⟨a, ns, rfl, SqL.of ha, hl, fun m h1 h2 => fin _ _ _ _ (hP m h1 h2) Ext.refl rfl⟩⟩
/-! slices -/
abbrev DO := List Sl → Md → (Err → Prop) → (Option Int → Prop) → Prop
class OkO (K : PySem.W.Frag) (XE : XK) (to : TO) (d : outParam DO) : Prop where
  ok : ∀ {ro W A m er σ ρ H P} {Q : Option Int → Hp → Prop}, Gd K ro W A H → EnvA K ro W A m H σ ρ → XOk K ro er H XE → d ρ m er P → (∀ c H', P c → Ext K ro H H' → Q c H') → to σ H Q
def dNoPart : DO := fun _ _ _ P => P none
def dPart (de : DE) : DO := fun ρ m er P => de ρ m er fun d _ => ∃ i, d = .int i ∧ P (some i)
instance : OkO K XE tNoPart dNoPart := ⟨fun g env xo hd fin => fin _ _ hd Ext.refl⟩
instance [h : OkE K XE te de] : OkO K XE (tPart te) (dPart de) := ⟨fun g env xo hd fin => h.ok g env xo hd fun d b v H' hP e r => by
  obtain ⟨c, rfl, hP⟩ := hP
  obtain rfl := r
  exact ⟨c, rfl, fin _ _ hP e⟩⟩
def cutL {α : Type} (xs : List α) (lo hi : Option Int) : List α := (xs.drop (HT.sIx xs.length 0 lo)).take (HT.sIx xs.length xs.length hi - HT.sIx xs.length 0 lo)
theorem RL.cut {A : Addr → Prop} {H : Hp} {ds : List D} {vs : List V} (h : RL K A H ds vs) (lo hi : Option Int) : RL K A H (cutL ds lo hi) (cutV vs lo hi) := by
  unfold cutL cutV
  rw [h.len]
  exact (h.drop _).take _
class SlD (K : PySem.W.Frag) (r : V → Option Int → Option Int → Hp → VK → Prop) (f : outParam (D → Bool → Option Int → Option Int → (D → Bool → Prop) → Prop)) : Prop where
  ok : ∀ {ro W A H d b v lo hi P} {Q : VK}, Gd K ro W A H → RB K W A b H d v → f d b lo hi P → (∀ d c w H', P d c → Ext K ro H H' → RB K W A c H' d w → Q w H') → r v lo hi H Q
def dSl (f : D → Bool → Option Int → Option Int → (D → Bool → Prop) → Prop) (de : DE) (dl dh : DO) : DE := fun ρ m er P => de ρ m er fun d b => dl ρ m er fun lo => dh ρ m er fun hi => f d b lo hi P
instance {r : V → Option Int → Option Int → Hp → VK → Prop} {f : D → Bool → Option Int → Option Int → (D → Bool → Prop) → Prop} {tl th : TO} {dl dh : DO} [s : SlD K r f] [h : OkE K XE te de] [hl : OkO K XE tl dl] [hh : OkO K XE th dh] : OkE K XE (L2.tSl r te tl th) (dSl f de dl dh) := ⟨fun g env xo hd fin =>
  h.ok g env xo hd fun d b v H1 h1 e1 r1 => hl.ok (g.ext e1) (env.ext g e1) (xo.ext e1) h1 fun lo H2 h2 e2 => hh.ok (g.ext (e1.trans e2)) (env.ext g (e1.trans e2)) (xo.ext (e1.trans e2)) h2 fun hi H3 h3 e3 =>
    s.ok (g.ext ((e1.trans e2).trans e3)) ((g.ext e1).rb (e2.trans e3) r1) h3 fun _ _ _ _ h4 e4 r4 => fin _ _ _ _ h4 (((e1.trans e2).trans e3).trans e4) r4⟩
def fSlL : D → Bool → Option Int → Option Int → (D → Bool → Prop) → Prop := fun d b lo hi P => ∃ xs, d = .lst xs ∧ P (.lst (cutL xs lo hi)) (b || flats (cutL xs lo hi))
instance : SlD K (rSlL K) fSlL := ⟨fun g r h fin => by
  obtain ⟨xs, rfl, hP⟩ := h
  obtain ⟨a, vs, rfl, ha, w⟩ := lst_items r
  exact r_slL (SqL.of ha) fun p np => fin _ _ _ _ hP (Ext.new np) (new_lst g np (w.cut _ _).or)⟩
theorem cut_all {α : Type} {xs : List α} {lo hi : Option Int} (h : HT.sIx xs.length 0 lo = 0 ∧ HT.sIx xs.length xs.length hi = xs.length) : cutL xs lo hi = xs := by
  unfold cutL
  rw [h.1, h.2]
  simp
def fSlT : D → Bool → Option Int → Option Int → (D → Bool → Prop) → Prop := fun d b lo hi P => ∃ xs, d = .tup xs ∧ P (.tup (cutL xs lo hi)) (b || flats (cutL xs lo hi))
instance : SlD K (rSlA K) fSlT := ⟨fun g r h fin => by
  obtain ⟨xs, rfl, hP⟩ := h
  obtain ⟨a, vs, rfl, ha, w⟩ := tup_items r
  refine ⟨a, vs, rfl, ha, fun c => fin _ _ _ _ hP Ext.refl ?_, fun _ p np => fin _ _ _ _ hP (Ext.new np) (new_tup g np (w.cut _ _).or)⟩
  rw [w.len] at c
  rw [cut_all c]
  exact ⟨a, vs, rfl, ha, w.or⟩⟩
def fSlS : D → Bool → Option Int → Option Int → (D → Bool → Prop) → Prop := fun d _ lo hi P => ∃ z, d = .str z ∧ z.length ≤ 100000 ∧ P (.str (cutS z lo hi)) true
instance : SlD K rSlS fSlS := ⟨fun g r h fin => by
  obtain ⟨z, rfl, hl, hP⟩ := h
  obtain rfl := r
  exact ⟨z, rfl, sz_of hl, fin _ _ _ _ hP Ext.refl rfl⟩⟩
/-! fields -/
def dFld (K : PySem.W.Frag) (f : Str) (da : DE) : DE := fun ρ m er P => da ρ m er fun x b => ∃ C fs d, x = .ins C fs ∧ Cls K (He.ga K C) ∧ NoAttr K (He.ga K C) f ∧ fs.lookup f = some d ∧ P d (b || flat d)
instance {f : Str} [h : OkE K XE ta da] : OkE K XE (tFld K ta f) (dFld K f da) := ⟨fun g env xo hd fin => h.ok g env xo hd fun d b v H' hP e r => by
  obtain ⟨C, fs, d, rfl, c1, c2, hl, hP⟩ := hP
  obtain ⟨a, dx, gs, rfl, _, ha, hf⟩ := r
  obtain ⟨v, hv, rv⟩ := hf.look hl
  exact ⟨a, _, dx, gs, v, rfl, ha, c1, c2, hv, fin _ _ _ _ hP e (RB.or rv)⟩⟩
/-! calls -/
def spX (K : PySem.W.Frag) (n : Nat) (F : List D → (Err → Prop) → (D → Prop) → Prop) : Sp := fun vs H Q E => ∃ ds er P, vs.length = n ∧ RL K (fun _ => True) H ds vs ∧ F ds er P ∧ (∀ d v H', P d → Same H H' → R K (fun a => H a = none) H' d v → Q v H') ∧ (∀ e cls od H', er e → Same H H' → ErrAt K H' e cls od → E cls od H')
def spD (K : PySem.W.Frag) (n : Nat) (F : List D → (D → Prop) → Prop) : Sp := spX K n fun ds _ P => F ds P
def spR (K : PySem.W.Frag) (n : Nat) (F : List D → (D → Prop) → Prop) : Sp := fun vs H Q E => ∃ r ws ds P, vs.length = n ∧ vs = .ref r :: ws ∧ RowOk K H r ∧ RL K (fun a => a ≠ r) H ds ws ∧ F ds P ∧ ∀ d v H', P d → Kp r H H' → RowOk K H' r → R K (fun a => H a = none) H' d v → Q v H'
/-- a promise by data; it raises nothing -/
class SpD (K : PySem.W.Frag) (sp : Sp) (F : outParam (List D → (D → Prop) → Prop)) : Prop where
  ok : ∀ {ds P vs H Q E}, RL K (fun _ => True) H ds vs → F ds P → (∀ d v H', P d → Same H H' → R K (fun a => H a = none) H' d v → Q v H') → sp vs H Q E
/-- a promise by data; what it raises leaves by E -/
class SpX (K : PySem.W.Frag) (sp : Sp) (F : outParam (List D → (Err → Prop) → (D → Prop) → Prop)) : Prop where
  ok : ∀ {ds P er vs H Q} {E : XK}, RL K (fun _ => True) H ds vs → F ds er P → (∀ d v H', P d → Same H H' → R K (fun a => H a = none) H' d v → Q v H') → (∀ e cls od H', er e → Same H H' → ErrAt K H' e cls od → E cls od H') → sp vs H Q E
/-- a promise by data, of a def that draws -/
class SpR (K : PySem.W.Frag) (sp : Sp) (F : outParam (List D → (D → Prop) → Prop)) : Prop where
  ok : ∀ {r ds P vs H Q E}, RowOk K H r → RL K (fun a => a ≠ r) H ds vs → F ds P → (∀ d v H', P d → Kp r H H' → RowOk K H' r → R K (fun a => H a = none) H' d v → Q v H') → sp (.ref r :: vs) H Q E
def dCall (F : List D → (D → Prop) → Prop) (dr : DA) : DE := fun ρ m er P => dr ρ m er fun ds => F (ds.map (·.1)) fun d => P d true
def dCallX (F : List D → (Err → Prop) → (D → Prop) → Prop) (dr : DA) : DE := fun ρ m er P => dr ρ m er fun ds => F (ds.map (·.1)) er fun d => P d true
def dCallR (i : Nat) (F : List D → (D → Prop) → Prop) (dr : DA) : DE := fun ρ m er P => slAt ρ i = .row ∧ dr ρ m er fun ds => F (ds.map (·.1)) fun d => P d true
theorem fresh {ro : Option Addr} {W A : Addr → Prop} {H H' : Hp} (g : Gd K ro W A H) {d : D} {v : V} (h : R K (fun a => H a = none) H' d v) : RB K W A true H' d v := h.imp fun a c => g.nw a c
instance {sp : Sp} {E : XK} {F : List D → (D → Prop) → Prop} [s : SpD K sp F] [h : OkA K XE tr dr] : OkE K XE (tCall sp [] E tr) (dCall F dr) := ⟨fun g env xo hd fin => h.ok g env xo hd fun ds vs H' hP e r => by
  show sp (vs ++ []) H' _ E
  rw [List.append_nil]
  exact s.ok (((r.w (g.ext e))).imp fun _ _ => trivial) hP fun d v H2 h2 e2 r2 => fin _ _ _ _ h2 (e.trans (Ext.of e2)) (fresh (g.ext e) r2)⟩
instance {sp : Sp} {F : List D → (Err → Prop) → (D → Prop) → Prop} [s : SpX K sp F] [h : OkA K XE tr dr] : OkE K XE (tCall sp [] XE tr) (dCallX F dr) := ⟨fun g env xo hd fin => h.ok g env xo hd fun ds vs H' hP e r => by
  show sp (vs ++ []) H' _ XE
  rw [List.append_nil]
  exact s.ok (((r.w (g.ext e))).imp fun _ _ => trivial) hP (fun d v H2 h2 e2 r2 => fin _ _ _ _ h2 (e.trans (Ext.of e2)) (fresh (g.ext e) r2)) (fun c cls od H2 h2 e2 r2 => xo c cls od H2 h2 (e.trans (Ext.of e2)) r2)⟩
instance {sp : Sp} {E : XK} {i : Nat} {F : List D → (D → Prop) → Prop} [s : SpR K sp F] [h : OkA K XE tr dr] : OkE K XE (tCall sp [] E (tCons (tVar i) tr)) (dCallR i F dr) := ⟨fun {ro W A m er σ ρ H P Q} g env xo hd fin => by
  obtain ⟨hi, hd⟩ := hd
  obtain ⟨o, ho, _, hr⟩ := env.at (i := i) (by rw [hi]; intro c; cases c)
  obtain ⟨r, rfl, rfl⟩ := hr hi
  refine ⟨_, ho, ?_⟩
  refine h.ok g env xo hd fun ds vs H' hP e rr => ?_
  show sp (.ref r :: vs ++ []) H' _ E
  rw [List.append_nil]
  have g' := g.ext e
  exact s.ok (g'.row r rfl).1 ((rr.w g').imp fun a wa (c : a = r) => (g'.row r rfl).2 (c ▸ wa)) hP fun d v H2 h2 k2 row2 r2 => fin _ _ _ _ h2 (e.trans (Ext.kp k2 row2)) (fresh g' r2)⟩
end
end Bk

/-! Data: targets, what is walked, comprehensions. -/
namespace Bk
open PySem L2
section
variable {K : PySem.W.Frag} {XE : XK}
/-! targets -/
abbrev DG := D → Bool → (List (Nat × D × Bool) → Prop) → Prop
abbrev DGs := List (D × Bool) → (List (Nat × D × Bool) → Prop) → Prop
def setV (σ : L2.St) : List (Nat × V) → L2.St
  | [] => σ
  | p :: ps => setV (σ.set p.1 (some p.2)) ps
def RG (K : PySem.W.Frag) (W A : Addr → Prop) (H : Hp) : List (Nat × D × Bool) → List (Nat × V) → Prop
  | [], vs => vs = []
  | x :: xs, vs => ∃ v ws, vs = (x.1, v) :: ws ∧ RB K W A x.2.2 H x.2.1 v ∧ RG K W A H xs ws
theorem RG.app {W A : Addr → Prop} {H : Hp} : ∀ {us us' : List (Nat × D × Bool)} {vs vs' : List (Nat × V)}, RG K W A H us vs → RG K W A H us' vs' → RG K W A H (us ++ us') (vs ++ vs')
  | [], _, _, _, h, g => by cases h; exact g
  | x :: xs, _, _, _, h, g => by
    obtain ⟨v, ws, rfl, h2, h3⟩ := h
    exact ⟨v, ws ++ _, rfl, h2, h3.app g⟩
theorem setV_app (σ : L2.St) : ∀ (ps qs : List (Nat × V)), setV σ (ps ++ qs) = setV (setV σ ps) qs := by
  intro ps
  induction ps generalizing σ with
  | nil => intro qs; rfl
  | cons p ps ih => intro qs; exact ih _ qs
class OkG (K : PySem.W.Frag) (g : TG) (dg : outParam DG) : Prop where
  ok : ∀ {W A H x d b P} {σ : L2.St} {QS : L2.St → Hp → Prop}, RB K W A b H d x → dg d b P → (∀ us vs, P us → RG K W A H us vs → QS (setV σ vs) H) → g x σ H QS
class OkGs (K : PySem.W.Frag) (g : TGs) (dg : outParam DGs) : Prop where
  ok : ∀ {W A H xs ds P} {σ : L2.St} {QS : L2.St → Hp → Prop}, RLB K W A H ds xs → dg ds P → (∀ us vs, P us → RG K W A H us vs → QS (setV σ vs) H) → g xs σ H QS
def dgN (i : Nat) : DG := fun d b P => P [(i, d, b)]
instance {i : Nat} : OkG K (gName i) (dgN i) := ⟨fun {W A H x d b P σ QS} r h fin => fin _ [(i, x)] h ⟨x, [], rfl, r, rfl⟩⟩
def dgsN : DGs := fun ds P => ds = [] ∧ P []
instance : OkGs K gNil dgsN := ⟨fun r h fin => by
  obtain ⟨rfl, hP⟩ := h
  obtain rfl := r
  exact ⟨rfl, fin _ [] hP rfl⟩⟩
def dgsC (dg : DG) (dgs : DGs) : DGs := fun ds P => ∃ x r, ds = x :: r ∧ dg x.1 x.2 fun us => dgs r fun us' => P (us ++ us')
instance {g : TG} {gs : TGs} {dg : DG} {dgs : DGs} [h : OkG K g dg] [k : OkGs K gs dgs] : OkGs K (gCons g gs) (dgsC dg dgs) := ⟨fun {W A H xs ds P σ QS} r hd fin => by
  obtain ⟨x, rr, rfl, hP⟩ := hd
  obtain ⟨v, ws, rfl, h1, h2⟩ := r
  exact ⟨v, ws, rfl, h.ok h1 hP fun us vs hp rg => k.ok h2 hp fun us' vs' hp' rg' => by
    have := fin _ _ hp' (rg.app rg')
    rw [setV_app] at this
    exact this⟩⟩
def dgT (n : Nat) (dgs : DGs) : DG := fun d b P => ∃ ds, d = .tup ds ∧ ds.length = n ∧ dgs (ds.map fun x => (x, b || flat x)) P
theorem rlb_map {W A : Addr → Prop} {H : Hp} {b : Bool} : ∀ {ds : List D} {vs : List V}, RL K (sel W A b) H ds vs → RLB K W A H (ds.map fun x => (x, b || flat x)) vs
  | [], _, h => h
  | x :: xs, _, h => by
    obtain ⟨v, ws, h1, h2, h3⟩ := h
    exact ⟨v, ws, h1, RB.or h2, rlb_map h3⟩
instance {n : Nat} {gs : TGs} {dgs : DGs} [k : OkGs K gs dgs] : OkG K (gTup K n gs) (dgT n dgs) := ⟨fun r hd fin => by
  obtain ⟨ds, rfl, hl, hP⟩ := hd
  obtain ⟨a, vs, rfl, ha, w⟩ := tup_items r
  exact ⟨a, vs, rfl, ha, by rw [w.len]; exact hl, k.ok (rlb_map w) hP fin⟩⟩
/-! what is walked -/
abbrev DI := List Sl → Md → (Err → Prop) → (List D → Bool → Prop) → Prop
def WalkD (K : PySem.W.Frag) (J : It) (xs : List D) (d : D) (v : V) : Prop := Walk J xs.length (fun H => ∃ B, R K B H d v) (fun i H x H' => H' = H ∧ ∀ B, R K B H d v → ∃ dx, xs[i]? = some dx ∧ R K B H dx x)
class OkI (K : PySem.W.Frag) (XE : XK) (wi : TI) (di : outParam DI) : Prop where
  ok : ∀ {ro W A m er σ ρ H P} {Q : It → Hp → Prop}, Gd K ro W A H → EnvA K ro W A m H σ ρ → XOk K ro er H XE → di ρ m er P → (∀ xs b J d v H', P xs b → Ext K ro H H' → RB K W A b H' d v → WalkD K J xs d v → Q J H') → wi σ H Q
section
variable {ta tb tc te : TE} {da db dc de : DE} {tt tu : TT} {dt du : DT} {tr : TA} {dr : DA}
theorem walkD_list {a : Addr} {xs : List D} : WalkD K (Itl K a) xs (.lst xs) (.ref a) where
  goes := fun i H hi h => by
    obtain ⟨B, h⟩ := h
    obtain ⟨a', vs, e, ha, w⟩ := lst_items h
    cases e
    exact ⟨vs, vs[i]'(by rw [w.len]; exact hi), SqL.of ha, List.getElem?_eq_getElem _⟩
  stops := fun H h => by
    obtain ⟨B, h⟩ := h
    obtain ⟨a', vs, e, ha, w⟩ := lst_items h
    cases e
    exact ⟨vs, SqL.of ha, by rw [w.len]; exact Nat.le_refl _⟩
  yields := fun i H x H' hi h y => by
    obtain ⟨e1, y⟩ := y
    refine ⟨e1, fun B h => ?_⟩
    obtain ⟨a', vs, e, ha, w⟩ := lst_items h
    cases e
    exact w.at' (y vs (SqL.of ha))
theorem walkD_tup {a : Addr} {xs : List D} : WalkD K (Itt K a) xs (.tup xs) (.ref a) where
  goes := fun i H hi h => by
    obtain ⟨B, h⟩ := h
    obtain ⟨a', vs, e, ha, w⟩ := tup_items h
    cases e
    exact ⟨vs, vs[i]'(by rw [w.len]; exact hi), ha, List.getElem?_eq_getElem _⟩
  stops := fun H h => by
    obtain ⟨B, h⟩ := h
    obtain ⟨a', vs, e, ha, w⟩ := tup_items h
    cases e
    exact ⟨vs, ha, by rw [w.len]; exact Nat.le_refl _⟩
  yields := fun i H x H' hi h y => by
    obtain ⟨e1, y⟩ := y
    refine ⟨e1, fun B h => ?_⟩
    obtain ⟨a', vs, e, ha, w⟩ := tup_items h
    cases e
    exact w.at' (y vs ha)
def rngD (lo : Int) (n : Nat) : List D := (List.range n).map fun i => D.int (lo + (i : Nat))
theorem walkD_rng {lo : Int} {n : Nat} : WalkD K (Itr lo n) (rngD lo n) .non .non := by
  have hl : (rngD lo n).length = n := by simp [rngD]
  refine ⟨fun i H hi _ => ?_, fun H _ => ?_, fun i H x H' hi _ y => ⟨y.1, fun B _ => ⟨.int (lo + i), ?_, ?_⟩⟩⟩
  · rw [hl] at hi; exact hi
  · show n ≤ _; rw [hl]; exact Nat.le_refl _
  · rw [hl] at hi
    simp [rngD, hi]
  · rw [y.2]; rfl
def strD (z : Str) : List D := z.cps.toList.map fun c => D.str ⟨#[c]⟩
theorem walkD_str {z : Str} : WalkD K (Its z) (strD z) (.str z) (.str z) := by
  have hl : (strD z).length = z.cps.size := by simp [strD]
  have wk : Walk (Its z) z.cps.size (fun _ => True) (fun i H v H' => H' = H ∧ ∃ c, z.cps[i]? = some c ∧ v = .str ⟨#[c]⟩) := walk_str
  refine ⟨fun i H hi _ => ?_, fun H _ => ?_, fun i H x H' hi _ y => ?_⟩
  · rw [hl] at hi; exact wk.goes i H hi trivial
  · rw [hl]; exact wk.stops H trivial
  · rw [hl] at hi
    obtain ⟨e, c, hc, rfl⟩ := wk.yields i H x H' hi trivial y
    refine ⟨e, fun B _ => ⟨.str ⟨#[c]⟩, ?_, rfl⟩⟩
    simp [strD, hc]
def diL (de : DE) : DI := fun ρ m er P => de ρ m er fun d b => ∃ xs, d = .lst xs ∧ P xs b
def diT (de : DE) : DI := fun ρ m er P => de ρ m er fun d b => ∃ xs, d = .tup xs ∧ P xs b
def diS (de : DE) : DI := fun ρ m er P => de ρ m er fun d b => ∃ z, d = .str z ∧ P (strD z) true
def diR1 (dr : DA) : DI := fun ρ m er P => dr ρ m er fun ds => ∃ j b, ds = [(.int j, b)] ∧ -(2 ^ 62) ≤ j ∧ j < 2 ^ 62 ∧ P (rngD 0 j.toNat) true
def diR2 (dr : DA) : DI := fun ρ m er P => dr ρ m er fun ds => ∃ i j b c, ds = [(.int i, b), (.int j, c)] ∧ (-(2 ^ 62) ≤ i ∧ i < 2 ^ 62 ∧ -(2 ^ 62) ≤ j ∧ j < 2 ^ 62) ∧ P (rngD i (j - i).toNat) true
instance [h : OkE K XE te de] : OkI K XE (iList K te) (diL de) := ⟨fun g env xo hd fin => h.ok g env xo hd fun d b v H' hP e r => by
  obtain ⟨xs, rfl, hP⟩ := hP
  obtain ⟨a, vs, rfl, ha, w⟩ := lst_items r
  exact ⟨a, rfl, ⟨vs, SqL.of ha⟩, fin _ _ _ _ _ _ hP e r walkD_list⟩⟩
instance [h : OkE K XE te de] : OkI K XE (iTup K te) (diT de) := ⟨fun g env xo hd fin => h.ok g env xo hd fun d b v H' hP e r => by
  obtain ⟨xs, rfl, hP⟩ := hP
  obtain ⟨a, vs, rfl, ha, w⟩ := tup_items r
  exact ⟨a, rfl, ⟨vs, ha⟩, fin _ _ _ _ _ _ hP e r walkD_tup⟩⟩
instance [h : OkE K XE te de] : OkI K XE (iStr te) (diS de) := ⟨fun g env xo hd fin => h.ok g env xo hd fun d b v H' hP e r => by
  obtain ⟨z, rfl, hP⟩ := hP
  obtain rfl := r
  exact ⟨z, rfl, fin _ true _ (.str z) (.str z) _ hP e rfl walkD_str⟩⟩
instance [h : OkA K XE tr dr] : OkI K XE (iRng1 tr) (diR1 dr) := ⟨fun g env xo hd fin => h.ok g env xo hd fun ds vs H' hP e q => by
  obtain ⟨j, b, rfl, h1, h2, hP⟩ := hP
  obtain ⟨v, rfl, r⟩ := q.one
  obtain rfl := r
  exact ⟨j, rfl, h1, h2, fin _ true _ .non .non _ hP e rfl walkD_rng⟩⟩
instance [h : OkA K XE tr dr] : OkI K XE (iRng2 tr) (diR2 dr) := ⟨fun g env xo hd fin => h.ok g env xo hd fun ds vs H' hP e q => by
  obtain ⟨i, j, b, c, rfl, h1, hP⟩ := hP
  obtain ⟨v, v', rfl, r, r'⟩ := q.two
  obtain rfl := r
  obtain rfl := r'
  exact ⟨i, j, rfl, h1, fin _ true _ .non .non _ hP e rfl walkD_rng⟩⟩
/-! comprehensions -/
def wipeS (ρ : List Sl) : List Nat → List Sl
  | [] => ρ
  | v :: vs => slPut (wipeS ρ vs) v .un
def stk (b : Bool) (d : D) : Sl := if b = true then .st d else .wk d
def putG (ρ : List Sl) : List (Nat × D × Bool) → List Sl
  | [] => ρ
  | x :: xs => putG (slPut ρ x.1 (stk x.2.2 x.2.1)) xs
def lcGo (turn : D → Bool → (D → Bool → Prop) → Prop → Prop) (b : Bool) : List D → List D → (List D → Prop) → Prop
  | [], acc, P => P acc
  | x :: xs, acc, P => turn x (b || flat x) (fun y c => c = true ∧ lcGo turn b xs (acc ++ [y]) P) (lcGo turn b xs acc P)
def lcTurn (dg : DG) (dt : DT) (de : DE) (ws : List Nat) (ρ : List Sl) (m : Md) (er : Err → Prop) : D → Bool → (D → Bool → Prop) → Prop → Prop := fun x b Y N =>
  dg x b fun us => (us.all fun u => ws.contains u.1) = true ∧ dt (putG (wipeS ρ ws) us) m er fun c => if c = true then de (putG (wipeS ρ ws) us) m er Y else N
def dLc (di : DI) (dg : DG) (dt : DT) (de : DE) (ws : List Nat) : DE := fun ρ m er P => di ρ m er fun xs b => xs.length ≤ 100000 ∧ lcGo (lcTurn dg dt de ws ρ m er) b xs [] fun acc => P (.lst acc) true
theorem wipe_set (σ : L2.St) (i : Nat) (o : Option V) : ∀ ws : List Nat, ws.contains i = true → wipe (σ.set i o) ws = wipe σ ws
  | [], h => by simp at h
  | v :: vs, h => by
    show (wipe (σ.set i o) vs).set v none = (wipe σ vs).set v none
    by_cases c : vs.contains i = true
    · rw [wipe_set σ i o vs c]
    · have e : i = v := by
        simp only [List.contains_cons, Bool.or_eq_true, beq_iff_eq] at h
        rcases h with h | h
        · exact h
        · exact absurd h c
      subst e
      have nm : ∀ (vs : List Nat) (σ : L2.St), (wipe (σ.set i o) vs).set i none = (wipe σ vs).set i none := by
        intro vs
        induction vs with
        | nil => intro σ; show (σ.set i o).set i none = σ.set i none; rw [List.set_set]
        | cons w ws ih =>
          intro σ
          show ((wipe (σ.set i o) ws).set w none).set i none = ((wipe σ ws).set w none).set i none
          by_cases q : w = i
          · subst q
            rw [List.set_set, List.set_set, ih]
          · rw [List.set_comm _ _ q, List.set_comm _ _ q, ih]
      exact nm vs σ
theorem wipe_setV (ws : List Nat) : ∀ (us : List (Nat × D × Bool)) (vs : List (Nat × V)) (σ : L2.St) {W A : Addr → Prop} {H : Hp}, RG K W A H us vs → (us.all fun u => ws.contains u.1) = true → wipe (setV σ vs) ws = wipe σ ws
  | [], _, σ, _, _, _, h, _ => by cases h; rfl
  | x :: xs, _, σ, _, _, _, h, c => by
    obtain ⟨v, vs', rfl, _, h3⟩ := h
    rw [List.all_cons, Bool.and_eq_true] at c
    show wipe (setV (σ.set x.1 (some v)) vs') ws = wipe σ ws
    rw [wipe_setV ws xs vs' _ h3 c.2, wipe_set _ _ _ _ c.1]
theorem wipe_idem (σ : L2.St) : ∀ ws : List Nat, ∀ i, ws.contains i = true → (wipe σ ws).set i none = wipe σ ws
  | [], i, h => by simp at h
  | v :: vs, i, h => by
    show ((wipe σ vs).set v none).set i none = (wipe σ vs).set v none
    by_cases e : i = v
    · rw [e, List.set_set]
    · simp only [List.contains_cons, Bool.or_eq_true, beq_iff_eq] at h
      rcases h with h | h
      · exact absurd h e
      · rw [List.set_comm _ _ (fun c => e c.symm), wipe_idem σ vs i h]
theorem wipe_wipe (σ : L2.St) (ws : List Nat) : wipe (wipe σ ws) ws = wipe σ ws := by
  have key : ∀ us : List Nat, (∀ i, us.contains i = true → ws.contains i = true) → wipe (wipe σ ws) us = wipe σ ws := by
    intro us
    induction us with
    | nil => intro _; rfl
    | cons v vs ih =>
      intro h
      show (wipe (wipe σ ws) vs).set v none = wipe σ ws
      rw [ih fun i hi => h i (by simp only [List.contains_cons, Bool.or_eq_true]; exact .inr hi)]
      exact wipe_idem σ ws v (h v (by simp))
  exact key ws fun _ z => z
section
variable {ro : Option Addr} {W A : Addr → Prop} {m : Md} {H H' : Hp}
theorem SlA.stk {b : Bool} {d : D} {v : V} (g : Gd K ro W A H) (h : RB K W A b H d v) : SlA K ro W A m H (some v) (stk b d) := by
  cases b with
  | true => exact ⟨fun d' e => by cases e; exact ⟨v, rfl, g.rw h, fun _ => h⟩, fun e => (nomatch e)⟩
  | false => exact ⟨fun d' e => by cases e; exact ⟨v, rfl, h, fun c => (nomatch c)⟩, fun e => (nomatch e)⟩
theorem EnvA.wipe {σ : L2.St} {ρ : List Sl} (h : EnvA K ro W A m H σ ρ) : ∀ ws : List Nat, EnvA K ro W A m H (wipe σ ws) (wipeS ρ ws)
  | [] => h
  | v :: vs => EnvA.put SlA.un (EnvA.wipe h vs)
theorem EnvA.putG (g : Gd K ro W A H) : ∀ {us : List (Nat × D × Bool)} {vs : List (Nat × V)} {σ : L2.St} {ρ : List Sl}, EnvA K ro W A m H σ ρ → RG K W A H us vs → EnvA K ro W A m H (setV σ vs) (Bk.putG ρ us)
  | [], _, _, _, h, r => by cases r; exact h
  | x :: xs, _, σ, ρ, h, r => by
    obtain ⟨v, ws, rfl, h2, h3⟩ := r
    show EnvA K ro W A m H (setV (σ.set x.1 (some v)) ws) (Bk.putG (slPut ρ x.1 (stk x.2.2 x.2.1)) xs)
    have q := EnvA.put (i := x.1) (SlA.stk (m := m) g h2) h
    exact EnvA.putG g q h3
end
theorem lcGo_step {turn : D → Bool → (D → Bool → Prop) → Prop → Prop} {b : Bool} {xs : List D} {i : Nat} {x : D} {acc : List D} {P : List D → Prop} (hx : xs[i]? = some x) (h : lcGo turn b (xs.drop i) acc P) : turn x (b || flat x) (fun y c => c = true ∧ lcGo turn b (xs.drop (i + 1)) (acc ++ [y]) P) (lcGo turn b (xs.drop (i + 1)) acc P) := by
  obtain ⟨hi, rfl⟩ := List.getElem?_eq_some_iff.mp hx
  rw [List.drop_eq_getElem_cons hi] at h
  exact h
instance {wi : TI} {g : TG} {ws : List Nat} {di : DI} {dg : DG} [hi : OkI K XE wi di] [hg : OkG K g dg] [ht : OkT K XE tt dt] [he : OkE K XE te de] : OkE K XE (tLc wi g tt te ws) (dLc di dg dt de ws) where
  ok {ro W A m er σ ρ H P Q} gd env xo hd fin := by
    refine w_lc (hi.ok gd env xo hd fun xs b J d v H1 hP e1 r1 wk => ?_)
    obtain ⟨hlen, hP⟩ := hP
    have gd1 := gd.ext e1
    have env1 := env.ext gd e1
    intro D0 nD
    show ∃ _, _
    have hroD : ∀ r, ro = some r → r ≠ D0 := fun r c z => by
      obtain ⟨ys, hy⟩ := row_at (gd1.row r c).1
      rw [z, nD] at hy
      cases hy
    -- beside D0
    let A' : Addr → Prop := fun a => A a ∧ a ≠ D0
    let W' : Addr → Prop := fun a => W a ∧ a ≠ D0
    have sel' : ∀ c a, sel W' A' c a → sel W A c a ∧ a ≠ D0 := fun c a z => by cases c <;> exact z
    have isel : ∀ c a, sel W A c a → a ≠ D0 → sel W' A' c a := fun c a z n => by cases c <;> exact ⟨z, n⟩
    have into : ∀ {B B' : Addr → Prop}, (∀ a, B a → a ≠ D0 → B' a) → (∀ a, B a → W a) → ∀ (o : HO) (d : D) (v : V), R K B H1 d v → R K B' (upd H1 D0 o) d v := fun hB hW o d v z =>
      z.go (fun a ba ha => hB a ba fun c => ha (by rw [c]; exact nD)) (fun a o' ba ha => by rw [upd_ne (ne_of_none ha nD)]; exact ha) (fun a vs z => same_t (Same.new nD) z)
    let Inv : Nat → Hp → Prop := fun i H2 => Ext K ro H H2 ∧ Gd K ro W' A' H2 ∧ EnvA K ro W' A' m H2 σ ρ ∧ RB K W' A' b H2 d v ∧ ∃ acc vs, H2 D0 = some (.lst vs) ∧ RL K A' H2 acc vs ∧ acc.length ≤ i ∧ lcGo (lcTurn dg dt de ws ρ m er) b (xs.drop i) acc fun acc => P (.lst acc) true
    refine lc_it wk Inv ?_ ?_ ?_ ?_
    · refine ⟨e1.trans (Ext.new nD), ⟨fun a ha => ?_, fun a z => ⟨gd1.aw a z.1, z.2⟩, fun r c => ⟨(Ext.new (K := K) (ro := ro) nD).row r c (gd1.row r c).1, fun z => (gd1.row r c).2 z.1⟩⟩, env1.map (into (fun a z n => ⟨z, n⟩) (fun _ z => z) _) (into (fun a z n => ⟨z, n⟩) gd1.aw _), into (isel b) (gd1.sw b) _ _ _ r1, [], [], upd_same, rfl, Nat.le_refl _, hP⟩
      have ne : a ≠ D0 := fun c => by rw [c, upd_same] at ha; cases ha
      rw [upd_ne ne] at ha
      exact ⟨gd1.nw a ha, ne⟩
    · intro i H2 _ hI
      exact ⟨_, hI.2.2.2.1⟩
    · intro i x H2 H3 hlt hI hY
      obtain ⟨rfl, hx⟩ := hY
      obtain ⟨eH, g2, env2, src, acc, vs, hD, hacc, hal, hgo⟩ := hI
      obtain ⟨dx, hdx, rdx⟩ := hx _ src
      have hgo' := lcGo_step hdx hgo
      have rdx' : RB K W' A' (b || flat dx) H3 dx x := RB.or rdx
      refine hg.ok rdx' hgo' fun us vs' hus rg => ⟨?_, ?_⟩
      · rw [wipe_setV ws us vs' _ rg hus.1, wipe_wipe]
      have envb := (env2.wipe ws).putG g2 rg
      have xo2 : XOk K ro er H3 XE := xo.ext eH
      refine ht.ok g2 envb xo2 hus.2 fun c H4 hc e4 => ?_
      have g4 := g2.ext e4
      have env4 := env2.ext g2 e4
      have hD4 : H4 D0 = some (.lst vs) := e4.keep _ _ (fun c => hroD _ c rfl) hD
      have tr : ∀ {H5 : Hp}, Ext K ro H4 H5 → RL K A' H4 acc vs → RL K A' H5 acc vs := fun e5 z => g4.rbs (b := true) e5 z
      have acc4 : RL K A' H4 acc vs := g2.rbs (b := true) e4 hacc
      cases c with
      | false =>
        rw [if_neg Bool.false_ne_true] at hc ⊢
        exact ⟨eH.trans e4, g4, env4, g2.rb e4 src, acc, vs, hD4, acc4, by omega, hc⟩
      | true =>
        rw [if_pos rfl] at hc ⊢
        refine he.ok g4 (envb.ext g2 e4) (xo2.ext e4) hc fun y cb w H5 hy e5 ry => ?_
        obtain ⟨rfl, hy⟩ := hy
        have g5 := g4.ext e5
        have hD5 : H5 D0 = some (.lst vs) := e5.keep _ _ (fun c => hroD _ c rfl) hD4
        have acc5 : RL K A' H5 (acc ++ [y]) (vs ++ [w]) := (tr e5 acc4).app (RL.one ry)
        have hxl : i < xs.length := hlt
        refine ⟨vs, hD5, sz_lt (by rw [acc4.len]; omega), ?_⟩
        have muta : ∀ {B : Addr → Prop}, (∀ a, B a → a ≠ D0) → ∀ (d : D) (v : V), R K B H5 d v → R K B (upd H5 D0 (.lst (vs ++ [w]))) d v := fun hB d v z =>
          z.go (fun a ba _ => ba) (fun a o' ba ha => by rw [upd_ne (hB a ba)]; exact ha) (fun a vs z => upd_lst_t z hD5)
        have muts : ∀ {B : Addr → Prop}, (∀ a, B a → a ≠ D0) → ∀ (d : List D) (v : List V), RL K B H5 d v → RL K B (upd H5 D0 (.lst (vs ++ [w]))) d v := fun hB d v z =>
          z.go (fun a ba _ => ba) (fun a o' ba ha => by rw [upd_ne (hB a ba)]; exact ha) (fun a vs z => upd_lst_t z hD5)
        have eH5 := (eH.trans e4).trans e5
        have hnD : H D0 = none := by
          cases q : H D0 with
          | none => rfl
          | some o =>
            have := e1.keep D0 o (fun c => hroD _ c rfl) q
            rw [nD] at this
            cases this
        refine ⟨⟨fun a o n ha => by rw [upd_ne (ne_of_none ha hnD)]; exact eH5.keep a o n ha, fun r c hr => row_mut (eH5.row r c hr) hD5 (fun _ _ z => by cases z) (fun z => hroD r c z.symm)⟩, ⟨fun a ha => ?_, g5.aw, fun r c => ⟨row_mut (g5.row r c).1 hD5 (fun _ _ z => by cases z) (fun z => hroD r c z.symm), (g5.row r c).2⟩⟩,
          (env4.ext g4 e5).map (muta fun a z => z.2) (muta fun a z => z.2), muta (fun a z => (sel' b a z).2) _ _ (g4.rb e5 (g2.rb e4 src)), acc ++ [y], vs ++ [w], upd_same, muts (fun a z => z.2) _ _ acc5, by rw [List.length_append]; simp; omega, hy⟩
        have ne : a ≠ D0 := fun c => by rw [c, upd_same] at ha; cases ha
        rw [upd_ne ne] at ha
        exact g5.nw a ha
    · intro H2 hI
      obtain ⟨eH, g2, _, _, acc, vs, hD, hacc, _, hgo⟩ := hI
      rw [List.drop_length] at hgo
      exact fin (.lst acc) true (.ref D0) H2 hgo eH ⟨D0, vs, rfl, gd1.nw _ nD, hD, hacc.imp fun a z => z.1⟩
end
end
end Bk

/-! Data: statements. -/
namespace Bk
open PySem L2
inductive Kd where
  | fr | sh | ow | dp
section
variable (K : PySem.W.Frag) (ro : Option Addr) (H0 : Hp) (w : Addr → Option Nat) (H : Hp)
def cSh (a : Addr) : Prop := w a = none
def cFr (a : Addr) : Prop := w a = none ∧ H0 a = none
def OwAt (n : Nat) (d : D) (o : Option V) : Prop := ∃ a, o = some (.ref a) ∧ w a = some (n + 1) ∧ ((∃ xs vs, d = .lst xs ∧ H a = some (.lst vs) ∧ RL K (cFr H0 w) H xs vs) ∨ ∃ es ws, d = .dic es ∧ H a = some (.dK ws) ∧ RK K (cFr H0 w) H es ws)
def SlS (n : Nat) (o : Option V) : Sl → Prop
  | .un => True
  | .row => ∃ r, ro = some r ∧ o = some (.ref r)
  | .sh d => ∃ v, o = some v ∧ R K (cSh w) H d v
  | .fr d => ∃ v, o = some v ∧ R K (cFr H0 w) H d v
  | .ow d => OwAt K H0 w H n d o
  | .dp d => ∃ v, o = some v ∧ R K (fun a => w a = some (n + 1)) H d v
  | .st _ => False
  | .wk _ => False
def EnvS : Nat → List (Option V) → List Sl → Prop
  | _, [], [] => True
  | n, o :: σ, s :: ρ => SlS K ro H0 w H n o s ∧ EnvS (n + 1) σ ρ
  | _, _, _ => False
end
abbrev Gh := List (D × V × Bool)
structure Env (K : PySem.W.Frag) (ro : Option Addr) (H0 H : Hp) (w : Addr → Option Nat) (γ : Gh) (σ : L2.St) (ρ : List Sl) : Prop where
  dom : ∀ a n, w a = some n → H a ≠ none
  loc : ∀ a n, w a = some (n + 1) → H0 a = none
  row : ∀ r, ro = some r → w r = some 0 ∧ RowOk K H r ∧ H0 r ≠ none
  ext : Ext K ro H0 H
  sl : EnvS K ro H0 w H 0 σ ρ
  gh : ∀ p ∈ γ, R K (if p.2.2 = true then cFr H0 w else cSh w) H p.1 p.2.1
def wSet (w : Addr → Option Nat) (a : Addr) (o : Option Nat) : Addr → Option Nat := fun b => if b = a then o else w b
section
variable {K : PySem.W.Frag} {ro : Option Addr} {H0 H H' : Hp} {w w' : Addr → Option Nat} {γ : Gh} {σ : L2.St} {ρ : List Sl}
theorem EnvS.at : ∀ {σ : List (Option V)} {ρ : List Sl} {n i : Nat}, EnvS K ro H0 w H n σ ρ → slAt ρ i ≠ .un → ∃ o, σ[i]? = some o ∧ SlS K ro H0 w H (n + i) o (slAt ρ i)
  | [], [], _, _, _, h => absurd rfl h
  | o :: _, s :: _, n, 0, h, _ => ⟨o, rfl, h.1⟩
  | _ :: _, _ :: _, n, i + 1, h, q => by
    obtain ⟨o, h1, h2⟩ := EnvS.at (i := i) h.2 q
    exact ⟨o, h1, by rw [show n + (i + 1) = n + 1 + i by omega]; exact h2⟩
  | [], _ :: _, _, _, h, _ => h.elim
  | _ :: _, [], _, _, h, _ => h.elim
theorem EnvS.put {o : Option V} {s : Sl} : ∀ {σ : List (Option V)} {ρ : List Sl} {n i : Nat}, SlS K ro H0 w H (n + i) o s → EnvS K ro H0 w H n σ ρ → EnvS K ro H0 w H n (σ.set i o) (slPut ρ i s)
  | [], [], _, _, _, _ => trivial
  | _ :: _, _ :: _, _, 0, hs, h => ⟨hs, h.2⟩
  | _ :: _, _ :: _, n, i + 1, hs, h => ⟨h.1, EnvS.put (i := i) (by rw [show n + 1 + i = n + (i + 1) by omega]; exact hs) h.2⟩
  | [], _ :: _, _, _, _, h => h.elim
  | _ :: _, [], _, _, _, h => h.elim
theorem EnvS.map (f : ∀ n o s, SlS K ro H0 w H n o s → SlS K ro H0 w' H' n o s) : ∀ {σ : List (Option V)} {ρ : List Sl} {n : Nat}, EnvS K ro H0 w H n σ ρ → EnvS K ro H0 w' H' n σ ρ
  | [], [], _, _ => trivial
  | _ :: _, _ :: _, _, h => ⟨f _ _ _ h.1, EnvS.map f h.2⟩
  | [], _ :: _, _, h => h.elim
  | _ :: _, [], _, h => h.elim
/-- for all slots but one -/
theorem EnvS.but {o : Option V} {s : Sl} : ∀ {σ : List (Option V)} {ρ : List Sl} {n i : Nat}, (∀ k o s, k ≠ n + i → SlS K ro H0 w H k o s → SlS K ro H0 w' H' k o s) → SlS K ro H0 w' H' (n + i) o s → EnvS K ro H0 w H n σ ρ → EnvS K ro H0 w' H' n (σ.set i o) (slPut ρ i s)
  | [], [], _, _, _, _, _ => trivial
  | o' :: σ, s' :: ρ, n, 0, f, hs, h => by
    refine ⟨hs, ?_⟩
    have key : ∀ {σ : List (Option V)} {ρ : List Sl} {m : Nat}, n < m → EnvS K ro H0 w H m σ ρ → EnvS K ro H0 w' H' m σ ρ := by
      intro σ
      induction σ with
      | nil => intro ρ m hm h; cases ρ with
        | nil => trivial
        | cons _ _ => exact h.elim
      | cons o σ ih => intro ρ m hm h; cases ρ with
        | nil => exact h.elim
        | cons s ρ => exact ⟨f m o s (by omega) h.1, ih (by omega) h.2⟩
    exact key (Nat.lt_succ_self n) h.2
  | o' :: σ, s' :: ρ, n, i + 1, f, hs, h => ⟨f n _ _ (by omega) h.1, EnvS.but (i := i) (fun k o s hk => f k o s (by omega)) (by rw [show n + 1 + i = n + (i + 1) by omega]; exact hs) h.2⟩
  | [], _ :: _, _, _, _, _, h => h.elim
  | _ :: _, [], _, _, _, _, h => h.elim
/-! a mode's classes -/
def cW (ro : Option Addr) (a : Addr) : Prop := ro ≠ some a
def cA (H0 : Hp) (w : Addr → Option Nat) (H : Hp) : Md → Addr → Prop
  | .sh, a => w a = none
  | .fr, a => w a = none ∧ H0 a = none
  | .nw, a => H a = none
  | .rt, a => H0 a = none
theorem Env.none0 (e : Env K ro H0 H w γ σ ρ) {a : Addr} (h : H a = none) : H0 a = none := by
  cases q : H0 a with
  | none => rfl
  | some o =>
    by_cases c : ro = some a
    · obtain ⟨xs, z⟩ := row_at (e.row a c).2.1
      rw [h] at z; cases z
    · rw [e.ext.keep a o c q] at h; cases h
theorem Env.noneW (e : Env K ro H0 H w γ σ ρ) {a : Addr} (h : H a = none) : w a = none := by
  cases q : w a with
  | none => rfl
  | some n => exact absurd h (e.dom a n q)
theorem Env.gd (e : Env K ro H0 H w γ σ ρ) (m : Md) : Gd K ro (cW ro) (cA H0 w H m) H where
  nw := fun a h => by
    cases m with
    | sh => exact e.noneW h
    | fr => exact ⟨e.noneW h, e.none0 h⟩
    | nw => exact h
    | rt => exact e.none0 h
  aw := fun a h c => by
    obtain ⟨h1, h2, h3⟩ := e.row a c
    cases m with
    | sh => exact absurd (h1.symm.trans h) (fun z => by cases z)
    | fr => exact absurd (h1.symm.trans h.1) (fun z => by cases z)
    | nw => obtain ⟨xs, z⟩ := row_at h2; exact absurd (z.symm.trans h) (fun z => by cases z)
    | rt => exact h3 h
  row := fun r c => ⟨(e.row r c).2.1, fun z => z c⟩
theorem Env.cw (e : Env K ro H0 H w γ σ ρ) {a : Addr} (h : w a ≠ some 0) : cW ro a := fun c => h (e.row a c).1
theorem Env.envA (e : Env K ro H0 H w γ σ ρ) (m : Md) : EnvA K ro (cW ro) (cA H0 w H m) m H σ ρ := by
  have key : ∀ n o s, SlS K ro H0 w H n o s → SlA K ro (cW ro) (cA H0 w H m) m H o s := by
    intro n o s h
    have c1 : ∀ a, cSh w a → cW ro a := fun a (z : w a = none) => e.cw (by rw [z]; intro c; cases c)
    have c2 : ∀ a, cFr H0 w a → cW ro a := fun a z => c1 a z.1
    cases s with
    | un => exact SlA.un
    | row =>
      obtain ⟨r, h1, h2⟩ := h
      exact ⟨fun d q => (nomatch q), fun _ => ⟨r, h1, h2⟩⟩
    | sh d =>
      obtain ⟨v, h1, h2⟩ := h
      refine ⟨fun d' q => ?_, fun q => (nomatch q)⟩
      cases q
      refine ⟨v, h1, h2.imp c1, fun c => ?_⟩
      cases m <;> first | exact h2 | cases c
    | fr d =>
      obtain ⟨v, h1, h2⟩ := h
      refine ⟨fun d' q => ?_, fun q => (nomatch q)⟩
      cases q
      refine ⟨v, h1, h2.imp c2, fun c => ?_⟩
      cases m with
      | sh => exact h2.imp fun a z => z.1
      | fr => exact h2
      | nw => cases c
      | rt => exact h2.imp fun a z => z.2
    | ow d =>
      obtain ⟨a, rfl, h1, h2⟩ := h
      refine ⟨fun d' q => ?_, fun q => (nomatch q)⟩
      cases q
      have ca : cW ro a := e.cw (by rw [h1]; intro c; cases c)
      refine ⟨_, rfl, ?_, fun c => ?_⟩
      · rcases h2 with ⟨xs, vs, rfl, h3, h4⟩ | ⟨es, ws, rfl, h3, h4⟩
        · exact ⟨a, vs, rfl, ca, h3, h4.imp c2⟩
        · exact ⟨a, ws, rfl, ca, h3, h4.go (fun a z _ => c2 a z) (fun _ _ _ z => z) (fun _ _ z => z)⟩
      · cases m with
        | sh => cases c
        | fr => cases c
        | nw => cases c
        | rt =>
          rcases h2 with ⟨xs, vs, rfl, h3, h4⟩ | ⟨es, ws, rfl, h3, h4⟩
          · exact ⟨a, vs, rfl, e.loc a n h1, h3, h4.imp fun a z => z.2⟩
          · exact ⟨a, ws, rfl, e.loc a n h1, h3, h4.go (fun a z _ => z.2) (fun _ _ _ z => z) (fun _ _ z => z)⟩
    | dp d =>
      obtain ⟨v, h1, h2⟩ := h
      refine ⟨fun d' q => ?_, fun q => (nomatch q)⟩
      cases q
      refine ⟨v, h1, h2.imp fun a z => e.cw (by rw [z]; intro c; cases c), fun c => ?_⟩
      cases m with
      | sh => cases c
      | fr => cases c
      | nw => cases c
      | rt => exact h2.imp fun a z => e.loc a n z
    | st d => exact h.elim
    | wk d => exact h.elim
  have go : ∀ {σ : List (Option V)} {ρ : List Sl} {n : Nat}, EnvS K ro H0 w H n σ ρ → EnvA K ro (cW ro) (cA H0 w H m) m H σ ρ := by
    intro σ
    induction σ with
    | nil => intro ρ n h; cases ρ with
      | nil => trivial
      | cons _ _ => exact h.elim
    | cons o σ ih => intro ρ n h; cases ρ with
      | nil => exact h.elim
      | cons s ρ => exact ⟨key n o s h.1, ih h.2⟩
  exact go e.sl
/-! classes and heap change -/
theorem SlS.tr {n : Nat} (h1 : ∀ b, w b = none → H b ≠ none → w' b = none) (h2 : ∀ b, w b = some (n + 1) → w' b = some (n + 1)) (hk : ∀ b o, (w b = none ∨ w b = some (n + 1)) → H b = some o → H' b = some o) (hT : ∀ a vs, SqT K H a vs → SqT K H' a vs) (o : Option V) (s : Sl) (h : SlS K ro H0 w H n o s) : SlS K ro H0 w' H' n o s := by
  cases s with
  | un => trivial
  | row => exact h
  | sh d =>
    obtain ⟨v, e1, e2⟩ := h
    exact ⟨v, e1, e2.go (fun a z q => h1 a z q) (fun a o z => hk a o (.inl z)) hT⟩
  | fr d =>
    obtain ⟨v, e1, e2⟩ := h
    exact ⟨v, e1, e2.go (fun a z q => ⟨h1 a z.1 q, z.2⟩) (fun a o z => hk a o (.inl z.1)) hT⟩
  | ow d =>
    obtain ⟨a, e0, e1, e2⟩ := h
    refine ⟨a, e0, h2 a e1, ?_⟩
    rcases e2 with ⟨xs, vs, rfl, h3, h4⟩ | ⟨es, ws, rfl, h3, h4⟩
    · exact .inl ⟨xs, vs, rfl, hk a _ (.inr e1) h3, h4.go (fun a z q => ⟨h1 a z.1 q, z.2⟩) (fun a o z => hk a o (.inl z.1)) hT⟩
    · exact .inr ⟨es, ws, rfl, hk a _ (.inr e1) h3, h4.go (fun a z q => ⟨h1 a z.1 q, z.2⟩) (fun a o z => hk a o (.inl z.1)) hT⟩
  | dp d =>
    obtain ⟨v, e1, e2⟩ := h
    exact ⟨v, e1, e2.go (fun a z q => h2 a z) (fun a o z => hk a o (.inr z)) hT⟩
  | st d => exact h.elim
  | wk d => exact h.elim
theorem gh_tr {p : D × V × Bool} (h1 : ∀ b, w b = none → H b ≠ none → w' b = none) (hk : ∀ b o, w b = none → H b = some o → H' b = some o) (hT : ∀ a vs, SqT K H a vs → SqT K H' a vs) (h : R K (if p.2.2 = true then cFr H0 w else cSh w) H p.1 p.2.1) : R K (if p.2.2 = true then cFr H0 w' else cSh w') H' p.1 p.2.1 := by
  cases q : p.2.2 with
  | true =>
    rw [q, if_pos rfl] at h
    rw [if_pos rfl]
    exact h.go (fun a z q => ⟨h1 a z.1 q, z.2⟩) (fun a o z => hk a o z.1) hT
  | false =>
    rw [q, if_neg Bool.false_ne_true] at h
    rw [if_neg Bool.false_ne_true]
    exact h.go (fun a z q => h1 a z q) (fun a o z => hk a o z) hT
theorem SlS.ext (e : Env K ro H0 H w γ σ ρ) (x : Ext K ro H H') (n : Nat) (o : Option V) (s : Sl) (h : SlS K ro H0 w H n o s) : SlS K ro H0 w H' n o s :=
  SlS.tr (fun _ z _ => z) (fun _ z => z) (fun b o z => x.keep b o (e.cw (by rcases z with z | z <;> (rw [z]; intro c; cases c)))) ((e.gd .sh).sqt x) o s h
theorem Env.go (e : Env K ro H0 H w γ σ ρ) (x : Ext K ro H H') : Env K ro H0 H' w γ σ ρ where
  dom := fun a n h => by
    intro c
    have h1 := e.dom a n h
    cases q : H a with
    | none => exact h1 q
    | some o =>
      by_cases c2 : ro = some a
      · obtain ⟨xs, z⟩ := row_at (x.row a c2 (e.row a c2).2.1)
        rw [c] at z; cases z
      · rw [x.keep a o c2 q] at c; cases c
  loc := e.loc
  row := fun r c => ⟨(e.row r c).1, x.row r c (e.row r c).2.1, (e.row r c).2.2⟩
  ext := e.ext.trans x
  sl := EnvS.map (SlS.ext e x) e.sl
  gh := fun p hp => gh_tr (fun _ z _ => z) (fun b o z => x.keep b o (e.cw (by rw [z]; intro c; cases c))) ((e.gd .sh).sqt x) (e.gh p hp)
/-! a slot is set -/
theorem Env.setFr (e : Env K ro H0 H w γ σ ρ) {i : Nat} {d : D} {v : V} (h : R K (cFr H0 w) H d v) : Env K ro H0 H w γ (σ.set i (some v)) (slPut ρ i (.fr d)) :=
  ⟨e.dom, e.loc, e.row, e.ext, EnvS.put (s := .fr d) ⟨v, rfl, h⟩ e.sl, e.gh⟩
theorem Env.setSh (e : Env K ro H0 H w γ σ ρ) {i : Nat} {d : D} {v : V} (h : R K (cSh w) H d v) : Env K ro H0 H w γ (σ.set i (some v)) (slPut ρ i (.sh d)) :=
  ⟨e.dom, e.loc, e.row, e.ext, EnvS.put (s := .sh d) ⟨v, rfl, h⟩ e.sl, e.gh⟩
theorem wSet_same {a : Addr} {o : Option Nat} : wSet w a o a = o := by unfold wSet; rw [if_pos rfl]
theorem wSet_ne {a b : Addr} {o : Option Nat} (h : b ≠ a) : wSet w a o b = w b := by unfold wSet; rw [if_neg h]
/-- a new thing of slot i's own -/
theorem Env.setOw (e : Env K ro H0 H w γ σ ρ) (x : Ext K ro H H') {i : Nat} {a : Addr} {d : D} (ha : H a = none) (hd : OwAt K H0 (wSet w a (some (i + 1))) H' i d (some (.ref a))) : Env K ro H0 H' (wSet w a (some (i + 1))) γ (σ.set i (some (.ref a))) (slPut ρ i (.ow d)) := by
  have e' := e.go x
  have hne : ∀ b, H b ≠ none → b ≠ a := fun b hb c => hb (by rw [c]; exact ha)
  have wne : ∀ b n, w b = some n → b ≠ a := fun b n hb => hne b (e.dom b n hb)
  refine ⟨fun b n hb => ?_, fun b n hb => ?_, fun r c => ?_, e'.ext, EnvS.but (s := .ow d) (fun k o s hk hs => SlS.tr (fun b z q => by rw [wSet_ne (hne b q)]; exact z) (fun b z => by rw [wSet_ne (wne b _ z)]; exact z) (fun b o z => x.keep b o (e.cw (by rcases z with z | z <;> (rw [z]; intro c; cases c)))) ((e.gd .sh).sqt x) o s hs) (by rw [Nat.zero_add]; exact hd) e.sl, fun p hp => gh_tr (fun b z q => by rw [wSet_ne (hne b q)]; exact z) (fun b o z => x.keep b o (e.cw (by rw [z]; intro c; cases c))) ((e.gd .sh).sqt x) (e.gh p hp)⟩
  · by_cases c : b = a
    · rw [c]
      obtain ⟨a', q, _, h⟩ := hd
      cases q
      intro c2
      rcases h with ⟨_, _, _, h, _⟩ | ⟨_, _, _, h, _⟩ <;> (rw [c2] at h; cases h)
    · rw [wSet_ne c] at hb
      exact e'.dom b n hb
  · by_cases c : b = a
    · rw [c]; exact e.none0 ha
    · rw [wSet_ne c] at hb
      exact e.loc b n hb
  · rw [wSet_ne (wne r 0 (e.row r c).1)]
    exact e'.row r c
/-- whatever is new is slot i's own -/
def wNew (w : Addr → Option Nat) (H H' : Hp) (i : Nat) : Addr → Option Nat := fun a => match H a, H' a with
  | none, some _ => some (i + 1)
  | _, _ => w a
theorem wNew_old {i : Nat} {a : Addr} (h : H a ≠ none) : wNew w H H' i a = w a := by
  unfold wNew
  cases q : H a with
  | none => exact absurd q h
  | some o => rfl
theorem wNew_new {i : Nat} {a : Addr} (h : H a = none) (h' : H' a ≠ none) : wNew w H H' i a = some (i + 1) := by
  unfold wNew
  rw [h]
  cases q : H' a with
  | none => exact absurd q h'
  | some o => rfl
theorem wNew_none {i : Nat} {a : Addr} (h : H a = none) (h' : H' a = none) : wNew w H H' i a = w a := by
  unfold wNew
  rw [h, h']
theorem Env.setDp (e : Env K ro H0 H w γ σ ρ) (x : Ext K ro H H') {i : Nat} {d : D} {v : V} (hd : R K (fun a => H a = none) H' d v) : Env K ro H0 H' (wNew w H H' i) γ (σ.set i (some v)) (slPut ρ i (.dp d)) := by
  have e' := e.go x
  have wo : ∀ b n, w b = some n → wNew w H H' i b = some n := fun b n hb => by rw [wNew_old (e.dom b n hb)]; exact hb
  have wn : ∀ b, w b = none → H b ≠ none → wNew w H H' i b = none := fun b z q => by rw [wNew_old q]; exact z
  refine ⟨fun b n hb => ?_, fun b n hb => ?_, fun r c => ?_, e'.ext, EnvS.but (s := .dp d) (fun k o s hk hs => SlS.tr wn (fun b z => wo b _ z) (fun b o z => x.keep b o (e.cw (by rcases z with z | z <;> (rw [z]; intro c; cases c)))) ((e.gd .sh).sqt x) o s hs) ⟨v, rfl, hd.go (fun a z q => by rw [wNew_new z q, Nat.zero_add]) (fun _ _ _ z => z) (fun _ _ z => z)⟩ e.sl, fun p hp => gh_tr wn (fun b o z => x.keep b o (e.cw (by rw [z]; intro c; cases c))) ((e.gd .sh).sqt x) (e.gh p hp)⟩
  · by_cases c : H b = none
    · by_cases c' : H' b = none
      · rw [wNew_none c c'] at hb
        exact e'.dom b n hb
      · exact c'
    · rw [wNew_old c] at hb
      exact e'.dom b n hb
  · by_cases c : H b = none
    · exact e.none0 c
    · rw [wNew_old c] at hb
      exact e.loc b n hb
  · exact ⟨wo r 0 (e.row r c).1, (e'.row r c).2⟩
theorem set_self {α : Type} : ∀ {l : List α} {i : Nat} {x : α}, l[i]? = some x → l.set i x = l
  | _ :: _, 0, _, h => by cases h; rfl
  | y :: l, i + 1, x, h => by
    show y :: l.set i x = y :: l
    rw [set_self (i := i) (by simpa using h)]
theorem sqt_upd {a p : Addr} {u o : HO} {vs : List V} (h : SqT K H a vs) (hp : H p = some u) (hu : (∃ xs, u = .lst xs) ∨ ∃ xs, u = .dK xs) : SqT K (upd H p o) a vs := by
  rcases hu with ⟨xs, rfl⟩ | ⟨xs, rfl⟩
  · exact upd_lst_t h hp
  · exact h.imp (fun h => upd_rd h hp (by intro z; cases z) (by intro _ z; cases z)) id
/-- what slot i owns is changed -/
theorem Env.mutOw (e : Env K ro H0 H w γ σ ρ) {i : Nat} {a : Addr} {d : D} {u o : HO} (hw : w a = some (i + 1)) (hσ : σ[i]? = some (some (.ref a))) (hu : H a = some u) (hk : (∃ xs, u = .lst xs) ∨ ∃ xs, u = .dK xs) (hd : OwAt K H0 w (upd H a o) i d (some (.ref a))) : Env K ro H0 (upd H a o) w γ σ (slPut ρ i (.ow d)) := by
  have k1 : ∀ b o', (w b ≠ some (i + 1)) → H b = some o' → upd H a o b = some o' := fun b o' hb h => by rw [upd_ne (fun c => hb (by rw [c]; exact hw))]; exact h
  have hT : ∀ a' vs, SqT K H a' vs → SqT K (upd H a o) a' vs := fun a' vs z => sqt_upd z hu hk
  have q := EnvS.but (K := K) (ro := ro) (H0 := H0) (w := w) (w' := w) (H := H) (H' := upd H a o) (σ := σ) (ρ := ρ) (n := 0) (i := i) (o := some (.ref a)) (s := .ow d)
    (fun k o' s hk' hs => SlS.tr (fun b z q => z) (fun b z => z) (fun b o'' z => k1 b o'' (by
      rcases z with z | z
      · rw [z]; intro c; cases c
      · rw [z]; intro c; apply hk'; have := Option.some.inj c; omega)) hT o' s hs) (by rw [Nat.zero_add]; exact hd) e.sl
  rw [set_self hσ] at q
  refine ⟨fun b n hb => ?_, e.loc, fun r c => ⟨(e.row r c).1, ?_, (e.row r c).2.2⟩, ⟨fun b o' n h => ?_, fun r c hr => ?_⟩, q, fun p hp => gh_tr (fun b z q => z) (fun b o z => k1 b o (by rw [z]; intro c; cases c)) hT (e.gh p hp)⟩
  · by_cases c : b = a
    · rw [c, upd_same]; intro c; cases c
    · rw [upd_ne c]; exact e.dom b n hb
  · have ne : a ≠ r := fun c2 => by have := (e.row r c).1; rw [← c2, hw] at this; cases this
    exact row_mut (e.row r c).2.1 hu (fun ob v z => by rcases hk with ⟨xs, rfl⟩ | ⟨xs, rfl⟩ <;> cases z) ne
  · have h0 := e.loc a i hw
    rw [upd_ne (ne_of_none h h0)]
    exact e.ext.keep b o' n h
  · have ne : a ≠ r := fun c2 => by have := (e.row r c).1; rw [← c2, hw] at this; cases this
    exact row_mut (e.row r c).2.1 hu (fun ob v z => by rcases hk with ⟨xs, rfl⟩ | ⟨xs, rfl⟩ <;> cases z) ne
/-- what slot i owns is changed; no more is told of it -/
theorem Env.mutUn (e : Env K ro H0 H w γ σ ρ) {i : Nat} {a : Addr} {x : Option V} {u o : HO} (hw : w a = some (i + 1)) (hσ : σ[i]? = some x) (hu : H a = some u) (hk : (∃ xs, u = .lst xs) ∨ ∃ xs, u = .dK xs) : Env K ro H0 (upd H a o) w γ σ (slPut ρ i .un) := by
  have k1 : ∀ b o', (w b ≠ some (i + 1)) → H b = some o' → upd H a o b = some o' := fun b o' hb h => by rw [upd_ne (fun c => hb (by rw [c]; exact hw))]; exact h
  have hT : ∀ a' vs, SqT K H a' vs → SqT K (upd H a o) a' vs := fun a' vs z => sqt_upd z hu hk
  have q := EnvS.but (K := K) (ro := ro) (H0 := H0) (w := w) (w' := w) (H := H) (H' := upd H a o) (σ := σ) (ρ := ρ) (n := 0) (i := i) (o := x) (s := .un)
    (fun k o' s hk' hs => SlS.tr (fun b z q => z) (fun b z => z) (fun b o'' z => k1 b o'' (by
      rcases z with z | z
      · rw [z]; intro c; cases c
      · rw [z]; intro c; apply hk'; have := Option.some.inj c; omega)) hT o' s hs) trivial e.sl
  rw [set_self hσ] at q
  refine ⟨fun b n hb => ?_, e.loc, fun r c => ⟨(e.row r c).1, ?_, (e.row r c).2.2⟩, ⟨fun b o' n h => ?_, fun r c hr => ?_⟩, q, fun p hp => gh_tr (fun b z q => z) (fun b o z => k1 b o (by rw [z]; intro c; cases c)) hT (e.gh p hp)⟩
  · by_cases c : b = a
    · rw [c, upd_same]; intro c; cases c
    · rw [upd_ne c]; exact e.dom b n hb
  · have ne : a ≠ r := fun c2 => by have := (e.row r c).1; rw [← c2, hw] at this; cases this
    exact row_mut (e.row r c).2.1 hu (fun ob v z => by rcases hk with ⟨xs, rfl⟩ | ⟨xs, rfl⟩ <;> cases z) ne
  · have h0 := e.loc a i hw
    rw [upd_ne (ne_of_none h h0)]
    exact e.ext.keep b o' n h
  · have ne : a ≠ r := fun c2 => by have := (e.row r c).1; rw [← c2, hw] at this; cases this
    exact row_mut (e.row r c).2.1 hu (fun ob v z => by rcases hk with ⟨xs, rfl⟩ | ⟨xs, rfl⟩ <;> cases z) ne
/-- what slot i owns is shared from now on -/
theorem Env.share (e : Env K ro H0 H w γ σ ρ) {i : Nat} {d : D} (hs : slAt ρ i = .ow d) : ∃ a, σ[i]? = some (some (.ref a)) ∧ w a = some (i + 1) ∧ Env K ro H0 H (wSet w a none) γ σ (slPut ρ i (.fr d)) ∧ R K (cFr H0 (wSet w a none)) H d (.ref a) := by
  obtain ⟨o, h1, h2⟩ := e.sl.at (i := i) (by rw [hs]; intro c; cases c)
  rw [hs, Nat.zero_add] at h2
  obtain ⟨a, rfl, hw, hd⟩ := h2
  have n1 : ∀ b, w b = none → wSet w a none b = none := fun b z => by
    by_cases c : b = a
    · rw [c, wSet_same]
    · rw [wSet_ne c]; exact z
  have r1 : R K (cFr H0 (wSet w a none)) H d (.ref a) := by
    rcases hd with ⟨xs, vs, rfl, h3, h4⟩ | ⟨es, ws, rfl, h3, h4⟩
    · exact ⟨a, vs, rfl, ⟨wSet_same, e.loc a i hw⟩, h3, h4.imp fun b z => ⟨n1 b z.1, z.2⟩⟩
    · exact ⟨a, ws, rfl, ⟨wSet_same, e.loc a i hw⟩, h3, h4.go (fun b z _ => ⟨n1 b z.1, z.2⟩) (fun _ _ _ z => z) (fun _ _ z => z)⟩
  have q := EnvS.but (K := K) (ro := ro) (H0 := H0) (w := w) (w' := wSet w a none) (H := H) (H' := H) (σ := σ) (ρ := ρ) (n := 0) (i := i) (o := some (.ref a)) (s := .fr d)
    (fun k o' s hk' hs => SlS.tr (fun b z q => n1 b z) (fun b z => by rw [wSet_ne (fun c => hk' (by rw [c, hw] at z; have := Option.some.inj z; omega))]; exact z) (fun b o z h => h) (fun _ _ z => z) o' s hs) ⟨_, rfl, r1⟩ e.sl
  rw [set_self h1] at q
  refine ⟨a, h1, hw, ⟨fun b n hb => ?_, fun b n hb => ?_, fun r c => ?_, e.ext, q, fun p hp => gh_tr (fun b z q => n1 b z) (fun b o z h => h) (fun _ _ z => z) (e.gh p hp)⟩, r1⟩
  · by_cases c : b = a
    · rw [c, wSet_same] at hb; cases hb
    · rw [wSet_ne c] at hb; exact e.dom b n hb
  · by_cases c : b = a
    · rw [c, wSet_same] at hb; cases hb
    · rw [wSet_ne c] at hb; exact e.loc b n hb
  · have ne : r ≠ a := fun c2 => by have := (e.row r c).1; rw [c2, hw] at this; cases this
    rw [wSet_ne ne]
    exact e.row r c
end
/-! ### statements -/
structure KS where
  kd : Nat → Kd
  nx : List Sl → Prop
  rt : D → Prop
  er : Err → Prop
  bk : List Sl → Prop
  ct : List Sl → Prop
abbrev DS := KS → List Sl → Prop
structure Ma (K : PySem.W.Frag) (XE : XK) (ro : Option Addr) (H0 : Hp) (γ : Gh) (κ : KS) (N : Ends) : Prop where
  nx : ∀ σ ρ H w, Env K ro H0 H w γ σ ρ → κ.nx ρ → N.nx σ H
  bk : ∀ σ ρ H w, Env K ro H0 H w γ σ ρ → κ.bk ρ → N.bk σ H
  ct : ∀ σ ρ H w, Env K ro H0 H w γ σ ρ → κ.ct ρ → N.ct σ H
  rt : ∀ d v H, κ.rt d → Ext K ro H0 H → R K (fun a => H0 a = none) H d v → N.rt v H
  er : ∀ e cls od H, κ.er e → Ext K ro H0 H → ErrAt K H e cls od → XE cls od H
class OkS (K : PySem.W.Frag) (XE : XK) (ts : TS) (ds : outParam DS) : Prop where
  ok : ∀ {ro H0 γ H w σ ρ κ} {N : Ends}, Env K ro H0 H w γ σ ρ → Ma K XE ro H0 γ κ N → ds κ ρ → ts N σ H
section
variable {K : PySem.W.Frag} {XE : XK} {ta tb tc te : TE} {da db dc de : DE} {tt tu : TT} {dt du : DT} {tr : TA} {dr : DA} {t u : TS} {ds dz : DS}
theorem Ma.xo {ro : Option Addr} {H0 H : Hp} {γ : Gh} {κ : KS} {N : Ends} {w : Addr → Option Nat} {σ : L2.St} {ρ : List Sl} (m : Ma K XE ro H0 γ κ N) (e : Env K ro H0 H w γ σ ρ) : XOk K ro κ.er H XE := fun c cls od H' h x r => m.er c cls od H' h (e.ext.trans x) r
/-- what follows, hidden until it is reached -/
def nxT (dz : DS) (κ : KS) : List Sl → Prop := fun ρ => dz κ ρ
def dSeq (ds dz : DS) : DS := fun κ ρ => ds { κ with nx := nxT dz κ } ρ
instance [h : OkS K XE t ds] [k : OkS K XE u dz] : OkS K XE (tSeq t u) (dSeq ds dz) := ⟨fun {ro H0 γ H w σ ρ κ N} e m hd => h.ok (κ := { κ with nx := fun ρ' => dz κ ρ' }) (N := { N with nx := u N }) e ⟨fun σ ρ H w e' hp => k.ok e' m hp, m.bk, m.ct, m.rt, m.er⟩ hd⟩
def dNext : DS := fun κ ρ => κ.nx ρ
instance : OkS K XE tNext dNext := ⟨fun e m hd => m.nx _ _ _ _ e hd⟩
def dBrk : DS := fun κ ρ => κ.bk ρ
instance : OkS K XE tBreak dBrk := ⟨fun e m hd => m.bk _ _ _ _ e hd⟩
def dCont : DS := fun κ ρ => κ.ct ρ
instance : OkS K XE tCont dCont := ⟨fun e m hd => m.ct _ _ _ _ e hd⟩
def dDrop (de : DE) : DS := fun κ ρ => de ρ .sh κ.er fun _ _ => κ.nx ρ
instance (priority := low) [h : OkE K XE te de] : OkS K XE (tDrop te) (dDrop de) := ⟨fun e m hd => h.ok (e.gd .sh) (e.envA .sh) (m.xo e) hd fun _ _ _ _ hP x _ => m.nx _ _ _ _ (e.go x) hP⟩
def dRet (de : DE) : DS := fun κ ρ => de ρ .rt κ.er fun d b => b = true ∧ κ.rt d
instance [h : OkE K XE te de] : OkS K XE (tRet te) (dRet de) := ⟨fun e m hd => h.ok (e.gd .rt) (e.envA .rt) (m.xo e) hd fun d b v H' hP x r => by
  obtain ⟨rfl, hP⟩ := hP
  exact m.rt d v H' hP (e.ext.trans x) r⟩
def dRetN : DS := fun κ _ => κ.rt .non
instance : OkS K XE tRetN dRetN := ⟨fun e m hd => m.rt .non .non _ hd e.ext rfl⟩
def dIfS (dt : DT) (ds dz : DS) : DS := fun κ ρ => dt ρ .sh κ.er fun c => if c = true then ds κ ρ else dz κ ρ
instance [h : OkT K XE tt dt] [k : OkS K XE t ds] [l : OkS K XE u dz] : OkS K XE (tIfS tt t u) (dIfS dt ds dz) := ⟨fun e m hd => h.ok (e.gd .sh) (e.envA .sh) (m.xo e) hd fun c H' hP x => by
  cases c with
  | true => exact k.ok (e.go x) m (by rwa [if_pos rfl] at hP)
  | false => rw [if_neg Bool.false_ne_true]; exact l.ok (e.go x) m (by rwa [if_neg Bool.false_ne_true] at hP)⟩
/-- a list or dict of flat things -/
def flatLD : D → Bool
  | .lst xs => flats xs
  | .dic es => es.all fun e => flat e.2
  | _ => false
theorem RK.flat {A B : Addr → Prop} {H : Hp} : ∀ {es : List (Key × D)} {ws : List (Key × V)}, (es.all fun e => Bk.flat e.2) = true → RK K A H es ws → RK K B H es ws
  | [], _, _, h => h
  | (k, d) :: es, _, c, h => by
    obtain ⟨v, ws, h1, h2, h3⟩ := h
    rw [List.all_cons, Bool.and_eq_true] at c
    exact ⟨v, ws, h1, h2.fl c.1, RK.flat c.2 h3⟩
def dAsg (i : Nat) (de : DE) : DS := fun κ ρ => match κ.kd i with
  | .fr => de ρ .fr κ.er fun d b => b = true ∧ κ.nx (slPut ρ i (.fr d))
  | .sh => de ρ .sh κ.er fun d b => b = true ∧ κ.nx (slPut ρ i (.sh d))
  | .ow => de ρ .nw κ.er fun d b => b = true ∧ flatLD d = true ∧ κ.nx (slPut ρ i (.ow d))
  | .dp => de ρ .nw κ.er fun d b => b = true ∧ κ.nx (slPut ρ i (.dp d))
instance {i : Nat} [h : OkE K XE te de] : OkS K XE (tAsg te (gName i)) (dAsg i de) := ⟨fun {ro H0 γ H w σ ρ κ N} e m hd => by
  unfold dAsg at hd
  cases q : κ.kd i with
  | fr =>
    rw [q] at hd
    exact h.ok (e.gd .fr) (e.envA .fr) (m.xo e) hd fun d b v H' hP x r => by
      obtain ⟨rfl, hP⟩ := hP
      exact m.nx _ _ _ _ ((e.go x).setFr r) hP
  | sh =>
    rw [q] at hd
    exact h.ok (e.gd .sh) (e.envA .sh) (m.xo e) hd fun d b v H' hP x r => by
      obtain ⟨rfl, hP⟩ := hP
      exact m.nx _ _ _ _ ((e.go x).setSh r) hP
  | ow =>
    rw [q] at hd
    exact h.ok (e.gd .nw) (e.envA .nw) (m.xo e) hd fun d b v H' hP x r => by
      obtain ⟨rfl, hf, hP⟩ := hP
      cases d with
      | lst xs =>
        obtain ⟨a, vs, rfl, ha, h3, h4⟩ := r
        exact m.nx _ _ _ _ (e.setOw (d := .lst xs) x ha ⟨a, rfl, wSet_same, .inl ⟨xs, vs, rfl, h3, h4.flat (fun _ _ z => z) _ _ hf⟩⟩) hP
      | dic es =>
        obtain ⟨a, ws, rfl, ha, h3, h4⟩ := r
        exact m.nx _ _ _ _ (e.setOw (d := .dic es) x ha ⟨a, rfl, wSet_same, .inr ⟨es, ws, rfl, h3, h4.flat hf⟩⟩) hP
      | _ => cases hf
  | dp =>
    rw [q] at hd
    exact h.ok (e.gd .nw) (e.envA .nw) (m.xo e) hd fun d b v H' hP x r => by
      obtain ⟨rfl, hP⟩ := hP
      exact m.nx _ _ _ _ (e.setDp x r) hP⟩
end
end Bk

/-! Data: statements, further. -/
namespace Bk
open PySem L2
section
variable {K : PySem.W.Frag} {XE : XK} {ta tb tc te : TE} {da db dc de : DE} {tt tu : TT} {dt du : DT} {tr : TA} {dr : DA} {t u : TS} {ds dz : DS}
/-! several names at once -/
def putF (ρ : List Sl) : List (Nat × D × Bool) → List Sl
  | [] => ρ
  | x :: xs => putF (slPut ρ x.1 (.fr x.2.1)) xs
theorem Env.putF {ro : Option Addr} {H0 H : Hp} {w : Addr → Option Nat} {γ : Gh} {W : Addr → Prop} : ∀ {us : List (Nat × D × Bool)} {vs : List (Nat × V)} {σ : L2.St} {ρ : List Sl}, Env K ro H0 H w γ σ ρ → RG K W (cFr H0 w) H us vs → (us.all fun u => u.2.2) = true → Env K ro H0 H w γ (setV σ vs) (Bk.putF ρ us)
  | [], _, _, _, e, r, _ => by cases r; exact e
  | (i, d, b) :: xs, _, σ, ρ, e, r, c => by
    obtain ⟨v, ws, rfl, h2, h3⟩ := r
    rw [List.all_cons, Bool.and_eq_true] at c
    obtain rfl : b = true := c.1
    exact Env.putF (σ := σ.set i (some v)) (ρ := slPut ρ i (.fr d)) (e.setFr h2) h3 c.2
def dAsgG (de : DE) (dg : DG) : DS := fun κ ρ => de ρ .fr κ.er fun d b => dg d b fun us => (us.all fun u => u.2.2) = true ∧ κ.nx (putF ρ us)
instance {n : Nat} {gs : TGs} {dg : DG} [h : OkE K XE te de] [k : OkG K (gTup K n gs) dg] : OkS K XE (tAsg te (gTup K n gs)) (dAsgG de dg) := ⟨fun {ro H0 γ H w σ ρ κ N} e m hd => h.ok (e.gd .fr) (e.envA .fr) (m.xo e) hd fun d b v H' hP x r =>
  k.ok r hP fun us vs hus rg => m.nx _ _ _ _ ((e.go x).putF rg hus.1) hus.2⟩
/-- x = y, y a thing of one's own: from now on both share it -/
def dAsgV (i j : Nat) : DS := fun κ ρ => match slAt ρ j with
  | .ow d => (match κ.kd i with
    | .fr => κ.nx (slPut (slPut ρ j (.fr d)) i (.fr d))
    | _ => False)
  | _ => dAsg i (dVar j) κ ρ
instance (priority := high) {i j : Nat} : OkS K XE (tAsg (tVar j) (gName i)) (dAsgV i j) := ⟨fun {ro H0 γ H w σ ρ κ N} e m hd => by
  unfold dAsgV at hd
  cases q : slAt ρ j with
  | ow d =>
    rw [q] at hd
    cases k : κ.kd i with
    | fr =>
      rw [k] at hd
      obtain ⟨a, h1, h2, h3, h4⟩ := e.share q
      exact ⟨.ref a, h1, m.nx _ _ _ _ (h3.setFr h4) hd⟩
    | sh => rw [k] at hd; exact hd.elim
    | ow => rw [k] at hd; exact hd.elim
    | dp => rw [k] at hd; exact hd.elim
  | un => rw [q] at hd; exact (inferInstance : OkS K XE (tAsg (tVar j) (gName i)) (dAsg i (dVar j))).ok e m hd
  | row => rw [q] at hd; exact (inferInstance : OkS K XE (tAsg (tVar j) (gName i)) (dAsg i (dVar j))).ok e m hd
  | sh _ => rw [q] at hd; exact (inferInstance : OkS K XE (tAsg (tVar j) (gName i)) (dAsg i (dVar j))).ok e m hd
  | fr _ => rw [q] at hd; exact (inferInstance : OkS K XE (tAsg (tVar j) (gName i)) (dAsg i (dVar j))).ok e m hd
  | dp _ => rw [q] at hd; exact (inferInstance : OkS K XE (tAsg (tVar j) (gName i)) (dAsg i (dVar j))).ok e m hd
  | st _ => rw [q] at hd; exact (inferInstance : OkS K XE (tAsg (tVar j) (gName i)) (dAsg i (dVar j))).ok e m hd
  | wk _ => rw [q] at hd; exact (inferInstance : OkS K XE (tAsg (tVar j) (gName i)) (dAsg i (dVar j))).ok e m hd⟩
/-- a written list whose items may be lists, of one's own -/
def dAsgL (i : Nat) (dr : DA) : DS := fun κ ρ => match κ.kd i with
  | .ow => dr ρ .fr κ.er fun ds => ds.length ≤ 1000 ∧ allB ds = true ∧ κ.nx (slPut ρ i (.ow (.lst (ds.map (·.1)))))
  | _ => dAsg i (dLst dr) κ ρ
theorem own_lst {ro : Option Addr} {H0 H : Hp} {w : Addr → Option Nat} {γ : Gh} {σ : L2.St} {ρ : List Sl} (e : Env K ro H0 H w γ σ ρ) {p : Addr} {i : Nat} {xs : List D} {vs : List V} (np : H p = none) (h : RL K (cFr H0 w) H xs vs) : Env K ro H0 (upd H p (.lst vs)) (wSet w p (some (i + 1))) γ (σ.set i (some (.ref p))) (slPut ρ i (.ow (.lst xs))) :=
  e.setOw (d := .lst xs) (Ext.new np) np ⟨p, rfl, wSet_same, .inl ⟨xs, vs, rfl, upd_same, h.go (fun a z q => ⟨by rw [wSet_ne (fun c => q (by rw [c]; exact np))]; exact z.1, z.2⟩) (fun a o z q => by rw [upd_ne (ne_of_none q np)]; exact q) (fun _ _ z => same_t (Same.new np) z)⟩⟩
instance (priority := high) {i : Nat} [h : OkA K XE tr dr] : OkS K XE (tAsg (tLst tr) (gName i)) (dAsgL i dr) := ⟨fun {ro H0 γ H w σ ρ κ N} e m hd => by
  unfold dAsgL at hd
  cases k : κ.kd i with
  | ow =>
    rw [k] at hd
    refine h.ok (e.gd .fr) (e.envA .fr) (m.xo e) hd fun ds vs H' hP x r => ⟨sz_of (by rw [r.len]; have := hP.1; omega), fun p np => ?_⟩
    have r2 := r.all ((e.gd .fr).ext x)
    rw [hP.2.1] at r2
    exact m.nx _ _ _ _ (own_lst (e.go x) np r2) hP.2.2
  | fr => rw [k] at hd; exact (inferInstance : OkS K XE (tAsg (tLst tr) (gName i)) (dAsg i (dLst dr))).ok e m hd
  | sh => rw [k] at hd; exact (inferInstance : OkS K XE (tAsg (tLst tr) (gName i)) (dAsg i (dLst dr))).ok e m hd
  | dp => rw [k] at hd; exact (inferInstance : OkS K XE (tAsg (tLst tr) (gName i)) (dAsg i (dLst dr))).ok e m hd⟩
/-! methods that change a list of one's own -/
class MbD (K : PySem.W.Frag) (rm : V → List V → Hp → VK → Prop) (f : outParam (List D → List (D × Bool) → (List D → Prop) → Prop)) : Prop where
  ok : ∀ {W B H a us xs ds vs P Q}, H a = some (.lst us) → RL K B H xs us → RLB K W B H ds vs → f xs ds P → (∀ xs' us' v, P xs' → RL K B H xs' us' → Q v (upd H a (.lst us'))) → rm (.ref a) vs H Q
def fAppend : List D → List (D × Bool) → (List D → Prop) → Prop := fun xs ds P => ∃ d, ds = [(d, true)] ∧ xs.length < 100000 ∧ P (xs ++ [d])
instance : MbD K rAppend fAppend := ⟨fun ha rx q h fin => by
  obtain ⟨d, rfl, hl, hP⟩ := h
  obtain ⟨v, rfl, r⟩ := q.one
  exact m_append ha (sz_lt (by rw [rx.len]; exact hl)) (fin _ _ _ hP (rx.app (RL.one r)))⟩
def fExtend : List D → List (D × Bool) → (List D → Prop) → Prop := fun xs ds P => ∃ ys, ds = [(.lst ys, true)] ∧ xs.length + ys.length ≤ 100000 ∧ P (xs ++ ys)
instance : MbD K rExtend fExtend := ⟨fun ha rx q h fin => by
  obtain ⟨ys, rfl, hl, hP⟩ := h
  obtain ⟨v, rfl, r⟩ := q.one
  obtain ⟨b, vs, rfl, hb, w⟩ := lst_items r
  exact m_extend ha hb (sz_of (by rw [rx.len, w.len]; exact hl)) (fin _ _ _ hP (rx.app w))⟩
def qInsert : V → List V → Hp → VK → Prop := fun x vs H Q => ∃ (l : Addr) (xs : List V) (i : Int) (y : V), x = .ref l ∧ vs = [.int i, y] ∧ H l = some (.lst xs) ∧ xs.length < sizeLine ∧ 0 ≤ i ∧ i < 2 ^ 63 ∧ Q .non (upd H l (.lst (xs.take i.toNat ++ [y] ++ xs.drop i.toNat)))
theorem mt_insertN {X : Cx} : MtR X "list.insert" qInsert := mt_insert
def fInsert : List D → List (D × Bool) → (List D → Prop) → Prop := fun xs ds P => ∃ i c d, ds = [(.int i, c), (d, true)] ∧ xs.length < 100000 ∧ 0 ≤ i ∧ i < 2 ^ 63 ∧ P (xs.take i.toNat ++ [d] ++ xs.drop i.toNat)
instance : MbD K qInsert fInsert := ⟨fun ha rx r h fin => by
  obtain ⟨i, c, d, rfl, hl, h1, h2, hP⟩ := h
  obtain ⟨v, v', rfl, r, r'⟩ := r.two
  obtain rfl := r
  exact ⟨_, _, i, v', rfl, rfl, ha, sz_lt (by rw [rx.len]; exact hl), h1, h2, fin _ _ _ hP (((rx.take _).app (RL.one r')).app (rx.drop _))⟩⟩
def dMut (i : Nat) (f : List D → List (D × Bool) → (List D → Prop) → Prop) (dr : DA) : DS := fun κ ρ => ∃ xs, slAt ρ i = .ow (.lst xs) ∧ dr ρ .fr κ.er fun ds => f xs ds fun xs' => κ.nx (slPut ρ i (.ow (.lst xs')))
theorem Env.own {ro : Option Addr} {H0 H : Hp} {w : Addr → Option Nat} {γ : Gh} {σ : L2.St} {ρ : List Sl} (e : Env K ro H0 H w γ σ ρ) {i : Nat} {xs : List D} (hi : slAt ρ i = .ow (.lst xs)) : ∃ a vs, σ[i]? = some (some (.ref a)) ∧ w a = some (i + 1) ∧ H a = some (.lst vs) ∧ RL K (cFr H0 w) H xs vs := by
  obtain ⟨o, h1, h2⟩ := e.sl.at (i := i) (by rw [hi]; intro c; cases c)
  rw [hi, Nat.zero_add] at h2
  obtain ⟨a, rfl, hw, h2⟩ := h2
  rcases h2 with ⟨xs', vs, q, h3, h4⟩ | ⟨es, ws, q, h3, h4⟩
  · cases q
    exact ⟨a, vs, h1, hw, h3, h4⟩
  · cases q
theorem Env.mutL {ro : Option Addr} {H0 H : Hp} {w : Addr → Option Nat} {γ : Gh} {σ : L2.St} {ρ : List Sl} (e : Env K ro H0 H w γ σ ρ) {i : Nat} {a : Addr} {xs : List D} {vs us : List V} (hσ : σ[i]? = some (some (.ref a))) (hw : w a = some (i + 1)) (ha : H a = some (.lst us)) (h : RL K (cFr H0 w) H xs vs) : Env K ro H0 (upd H a (.lst vs)) w γ σ (slPut ρ i (.ow (.lst xs))) :=
  e.mutOw hw hσ ha (.inl ⟨_, rfl⟩) ⟨a, rfl, hw, .inl ⟨xs, vs, rfl, upd_same, h.go (fun _ z _ => z) (fun b o z q => by rw [upd_ne (fun c => by rw [c] at z; have := z.1; rw [hw] at this; cases this)]; exact q) (fun _ _ z => sqt_upd z ha (.inl ⟨_, rfl⟩))⟩⟩
instance {rm : V → List V → Hp → VK → Prop} {f : List D → List (D × Bool) → (List D → Prop) → Prop} {i : Nat} [mb : MbD K rm f] [h : OkA K XE tr dr] : OkS K XE (tDrop (tBM K "list" rm (tVar i) tr)) (dMut i f dr) := ⟨fun {ro H0 γ H w σ ρ κ N} e m hd => by
  obtain ⟨xs, hi, hd⟩ := hd
  obtain ⟨a, vs, hσ, hw, ha, hr⟩ := e.own hi
  refine ⟨_, hσ, .inl ⟨rfl, vs, SqL.of ha⟩, h.ok (e.gd .fr) (e.envA .fr) (m.xo e) hd fun ds us H' hP x r => ?_⟩
  have e' := e.go x
  obtain ⟨a', vs', hσ', hw', ha', hr'⟩ := e'.own hi
  rw [hσ] at hσ'
  cases hσ'
  exact mb.ok ha' hr' r hP fun xs' us' v hp rr => m.nx _ _ _ _ (e'.mutL hσ hw' ha' rr) hp⟩
/-- a list inside a tuple of one's own is changed; no more is told of it -/
def dMutT (i : Nat) (z : Int) (f : List D → List (D × Bool) → (List D → Prop) → Prop) (dr : DA) : DS := fun κ ρ => ∃ xs ys, slAt ρ i = .dp (.tup xs) ∧ 0 ≤ z ∧ xs[z.toNat]? = some (.lst ys) ∧ dr ρ .sh κ.er fun ds => f ys ds fun _ => κ.nx (slPut ρ i .un)
theorem Env.ownT {ro : Option Addr} {H0 H : Hp} {w : Addr → Option Nat} {γ : Gh} {σ : L2.St} {ρ : List Sl} (e : Env K ro H0 H w γ σ ρ) {i n : Nat} {xs ys : List D} (hi : slAt ρ i = .dp (.tup xs)) (hn : xs[n]? = some (.lst ys)) : ∃ t us a vs, σ[i]? = some (some (.ref t)) ∧ SqT K H t us ∧ us[n]? = some (.ref a) ∧ w a = some (i + 1) ∧ H a = some (.lst vs) ∧ RL K (fun a => w a = some (i + 1)) H ys vs := by
  obtain ⟨o, h1, h2⟩ := e.sl.at (i := i) (by rw [hi]; intro c; cases c)
  rw [hi, Nat.zero_add] at h2
  obtain ⟨v, rfl, t, us, rfl, ht, hl⟩ := h2
  obtain ⟨u, hu, a, vs, rfl, hw, ha, hr⟩ := hl.at hn
  exact ⟨t, us, a, vs, h1, ht, hu, hw, ha, hr⟩
theorem RLB.any {W A : Addr → Prop} {H : Hp} : ∀ {ds : List (D × Bool)} {vs : List V}, RLB K W A H ds vs → RLB K (fun _ => True) (fun _ => True) H ds vs
  | [], _, h => h
  | x :: xs, _, h => by
    obtain ⟨v, ws, h1, h2, h3⟩ := h
    exact ⟨v, ws, h1, h2.imp fun _ _ => by cases x.2 <;> trivial, h3.any⟩
instance (priority := high) {rm : V → List V → Hp → VK → Prop} {f : List D → List (D × Bool) → (List D → Prop) → Prop} {i : Nat} {z : Int} [mb : MbD K rm f] [h : OkA K XE tr dr] : OkS K XE (tDrop (tBM K "list" rm (tOp (rIxT K) (tVar i) (tC (.int z))) tr)) (dMutT i z f dr) := ⟨fun {ro H0 γ H w σ ρ κ N} e m hd => by
  obtain ⟨xs, ys, hi, hz, hn, hd⟩ := hd
  obtain ⟨t, us, a, vs, hσ, ht, hu, hw, ha, hr⟩ := e.ownT hi hn
  have hat : atI us z = some (.ref a) := by
    have q := atI_nat hu
    rwa [show ((z.toNat : Nat) : Int) = z by omega] at q
  refine ⟨_, hσ, w_c (r_ixT ht hat ?_)⟩
  refine ⟨.inl ⟨rfl, vs, SqL.of ha⟩, h.ok (e.gd .sh) (e.envA .sh) (m.xo e) hd fun ds zs H' hP x r => ?_⟩
  have e' := e.go x
  have hσ' := hσ
  have ha' := x.keep a _ (fun c => by have := (e.row a c).1; rw [hw] at this; cases this) ha
  have hr' := ((e.gd .sh).rbs (b := false) x (RL.imp (B := sel (cW ro) (cA H0 w H .sh) false) (fun b (q : w b = some (i + 1)) => e.cw (by rw [q]; intro c; cases c)) hr))
  exact mb.ok (W := fun _ => True) (B := fun _ => True) ha' (hr'.imp fun _ _ => trivial) r.any hP fun xs' us' v hp _ => m.nx _ _ _ _ (e'.mutUn hw hσ ha' (.inl ⟨_, rfl⟩)) hp⟩
class Mb0D (K : PySem.W.Frag) (rm : V → List V → Hp → VK → Prop) (f : outParam (List D → List D)) : Prop where
  ok : ∀ {B H a us xs Q}, H a = some (.lst us) → RL K B H xs us → (∀ us' v, RL K B H (f xs) us' → Q v (upd H a (.lst us'))) → rm (.ref a) [] H Q
instance : Mb0D K rClear (fun _ => []) := ⟨fun ha rx fin => ⟨_, _, rfl, rfl, ha, fin [] _ rfl⟩⟩
def dMut0 (i : Nat) (f : List D → List D) : DS := fun κ ρ => ∃ xs, slAt ρ i = .ow (.lst xs) ∧ κ.nx (slPut ρ i (.ow (.lst (f xs))))
instance {rm : V → List V → Hp → VK → Prop} {f : List D → List D} {i : Nat} [mb : Mb0D K rm f] : OkS K XE (tDrop (tBM0 K "list" rm (tVar i))) (dMut0 i f) := ⟨fun {ro H0 γ H w σ ρ κ N} e m hd => by
  obtain ⟨xs, hi, hd⟩ := hd
  obtain ⟨a, vs, hσ, hw, ha, hr⟩ := e.own hi
  exact ⟨_, hσ, .inl ⟨rfl, vs, SqL.of ha⟩, mb.ok ha hr fun us' v rr => m.nx _ _ _ _ (e.mutL hσ hw ha rr) hd⟩⟩
/-! raise -/
def dRaise (C : Str) : DS := fun κ _ => κ.er (.plain C)
instance {C : Str} : OkS K XE (tRaiseOwn (He.ga K C) fun cls od _ H => XE cls od H) (dRaise C) := ⟨fun e m hd => m.er _ _ _ _ hd e.ext ⟨rfl, rfl⟩⟩
def dRaiseN (C f : Str) (dr : DA) : DS := fun κ ρ => dr ρ .fr κ.er fun ds => ∃ n b, ds = [(.int n, b)] ∧ κ.er (.num C f n)
class IsNum (K : PySem.W.Frag) (sp : Sp) (C : Str) (f : outParam Str) : Prop where
  out : sp = spNum K (He.ga K C) f
instance {C f : Str} {sp : Sp} [q : IsNum K sp C f] [h : OkA K XE tr dr] : OkS K XE (tRaiseO (He.ga K C) sp (fun cls od _ H => XE cls od H) tr) (dRaiseN C f dr) := ⟨fun {ro H0 γ H w σ ρ κ N} e m hd => by
  rw [q.out]
  refine w_raiseO (h.ok (e.gd .fr) (e.envA .fr) (m.xo e) hd fun ds vs H' hP x r => ?_)
  obtain ⟨n, b, rfl, hP⟩ := hP
  obtain ⟨v, rfl, r2⟩ := r.one
  obtain rfl := r2
  exact k_raiseO (f := f) (K := K) fun d H2 S hd => m.er _ _ _ _ hP ((e.ext.trans x).trans (Ext.of S)) ⟨rfl, d, rfl, hd⟩⟩
/-! for -/
def Md.isFr : Md → Bool
  | .fr => true
  | _ => false
def itS (m : Md) (d : D) : Sl := match m with
  | .fr => .fr d
  | _ => if flat d = true then .fr d else .sh d
def putI (m : Md) (ρ : List Sl) : List (Nat × D × Bool) → List Sl
  | [] => ρ
  | x :: xs => putI m (slPut ρ x.1 (itS m x.2.1)) xs
def dFor (di : DI) (dg : DG) (db : DS) : DS := fun κ ρ => ∃ m, (m = Md.sh ∨ m = Md.fr) ∧ di ρ m κ.er fun xs b => b = true ∧ ∃ I : Nat → List Sl → Prop, I 0 ρ ∧
  (∀ i x ρ', xs[i]? = some x → I i ρ' → dg x true fun us => (us.all fun u => u.2.2) = true ∧ db { κ with nx := I (i + 1), ct := I (i + 1), bk := κ.nx } (putI m ρ' us)) ∧ ∀ ρ', I xs.length ρ' → κ.nx ρ'
theorem Env.putI {ro : Option Addr} {H0 H : Hp} {w : Addr → Option Nat} {γ : Gh} {W : Addr → Prop} {m : Md} (hm : m = .sh ∨ m = .fr) : ∀ {us : List (Nat × D × Bool)} {vs : List (Nat × V)} {σ : L2.St} {ρ : List Sl}, Env K ro H0 H w γ σ ρ → RG K W (cA H0 w H m) H us vs → (us.all fun u => u.2.2) = true → Env K ro H0 H w γ (setV σ vs) (Bk.putI m ρ us)
  | [], _, _, _, e, r, _ => by cases r; exact e
  | (i, d, b) :: xs, _, σ, ρ, e, r, c => by
    obtain ⟨v, ws, rfl, h2, h3⟩ := r
    rw [List.all_cons, Bool.and_eq_true] at c
    obtain rfl : b = true := c.1
    have e2 : Env K ro H0 H w γ (σ.set i (some v)) (slPut ρ i (itS m d)) := by
      rcases hm with rfl | rfl
      · have h2' : R K (cSh w) H d v := h2
        show Env K ro H0 H w γ _ (slPut ρ i (if flat d = true then .fr d else .sh d))
        by_cases q : flat d = true
        · rw [if_pos q]; exact e.setFr (h2'.fl q)
        · rw [if_neg q]; exact e.setSh h2'
      · exact e.setFr h2
    exact Env.putI hm (σ := σ.set i (some v)) (ρ := slPut ρ i (itS m d)) e2 h3 c.2
instance {wi : TI} {g : TG} {di : DI} {dg : DG} [hi : OkI K XE wi di] [hg : OkG K g dg] [hb : OkS K XE t ds] : OkS K XE (tFor wi g t) (dFor di dg ds) := ⟨fun {ro H0 γ H w σ ρ κ N} e m hd => by
  obtain ⟨md, hm, hd⟩ := hd
  refine hi.ok (e.gd md) (e.envA md) (m.xo e) hd fun xs b J d v H1 hP x r wk => ?_
  obtain ⟨rfl, I, h0, hs, hf⟩ := hP
  have gh0 : R K (if md.isFr = true then cFr H0 w else cSh w) H1 d v := by
    rcases hm with rfl | rfl <;> exact r
  refine for_it wk (fun i σ' H' => ∃ w' ρ', Env K ro H0 H' w' ((d, v, md.isFr) :: γ) σ' ρ' ∧ I i ρ') ⟨w, ρ, ⟨(e.go x).dom, (e.go x).loc, (e.go x).row, (e.go x).ext, (e.go x).sl, fun p hp => ?_⟩, h0⟩ ?_ ?_ ?_
  · rcases List.mem_cons.mp hp with rfl | hp
    · exact gh0
    · exact (e.go x).gh p hp
  · rintro i σ' H' _ ⟨w', ρ', e', _⟩
    exact ⟨_, e'.gh _ List.mem_cons_self⟩
  · rintro i y σ' H' H2 hlt ⟨w', ρ', e', hI⟩ ⟨rfl, hy⟩
    obtain ⟨dx, hdx, rdx⟩ := hy _ (e'.gh _ List.mem_cons_self)
    have rdx' : RB K (cW ro) (cA H0 w' H2 md) true H2 dx y := by
      rcases hm with rfl | rfl <;> exact rdx
    refine hg.ok rdx' (hs i dx ρ' hdx hI) fun us vs hus rg => ?_
    refine hb.ok (κ := { κ with nx := I (i + 1), ct := I (i + 1), bk := κ.nx }) (γ := (d, v, md.isFr) :: γ) (e'.putI hm rg hus.1) ⟨fun σ ρ H w e h => ⟨w, ρ, e, h⟩, fun σ ρ H w e h => m.nx _ _ _ _ ⟨e.dom, e.loc, e.row, e.ext, e.sl, fun p hp => e.gh p (List.mem_cons_of_mem _ hp)⟩ h, fun σ ρ H w e h => ⟨w, ρ, e, h⟩, m.rt, m.er⟩ hus.2
  · rintro σ' H' ⟨w', ρ', e', hI⟩
    exact m.nx _ _ _ _ ⟨e'.dom, e'.loc, e'.row, e'.ext, e'.sl, fun p hp => e'.gh p (List.mem_cons_of_mem _ hp)⟩ (hf ρ' hI)⟩
/-! while -/
def dWhile (dt : DT) (ds : DS) : DS := fun κ ρ => ∃ I : Nat → List Sl → Prop, (∃ n, I n ρ) ∧ ∀ n ρ', I n ρ' → dt ρ' .sh κ.er fun c => if c = true then ds { κ with nx := fun ρ'' => ∃ k, k < n ∧ I k ρ'', ct := fun ρ'' => ∃ k, k < n ∧ I k ρ'', bk := κ.nx } ρ' else κ.nx ρ'
instance [h : OkT K XE tt dt] [k : OkS K XE t ds] : OkS K XE (tWhile tt t) (dWhile dt ds) := ⟨fun {ro H0 γ H w σ ρ κ N} e m hd => by
  obtain ⟨I, ⟨n0, h0⟩, hs⟩ := hd
  refine ⟨fun n σ' H' => ∃ w' ρ', Env K ro H0 H' w' γ σ' ρ' ∧ I n ρ', ⟨n0, w, ρ, e, h0⟩, ?_⟩
  rintro n σ' H' ⟨w', ρ', e', hI⟩
  refine h.ok (e'.gd .sh) (e'.envA .sh) (m.xo e') (hs n ρ' hI) fun c H2 hP x => ?_
  cases c with
  | false =>
    rw [if_neg Bool.false_ne_true] at hP ⊢
    exact m.nx _ _ _ _ (e'.go x) hP
  | true =>
    rw [if_pos rfl] at hP ⊢
    exact ⟨fun σ'' H'' => ∃ k, k < n ∧ ∃ w'' ρ'', Env K ro H0 H'' w'' γ σ'' ρ'' ∧ I k ρ'', fun σ'' H'' h => h, k.ok (κ := { κ with nx := fun ρ'' => ∃ k, k < n ∧ I k ρ'', ct := fun ρ'' => ∃ k, k < n ∧ I k ρ'', bk := κ.nx }) (e'.go x) ⟨fun σ ρ H w e h => ⟨h.choose, h.choose_spec.1, w, ρ, e, h.choose_spec.2⟩, fun σ ρ H w e h => m.nx _ _ _ _ e h, fun σ ρ H w e h => ⟨h.choose, h.choose_spec.1, w, ρ, e, h.choose_spec.2⟩, m.rt, m.er⟩ hP⟩⟩
/-! a def's start -/
theorem envS_params {ro : Option Addr} {H0 H : Hp} {w : Addr → Option Nat} : ∀ {ds : List D} {vs : List V} (n k : Nat), RL K (cSh w) H ds vs → EnvS K ro H0 w H n (vs.map some ++ List.replicate k none) (ds.map Sl.sh ++ List.replicate k Sl.un)
  | [], vs, n, k, h => by
    cases h
    show EnvS K ro H0 w H n (List.replicate k none) (List.replicate k Sl.un)
    induction k generalizing n with
    | zero => trivial
    | succ k ih => exact ⟨trivial, ih (n + 1)⟩
  | d :: ds, _, n, k, h => by
    obtain ⟨v, ws, rfl, h2, h3⟩ := h
    exact ⟨⟨v, rfl, h2⟩, envS_params (n + 1) k h3⟩
theorem env_start {H : Hp} {ds : List D} {vs : List V} (k : Nat) (h : RL K (fun _ => True) H ds vs) : Env K none H H (fun _ => none) [] (vs.map some ++ List.replicate k none) (ds.map Sl.sh ++ List.replicate k Sl.un) :=
  ⟨fun _ _ c => (nomatch c), fun _ _ c => (nomatch c), fun _ c => (nomatch c), Ext.refl, envS_params 0 k (h.imp fun _ _ => rfl), fun p hp => absurd hp (by simp)⟩
theorem env_startR {H : Hp} {r : Addr} {ds : List D} {vs : List V} (k : Nat) (hr : RowOk K H r) (h : RL K (fun a => a ≠ r) H ds vs) : Env K (some r) H H (fun a => if a = r then some 0 else none) [] (some (.ref r) :: (vs.map some ++ List.replicate k none)) (.row :: (ds.map Sl.sh ++ List.replicate k Sl.un)) := by
  obtain ⟨xs, hx⟩ := row_at hr
  refine ⟨fun a n c => ?_, fun a n c => ?_, fun r' c => ?_, Ext.refl, ⟨⟨r, rfl, rfl⟩, envS_params 1 k (h.imp fun a z => by show (if a = r then some 0 else none) = none; rw [if_neg z])⟩, fun p hp => absurd hp (by simp)⟩
  · by_cases e : a = r
    · rw [e, hx]; intro c; cases c
    · rw [if_neg e] at c; cases c
  · by_cases e : a = r
    · rw [if_pos e] at c; cases c
    · rw [if_neg e] at c; cases c
  · cases c
    exact ⟨if_pos rfl, hr, by rw [hx]; intro c; cases c⟩
/-- the body of a def that draws nothing -/
theorem run_X {n : Nat} {F : List D → (Err → Prop) → (D → Prop) → Prop} {vs : List V} {H : Hp} {Q : VK} {σ : L2.St} (k : Nat) (kd : Nat → Kd) (N : Ends) (hS : spX K n F vs H Q XE) (hσ : σ = vs.map some ++ List.replicate k none) (hnx : N.nx = fun _ H' => Q .non H') (hrt : N.rt = Q) [b : OkS K XE t ds]
    (h : ∀ (xs : List D) (er : Err → Prop) (P : D → Prop), F xs er P → ds ⟨kd, fun _ => P .non, P, er, fun _ => False, fun _ => False⟩ (xs.map Sl.sh ++ List.replicate k Sl.un)) : t N σ H := by
  obtain ⟨xs, er, P, hl, hr, hF, hQ, hE⟩ := hS
  subst hσ
  refine b.ok (env_start k hr) ⟨fun σ ρ H' w e hp => ?_, fun _ _ _ _ _ z => False.elim z, fun _ _ _ _ _ z => False.elim z, fun d v H' hp x r => ?_, fun c cls od H' hp x r => hE c cls od H' hp x.same r⟩ (h xs er P hF)
  · rw [hnx]
    exact hQ .non .non H' hp e.ext.same rfl
  · rw [hrt]
    exact hQ d v H' hp x.same r
theorem run_D {n : Nat} {F : List D → (D → Prop) → Prop} {vs : List V} {H : Hp} {Q : VK} {E : XK} {σ : L2.St} (k : Nat) (kd : Nat → Kd) (N : Ends) (hS : spD K n F vs H Q E) (hσ : σ = vs.map some ++ List.replicate k none) (hnx : N.nx = fun _ H' => Q .non H') (hrt : N.rt = Q) [b : OkS K XE t ds]
    (h : ∀ (xs : List D) (P : D → Prop), F xs P → ds ⟨kd, fun _ => P .non, P, fun _ => False, fun _ => False, fun _ => False⟩ (xs.map Sl.sh ++ List.replicate k Sl.un)) : t N σ H := by
  obtain ⟨xs, er, P, hl, hr, hF, hQ, hE⟩ := hS
  subst hσ
  refine b.ok (env_start k hr) ⟨fun σ ρ H' w e hp => ?_, fun _ _ _ _ _ z => False.elim z, fun _ _ _ _ _ z => False.elim z, fun d v H' hp x r => ?_, fun _ _ _ _ z => False.elim z⟩ (h xs P hF)
  · rw [hnx]
    exact hQ .non .non H' hp e.ext.same rfl
  · rw [hrt]
    exact hQ d v H' hp x.same r
/-- the body of a def that draws -/
theorem run_R {n : Nat} {F : List D → (D → Prop) → Prop} {vs : List V} {H : Hp} {Q : VK} {E : XK} {σ : L2.St} (k : Nat) (kd : Nat → Kd) (N : Ends) (hS : spR K n F vs H Q E) (hσ : σ = vs.map some ++ List.replicate k none) (hnx : N.nx = fun _ H' => Q .non H') (hrt : N.rt = Q) [b : OkS K XE t ds]
    (h : ∀ (xs : List D) (P : D → Prop), F xs P → ds ⟨kd, fun _ => P .non, P, fun _ => False, fun _ => False, fun _ => False⟩ (.row :: (xs.map Sl.sh ++ List.replicate k Sl.un))) : t N σ H := by
  obtain ⟨r, ws, xs, P, hl, rfl, hrow, hr, hF, hQ⟩ := hS
  subst hσ
  refine b.ok (env_startR k hrow hr) ⟨fun σ ρ H' w e hp => ?_, fun _ _ _ _ _ z => False.elim z, fun _ _ _ _ _ z => False.elim z, fun d v H' hp x r' => ?_, fun _ _ _ _ z => False.elim z⟩ (h xs P hF)
  · rw [hnx]
    exact hQ .non .non H' hp e.ext.kpOf (e.row r rfl).2.1 rfl
  · rw [hrt]
    exact hQ d v H' hp x.kpOf (x.row r rfl hrow) r'
/-! promises by data -/
instance {n : Nat} {F : List D → (D → Prop) → Prop} : SpD K (spD K n F) (fun ds P => ds.length = n ∧ F ds P) := ⟨fun r h q => ⟨_, fun _ => False, _, by rw [r.len]; exact h.1, r, h.2, q, fun _ _ _ _ z => False.elim z⟩⟩
instance {n : Nat} {F : List D → (Err → Prop) → (D → Prop) → Prop} : SpX K (spX K n F) (fun ds er P => ds.length = n ∧ F ds er P) := ⟨fun r h q x => ⟨_, _, _, by rw [r.len]; exact h.1, r, h.2, q, x⟩⟩
instance {n : Nat} {F : List D → (D → Prop) → Prop} : SpR K (spR K n F) (fun ds P => ds.length + 1 = n ∧ F ds P) := ⟨fun hr r h q => ⟨_, _, _, _, by show _ + 1 = _; rw [r.len]; exact h.1, rfl, hr, r, h.2, q⟩⟩
theorem len_X {n : Nat} {F : List D → (Err → Prop) → (D → Prop) → Prop} {vs : List V} {H : Hp} {Q : VK} {E : XK} (h : spX K n F vs H Q E) : vs.length = n := by
  obtain ⟨_, _, _, h, _⟩ := h
  exact h
theorem len_D {n : Nat} {F : List D → (D → Prop) → Prop} {vs : List V} {H : Hp} {Q : VK} {E : XK} (h : spD K n F vs H Q E) : vs.length = n := len_X h
theorem len_R {n : Nat} {F : List D → (D → Prop) → Prop} {vs : List V} {H : Hp} {Q : VK} {E : XK} (h : spR K n F vs H Q E) : vs.length = n := by
  obtain ⟨_, _, _, _, h, _⟩ := h
  exact h
end
end Bk

/-! Data: dicts. -/
namespace Bk
open PySem L2
section
variable {K : PySem.W.Frag} {XE : XK} {ta tb tc te : TE} {da db dc de : DE} {tt tu : TT} {dt du : DT} {tr : TA} {dr : DA} {t u : TS} {ds dz : DS}
def keyD : Key → D
  | .inl i => .int i
  | .inr z => .str z
def lookD : List (Key × D) → Key → Option D
  | [], _ => none
  | (k', d) :: es, k => if k' = k then some d else lookD es k
def putD : List (Key × D) → Key → D → List (Key × D)
  | [], k, d => [(k, d)]
  | (k', d') :: es, k, d => if k' = k then (k', d) :: es.map (fun e => if e.1 = k then (e.1, d) else e) else (k', d') :: putD es k d
def dropD : List (Key × D) → Key → List (Key × D)
  | [], _ => []
  | (k', d') :: es, k => if k' = k then dropD es k else (k', d') :: dropD es k
theorem key_v {A : Addr → Prop} {H : Hp} {k : Key} {v : V} (h : R K A H (keyD k) v) : v = kV k := by
  cases k with
  | inl i => exact h
  | inr z => exact h
theorem RK.look {A : Addr → Prop} {H : Hp} : ∀ {es : List (Key × D)} {ws : List (Key × V)} {k : Key}, RK K A H es ws → (lookD es k = none ∧ valV ws k = none) ∨ ∃ d v, lookD es k = some d ∧ valV ws k = some v ∧ R K A H d v
  | [], _, k, h => by cases h; exact .inl ⟨rfl, valV_nil⟩
  | (k', d) :: es, _, k, h => by
    obtain ⟨v, ws, rfl, h2, h3⟩ := h
    by_cases c : k' = k
    · exact .inr ⟨d, v, if_pos c, valV_pos c, h2⟩
    · rcases RK.look (k := k) h3 with ⟨h4, h5⟩ | ⟨d', v', h4, h5, h6⟩
      · exact .inl ⟨(if_neg c).trans h4, (valV_neg c).trans h5⟩
      · exact .inr ⟨d', v', (if_neg c).trans h4, (valV_neg c).trans h5, h6⟩
theorem RK.mapSet {A : Addr → Prop} {H : Hp} {k : Key} {d : D} {v : V} (hr : R K A H d v) : ∀ {es : List (Key × D)} {ws : List (Key × V)}, RK K A H es ws → RK K A H (es.map fun e => if e.1 = k then (e.1, d) else e) (ws.map fun kv => if kv.1 = k then (kv.1, v) else kv)
  | [], _, h => by cases h; rfl
  | (k', d') :: es, _, h => by
    obtain ⟨u, ws, rfl, h2, h3⟩ := h
    by_cases c : k' = k
    · refine ⟨v, ws.map fun kv => if kv.1 = k then (kv.1, v) else kv, ?_, ?_, RK.mapSet hr h3⟩
      · show (if k' = k then (k', v) else (k', u)) :: _ = _
        rw [if_pos c]
        show _ = (((if k' = k then (k', d) else (k', d') : Key × D)).1, v) :: _
        rw [if_pos c]
      · show R K A H ((if k' = k then (k', d) else (k', d') : Key × D)).2 v
        rw [if_pos c]
        exact hr
    · refine ⟨u, ws.map fun kv => if kv.1 = k then (kv.1, v) else kv, ?_, ?_, RK.mapSet hr h3⟩
      · show (if k' = k then (k', v) else (k', u)) :: _ = _
        rw [if_neg c]
        show _ = (((if k' = k then (k', d) else (k', d') : Key × D)).1, u) :: _
        rw [if_neg c]
      · show R K A H ((if k' = k then (k', d) else (k', d') : Key × D)).2 u
        rw [if_neg c]
        exact h2
theorem RK.keys {A : Addr → Prop} {H : Hp} : ∀ {es : List (Key × D)} {ws : List (Key × V)}, RK K A H es ws → ws.map (·.1) = es.map (·.1)
  | [], _, h => by cases h; rfl
  | (k', d) :: es, _, h => by
    obtain ⟨v, ws, rfl, h2, h3⟩ := h
    show k' :: _ = k' :: _
    rw [RK.keys h3]
theorem RK.len {A : Addr → Prop} {H : Hp} {es : List (Key × D)} {ws : List (Key × V)} (h : RK K A H es ws) : ws.length = es.length := by
  have := congrArg List.length h.keys
  rwa [List.length_map, List.length_map] at this
theorem RK.put {A : Addr → Prop} {H : Hp} {k : Key} {d : D} {v : V} (hr : R K A H d v) : ∀ {es : List (Key × D)} {ws : List (Key × V)}, RK K A H es ws → RK K A H (putD es k d) (putK ws k v)
  | [], _, h => by cases h; exact ⟨v, [], rfl, hr, rfl⟩
  | (k', d') :: es, _, h => by
    obtain ⟨u, ws, rfl, h2, h3⟩ := h
    by_cases c : k' = k
    · have e1 : putD ((k', d') :: es) k d = (k', d) :: es.map (fun e => if e.1 = k then (e.1, d) else e) := if_pos c
      have e2 : putK ((k', u) :: ws) k v = (k', v) :: ws.map (fun kv => if kv.1 = k then (kv.1, v) else kv) := by
        unfold putK
        rw [if_pos (by rw [List.any_cons, decide_eq_true c]; rfl), List.map_cons, if_pos c]
      rw [e1, e2]
      exact ⟨v, _, rfl, hr, RK.mapSet hr h3⟩
    · have e1 : putD ((k', d') :: es) k d = (k', d') :: putD es k d := if_neg c
      have e2 : putK ((k', u) :: ws) k v = (k', u) :: putK ws k v := by
        unfold putK
        rw [List.any_cons, decide_eq_false c, Bool.false_or]
        by_cases q : (ws.any fun kv => decide (kv.1 = k)) = true
        · rw [if_pos q, if_pos q, List.map_cons, if_neg c]
        · rw [if_neg q, if_neg q]; rfl
      rw [e1, e2]
      exact ⟨u, _, rfl, h2, RK.put hr h3⟩
theorem RK.drop {A : Addr → Prop} {H : Hp} {k : Key} : ∀ {es : List (Key × D)} {ws : List (Key × V)}, RK K A H es ws → RK K A H (dropD es k) (dropK ws k)
  | [], _, h => by cases h; rfl
  | (k', d') :: es, _, h => by
    obtain ⟨u, ws, rfl, h2, h3⟩ := h
    by_cases c : k' = k
    · have e1 : dropD ((k', d') :: es) k = dropD es k := if_pos c
      have e2 : dropK ((k', u) :: ws) k = dropK ws k := by
        unfold dropK
        rw [List.filter_cons_of_neg (by simp [c])]
      rw [e1, e2]
      exact RK.drop h3
    · have e1 : dropD ((k', d') :: es) k = (k', d') :: dropD es k := if_neg c
      have e2 : dropK ((k', u) :: ws) k = (k', u) :: dropK ws k := by
        unfold dropK
        rw [List.filter_cons_of_pos (by simp [c])]
      rw [e1, e2]
      exact ⟨u, _, rfl, h2, RK.drop h3⟩
/-! reading -/
theorem dic_items {A : Addr → Prop} {H : Hp} {es : List (Key × D)} {v : V} (h : R K A H (.dic es) v) : ∃ a ws, v = .ref a ∧ H a = some (.dK ws) ∧ RK K A H es ws := by
  obtain ⟨a, ws, rfl, _, h3, h4⟩ := h
  exact ⟨a, ws, rfl, h3, h4⟩
def dDNew : DE := fun _ _ _ P => P (.dic []) true
instance : OkE K XE tDNewK dDNew := ⟨fun g env xo hd fin p np => fin _ _ _ _ hd (Ext.new np) ⟨p, [], rfl, g.new np true, upd_same, rfl⟩⟩
def dDGet (da db : DE) : DE := fun ρ m er P => da ρ m er fun x bx => db ρ m er fun y _ => ∃ es k d, x = .dic es ∧ y = keyD k ∧ lookD es k = some d ∧ P d (bx || flat d)
instance [ha : OkE K XE ta da] [hb : OkE K XE tb db] : OkE K XE (tDGet ta tb) (dDGet da db) := ⟨fun g env xo h fin =>
  ha.ok g env xo h fun x bx u H1 h1 e1 r1 => hb.ok (g.ext e1) (env.ext g e1) (xo.ext e1) h1 fun y b v H2 h2 e2 r2 => by
    obtain ⟨es, k, d, rfl, rfl, hl, hP⟩ := h2
    obtain ⟨a, ws, rfl, hw, rk⟩ := dic_items ((g.ext e1).rb e2 r1)
    obtain rfl := key_v r2
    rcases rk.look (k := k) with ⟨h4, _⟩ | ⟨d', v', h4, h5, h6⟩
    · rw [hl] at h4; cases h4
    · rw [hl] at h4
      cases h4
      exact ⟨a, v', rfl, by rw [← h5]; exact DGet.k hw, fin _ _ _ _ hP (e1.trans e2) (RB.or h6)⟩⟩
def dDIn (db da : DE) : DE := fun ρ m er P => db ρ m er fun y _ => da ρ m er fun x _ => ∃ es k, x = .dic es ∧ y = keyD k ∧ P (.bl (lookD es k).isSome) true
def dDNotIn (db da : DE) : DE := fun ρ m er P => db ρ m er fun y _ => da ρ m er fun x _ => ∃ es k, x = .dic es ∧ y = keyD k ∧ P (.bl (!(lookD es k).isSome)) true
theorem look_some {A : Addr → Prop} {H : Hp} {es : List (Key × D)} {ws : List (Key × V)} {k : Key} (rk : RK K A H es ws) : (valV ws k).isSome = (lookD es k).isSome := by
  rcases rk.look (k := k) with ⟨h4, h5⟩ | ⟨d', v', h4, h5, h6⟩ <;> rw [h4, h5] <;> rfl
instance [ha : OkE K XE ta da] [hb : OkE K XE tb db] : OkE K XE (tDIn tb ta) (dDIn db da) := ⟨fun g env xo h fin =>
  hb.ok g env xo h fun y b v H1 h1 e1 r1 => ha.ok (g.ext e1) (env.ext g e1) (xo.ext e1) h1 fun x bx u H2 h2 e2 r2 => by
    obtain ⟨es, k, rfl, rfl, hP⟩ := h2
    obtain ⟨a, ws, rfl, hw, rk⟩ := dic_items r2
    obtain rfl := key_v r1
    refine ⟨a, _, rfl, DGet.k hw, ?_⟩
    rw [look_some rk]
    exact fin _ _ _ _ hP (e1.trans e2) rfl⟩
instance [ha : OkE K XE ta da] [hb : OkE K XE tb db] : OkE K XE (tDNotIn tb ta) (dDNotIn db da) := ⟨fun g env xo h fin =>
  hb.ok g env xo h fun y b v H1 h1 e1 r1 => ha.ok (g.ext e1) (env.ext g e1) (xo.ext e1) h1 fun x bx u H2 h2 e2 r2 => by
    obtain ⟨es, k, rfl, rfl, hP⟩ := h2
    obtain ⟨a, ws, rfl, hw, rk⟩ := dic_items r2
    obtain rfl := key_v r1
    refine ⟨a, _, rfl, DGet.k hw, ?_⟩
    rw [look_some rk]
    exact fin _ _ _ _ hP (e1.trans e2) rfl⟩
def dDGet2 (da db dc : DE) : DE := fun ρ m er P => da ρ m er fun x bx => (∃ es, x = .dic es) ∧ db ρ m er fun y _ => dc ρ m er fun z bz => ∃ es k, x = .dic es ∧ y = keyD k ∧ P ((lookD es k).getD z) ((bx && bz) || flat ((lookD es k).getD z))
instance [ha : OkE K XE ta da] [hb : OkE K XE tb db] [hc : OkE K XE tc dc] : OkE K XE (tDGet2 ta tb tc) (dDGet2 da db dc) := ⟨fun {ro W A m er σ ρ H P Q} g env xo h fin =>
  ha.ok g env xo h fun x bx u H1 h1 e1 r1 => by
    obtain ⟨⟨es, rfl⟩, h1⟩ := h1
    obtain ⟨a, ws, rfl, hw, rk⟩ := dic_items r1
    refine ⟨a, rfl, .inl ⟨ws, .inl hw⟩, ?_⟩
    refine hb.ok (g.ext e1) (env.ext g e1) (xo.ext e1) h1 fun y b v H2 h2 e2 r2 => hc.ok (g.ext (e1.trans e2)) (env.ext g (e1.trans e2)) (xo.ext (e1.trans e2)) h2 fun z bz v3 H3 h3 e3 r3 => ?_
    obtain ⟨es', k, q, rfl, hP⟩ := h3
    cases q
    obtain rfl := key_v r2
    obtain ⟨a', ws', q, hw', rk'⟩ := dic_items ((g.ext e1).rb (e2.trans e3) r1)
    cases q
    refine ⟨_, DGet.k hw', ?_⟩
    have g3 := g.ext ((e1.trans e2).trans e3)
    have fin' := fin _ _ ((valV ws' k).getD v3) H3 hP ((e1.trans e2).trans e3)
    refine fin' (RB.or (b := bx && bz) ?_)
    rcases rk'.look (k := k) with ⟨h4, h5⟩ | ⟨d', v', h4, h5, h6⟩
    · rw [h4, h5]; exact g3.dn (fun c => and2 (a := bx) c) r3
    · rw [h4, h5]; exact g3.dn (fun c => and1 (b := bz) c) h6⟩
/-! a display -/
abbrev DPs := List Sl → Md → (Err → Prop) → (List (D × D) → Prop) → Prop
class OkPs (K : PySem.W.Frag) (XE : XK) (trs : List (TE × TE)) (dps : outParam DPs) : Prop where
  ok : ∀ {ro W A m er σ ρ H P} {Q : List (V × V) → Hp → Prop}, Gd K ro W A H → EnvA K ro W A m H σ ρ → XOk K ro er H XE → dps ρ m er P → (∀ ps vs H', P ps → Ext K ro H H' → RL K W H' (ps.map (·.1)) (vs.map (·.1)) → RL K W H' (ps.map (·.2)) (vs.map (·.2)) → Q vs H') → tPairs trs σ H Q
def dPs0 : DPs := fun _ _ _ P => P []
def dPs1 (da db : DE) (dps : DPs) : DPs := fun ρ m er P => da ρ m er fun x _ => db ρ m er fun y _ => dps ρ m er fun ps => P ((x, y) :: ps)
instance : OkPs K XE [] dPs0 := ⟨fun g env xo h fin => fin [] [] _ h Ext.refl rfl rfl⟩
instance {trs : List (TE × TE)} {dps : DPs} [ha : OkE K XE ta da] [hb : OkE K XE tb db] [hp : OkPs K XE trs dps] : OkPs K XE ((ta, tb) :: trs) (dPs1 da db dps) := ⟨fun g env xo h fin =>
  ha.ok g env xo h fun x bx u H1 h1 e1 r1 => hb.ok (g.ext e1) (env.ext g e1) (xo.ext e1) h1 fun y b v H2 h2 e2 r2 => hp.ok (g.ext (e1.trans e2)) (env.ext g (e1.trans e2)) (xo.ext (e1.trans e2)) h2 fun ps vs H3 h3 e3 r3 r4 =>
    fin ((x, y) :: ps) ((u, v) :: vs) H3 h3 ((e1.trans e2).trans e3) ⟨u, _, rfl, (g.ext e1).rw (b := bx) r1 |> (g.ext e1).w (e2.trans e3), r3⟩ ⟨v, _, rfl, (g.ext (e1.trans e2)).rw (b := b) r2 |> (g.ext (e1.trans e2)).w e3, r4⟩⟩
def mergeD (es more : List (Key × D)) : List (Key × D) := more.foldl (fun acc e => putD acc e.1 e.2) es
theorem RK.merge {A : Addr → Prop} {H : Hp} : ∀ {more : List (Key × D)} {ms : List (Key × V)} {es : List (Key × D)} {ws : List (Key × V)}, RK K A H more ms → RK K A H es ws → RK K A H (mergeD es more) (mergeK ws ms)
  | [], _, _, _, h, g => by cases h; exact g
  | (k, d) :: more, _, es, ws, h, g => by
    obtain ⟨v, ms, rfl, h2, h3⟩ := h
    show RK K A H (mergeD (putD es k d) more) (mergeK (putK ws k v) ms)
    exact RK.merge h3 (RK.put h2 g)
def dDisp (dps : DPs) : DE := fun ρ m er P => dps ρ m er fun ps => ∃ es : List (Key × D), ps = es.map (fun e => (keyD e.1, e.2)) ∧ (es.all fun e => flat e.2) = true ∧ es.length ≤ 15 ∧ P (.dic (mergeD [] es)) true
theorem rk_of {A B : Addr → Prop} {H : Hp} : ∀ {es : List (Key × D)} {vs : List (V × V)}, (es.all fun e => flat e.2) = true → RL K A H ((es.map fun e => (keyD e.1, e.2)).map (·.1)) (vs.map (·.1)) → RL K A H ((es.map fun e => (keyD e.1, e.2)).map (·.2)) (vs.map (·.2)) → ∃ ws : List (Key × V), vs = ws.map (fun kv => (kV kv.1, kv.2)) ∧ RK K B H es ws
  | [], vs, _, h1, _ => by
    have h1' : vs.map (·.1) = [] := h1
    rw [List.map_eq_nil_iff] at h1'
    subst h1'
    exact ⟨[], rfl, rfl⟩
  | (k, d) :: es, vs, c, h1, h2 => by
    rw [List.all_cons, Bool.and_eq_true] at c
    cases vs with
    | nil => obtain ⟨v, ws, q, _⟩ := h1; cases q
    | cons p vs =>
      obtain ⟨u1, ws1, q1, h3, h4⟩ := h1
      obtain ⟨u2, ws2, q2, h5, h6⟩ := h2
      cases q1
      cases q2
      obtain ⟨ws, rfl, h7⟩ := rk_of (B := B) c.2 h4 h6
      have e : p.1 = kV k := key_v h3
      obtain ⟨p1, p2⟩ := p
      cases e
      exact ⟨(k, p2) :: ws, rfl, p2, ws, rfl, R.fl c.1 h5, h7⟩
instance {trs : List (TE × TE)} {dps : DPs} [hp : OkPs K XE trs dps] : OkE K XE (tDisp trs) (dDisp dps) := ⟨fun {ro W A m er σ ρ H P Q} g env xo hd fin p np => by
  have e0 : Ext K ro H (upd H p (.dK [])) := Ext.new np
  refine hp.ok (g.ext e0) (env.ext g e0) (xo.ext e0) hd fun ps vs H' hP e r1 r2 => ?_
  have hr : ro ≠ some p := fun c => by
    obtain ⟨xs, z⟩ := row_at (g.row p c).1
    rw [np] at z; cases z
  have h2 := e.keep p _ hr upd_same
  obtain ⟨es, rfl, hf, hl, hP⟩ := hP
  obtain ⟨ws, rfl, rk⟩ := rk_of (B := fun _ => False) hf r1 r2
  refine ⟨h2, ws, rfl, by rw [rk.len]; exact hl, ?_⟩
  have g' := (g.ext e0).ext e
  have rk2 : RK K (sel W A true) (upd H' p (.dK (mergeK [] ws))) es ws := rk.go (fun _ z => z.elim) (fun _ _ z => z.elim) (fun a vs z => sqt_upd z h2 (.inr ⟨_, rfl⟩))
  refine fin (.dic (mergeD [] es)) true (.ref p) _ hP ⟨fun a o n ha => ?_, fun r c h => row_mut (e.row r c (e0.row r c h)) h2 (fun _ _ z => by cases z) (fun z => hr (by rw [z]; exact c))⟩ ⟨p, mergeK [] ws, rfl, g.nw p np, upd_same, RK.merge rk2 rfl⟩
  rw [upd_ne (ne_of_none ha np)]
  exact e.keep a o n (e0.keep a o n ha)⟩
/-! stores -/
def dDPut (i : Nat) (dk dv : DE) : DS := fun κ ρ => ∃ es, slAt ρ i = .ow (.dic es) ∧ dv ρ .fr κ.er fun d b => b = true ∧ dk ρ .fr κ.er fun y _ => ∃ k, y = keyD k ∧ es.length < 100000 ∧ κ.nx (slPut ρ i (.ow (.dic (putD es k d))))
theorem Env.ownD {ro : Option Addr} {H0 H : Hp} {w : Addr → Option Nat} {γ : Gh} {σ : L2.St} {ρ : List Sl} (e : Env K ro H0 H w γ σ ρ) {i : Nat} {es : List (Key × D)} (hi : slAt ρ i = .ow (.dic es)) : ∃ a ws, σ[i]? = some (some (.ref a)) ∧ w a = some (i + 1) ∧ H a = some (.dK ws) ∧ RK K (cFr H0 w) H es ws := by
  obtain ⟨o, h1, h2⟩ := e.sl.at (i := i) (by rw [hi]; intro c; cases c)
  rw [hi, Nat.zero_add] at h2
  obtain ⟨a, rfl, hw, h2⟩ := h2
  rcases h2 with ⟨xs', vs, q, h3, h4⟩ | ⟨es, ws, q, h3, h4⟩
  · cases q
  · cases q
    exact ⟨a, ws, h1, hw, h3, h4⟩
theorem Env.mutD {ro : Option Addr} {H0 H : Hp} {w : Addr → Option Nat} {γ : Gh} {σ : L2.St} {ρ : List Sl} (e : Env K ro H0 H w γ σ ρ) {i : Nat} {a : Addr} {es : List (Key × D)} {ws us : List (Key × V)} (hσ : σ[i]? = some (some (.ref a))) (hw : w a = some (i + 1)) (ha : H a = some (.dK us)) (h : RK K (cFr H0 w) H es ws) : Env K ro H0 (upd H a (.dK ws)) w γ σ (slPut ρ i (.ow (.dic es))) :=
  e.mutOw hw hσ ha (.inr ⟨_, rfl⟩) ⟨a, rfl, hw, .inr ⟨es, ws, rfl, upd_same, h.go (fun _ z _ => z) (fun b o z q => by rw [upd_ne (fun c => by rw [c] at z; have := z.1; rw [hw] at this; cases this)]; exact q) (fun _ _ z => sqt_upd z ha (.inr ⟨_, rfl⟩))⟩⟩
instance {i : Nat} [hk : OkE K XE tb db] [hv : OkE K XE tc dc] : OkS K XE (sDPut (tVar i) tb tc) (dDPut i db dc) := ⟨fun {ro H0 γ H w σ ρ κ N} e m hd => by
  obtain ⟨es, hi, hd⟩ := hd
  refine hv.ok (e.gd .fr) (e.envA .fr) (m.xo e) hd fun d b v H1 hP x1 r1 => ?_
  obtain ⟨rfl, hP⟩ := hP
  have e1 := e.go x1
  obtain ⟨a, ws, hσ, hw, ha, rk⟩ := e1.ownD hi
  refine ⟨_, hσ, hk.ok (e1.gd .fr) (e1.envA .fr) (m.xo e1) hP fun y by' u H2 hP2 x2 r2 => ?_⟩
  obtain ⟨k, rfl, hl, hP2⟩ := hP2
  obtain rfl := key_v r2
  have e2 := e1.go x2
  obtain ⟨a', ws', hσ', hw', ha', rk'⟩ := e2.ownD hi
  rw [hσ] at hσ'
  cases hσ'
  have r1' : R K (cFr H0 w) H2 d v := (e1.gd .fr).rb (b := true) x2 r1
  exact ⟨a, _, rfl, DPut.k ha' (sz_lt (by rw [rk'.len]; exact hl)), m.nx _ _ _ _ (e2.mutD hσ hw' ha' (RK.put r1' rk')) hP2⟩⟩
end
end Bk

/-! Data: methods that change nothing. -/
namespace Bk
open PySem L2
section
variable {K : PySem.W.Frag} {XE : XK} {ta tb tc te : TE} {da db dc de : DE} {tt tu : TT} {dt du : DT} {tr : TA} {dr : DA} {t u : TS} {ds dz : DS}
theorem RF.lookN {A : Addr → Prop} {H : Hp} : ∀ {fs : List (Str × D)} {gs : List (Str × V)} {f : Str}, RF K A H fs gs → fs.lookup f = none → gs.lookup f = none
  | [], _, _, h, _ => by cases h; rfl
  | (g, d) :: fs, gs, f, h, l => by
    obtain ⟨v, ws, rfl, h2, h3⟩ := h
    rw [List.lookup_cons] at l ⊢
    cases q : f == g with
    | true => rw [q] at l; cases l
    | false => rw [q] at l; exact RF.lookN h3 l
def dMeth (C m : Str) (F : List D → (D → Prop) → Prop) (da : DE) (dr : DA) : DE := fun ρ md er P => da ρ md er fun x _ => (∃ fs, x = .ins C fs ∧ fs.lookup m = none) ∧ dr ρ md er fun ds => F (x :: ds.map (·.1)) fun d => P d true
instance {C m : Str} {sp : Sp} {E : XK} {F : List D → (D → Prop) → Prop} [s : SpD K sp F] [ha : OkE K XE ta da] [h : OkA K XE tr dr] : OkE K XE (tMeth (He.ga K C) m sp [] E ta tr) (dMeth C m F da dr) := ⟨fun g env xo hd fin => ha.ok g env xo hd fun x b v H1 h1 e1 r1 => by
  obtain ⟨⟨fs, rfl, hl⟩, h1⟩ := h1
  have g1 := g.ext e1
  obtain ⟨a, dx, gs, rfl, _, hi, rf⟩ := g1.rw r1
  refine ⟨a, dx, gs, rfl, hi, rf.lookN hl, h.ok g1 (env.ext g e1) (xo.ext e1) h1 fun ds vs H2 h2 e2 r2 => ?_⟩
  rw [List.append_nil]
  have g2 := g1.ext e2
  refine s.ok (ds := .ins C fs :: ds.map (·.1)) ⟨_, vs, rfl, (g1.w e2 (g1.rw r1)).imp fun _ _ => trivial, (r2.w g2).imp fun _ _ => trivial⟩ h2 fun d v H3 h3 e3 r3 => fin _ _ _ _ h3 ((e1.trans e2).trans (Ext.of e3)) (fresh g2 r3)⟩
instance {C m : Str} {sp : Sp} {E : XK} {F : List D → (D → Prop) → Prop} [s : SpD K sp F] [ha : OkE K XE ta da] : OkE K XE (tMeth (He.ga K C) m sp [] E ta tNil) (dMeth C m F da dNil) := inferInstance
end
end Bk

/-! Data: in, by the eye. -/
namespace Bk
open PySem L2
section
variable {K : PySem.W.Frag} {XE : XK}
/-! x in (a, b, ..), by the eye -/
def vOf : D → V
  | .bl b => .bl b
  | .int i => .int i
  | .str z => .str z
  | _ => .non
def scD : D → Bool
  | .non => true
  | .bl _ => true
  | .int _ => true
  | .str _ => true
  | _ => false
theorem vOf_ok {A : Addr → Prop} {H : Hp} {d : D} {v : V} (h : scD d = true) (r : R K A H d v) : v = vOf d ∧ flatV v = true := by
  cases d with
  | non => obtain rfl := r; exact ⟨rfl, rfl⟩
  | bl _ => obtain rfl := r; exact ⟨rfl, rfl⟩
  | int _ => obtain rfl := r; exact ⟨rfl, rfl⟩
  | str _ => obtain rfl := r; exact ⟨rfl, rfl⟩
  | _ => cases h
theorem vOfs_ok {A : Addr → Prop} {H : Hp} : ∀ {ds : List D} {vs : List V}, ds.all scD = true → RL K A H ds vs → vs = ds.map vOf ∧ vs.all flatV = true
  | [], _, _, r => by cases r; exact ⟨rfl, rfl⟩
  | d :: ds, _, h, r => by
    obtain ⟨v, ws, rfl, h2, h3⟩ := r
    rw [List.all_cons, Bool.and_eq_true] at h
    obtain ⟨e1, e2⟩ := vOf_ok h.1 h2
    obtain ⟨e3, e4⟩ := vOfs_ok h.2 h3
    exact ⟨by rw [e1, e3]; rfl, by rw [List.all_cons, e2, e4]; rfl⟩
def fIn (neg : Bool) : D → D → Bool → Bool → (D → Bool → Prop) → Prop := fun x y _ _ P => ∃ ys, (y = .lst ys ∨ y = .tup ys) ∧ scD x = true ∧ ys.all scD = true ∧ P (.bl (if neg = true then !inV (vOf x) (ys.map vOf) else inV (vOf x) (ys.map vOf))) true
instance {neg : Bool} : OpD K (rIn K neg) (fIn neg) := ⟨fun g r1 r2 h fin => by
  obtain ⟨ys, rfl | rfl, h1, h2, hP⟩ := h
  · obtain ⟨a, vs, rfl, ha, w⟩ := lst_items r2
    obtain ⟨rfl, e2⟩ := vOf_ok h1 r1
    obtain ⟨rfl, e4⟩ := vOfs_ok h2 w
    exact ⟨a, _, rfl, .inl (SqL.of ha), e2, e4, fin _ _ _ _ hP Ext.refl rfl⟩
  · obtain ⟨a, vs, rfl, ha, w⟩ := tup_items r2
    obtain ⟨rfl, e2⟩ := vOf_ok h1 r1
    obtain ⟨rfl, e4⟩ := vOfs_ok h2 w
    exact ⟨a, _, rfl, .inr ha, e2, e4, fin _ _ _ _ hP Ext.refl rfl⟩⟩
end
end Bk

/-! Data: more words. -/
namespace Bk
open PySem L2
section
variable {K : PySem.W.Frag} {XE : XK} {ta tb tc te : TE} {da db dc de : DE} {tt tu : TT} {dt du : DT} {tr : TA} {dr : DA} {t u : TS} {ds dz : DS}
def dNever : DS := fun _ _ => False
instance : OkS K XE tNever dNever := ⟨fun _ _ hd => hd.elim⟩
theorem rg_ok {A : Addr → Prop} {H : Hp} (n : Int) : RL K A H (rngD 0 n.toNat) (rgV 0 n) := by
  have e1 : rngD 0 n.toNat = ((List.range n.toNat).map fun i => (0 : Int) + (i : Nat)).map D.int := by unfold rngD; rw [List.map_map]; rfl
  have e2 : rgV 0 n = ((List.range n.toNat).map fun i => (0 : Int) + (i : Nat)).map V.int := by unfold rgV; rw [List.map_map, Int.sub_zero]; rfl
  rw [e1, e2]
  exact of_ints
def dLstR (da : DE) : DE := fun ρ m er P => da ρ m er fun x _ => ∃ n, x = .int n ∧ 0 ≤ n ∧ n ≤ 100000 ∧ P (.lst (rngD 0 n.toNat)) true
instance [h : OkE K XE ta da] : OkE K XE (tLstRg (tRg1 ta)) (dLstR da) := ⟨fun g env xo hd fin => h.ok g env xo hd fun d b v H' hP e r => by
  obtain ⟨n, rfl, h0, h1, hP⟩ := hP
  obtain rfl := r
  exact ⟨n, rfl, RgOk.of_le (Int.le_refl 0) (by omega) (by omega) h0, fun q nq => fin _ _ _ _ hP (e.trans (Ext.new nq)) (new_lst (g.ext e) nq (rg_ok n))⟩⟩
def fSortI : List (D × Bool) → (D → Bool → Prop) → Prop := fun ds P => ∃ (ns : List Int) (b : Bool), ds = [(.lst (ns.map D.int), b)] ∧ ∀ ns' : List Int, ns'.Perm ns → ns'.Pairwise (· ≤ ·) → P (.lst (ns'.map D.int)) true
instance : CbD K (rSortedI K) fSortI := ⟨fun g q h fin => by
  obtain ⟨ns, b, rfl, hP⟩ := h
  obtain ⟨v, rfl, r⟩ := q.one
  obtain ⟨a, vs, rfl, ha, w⟩ := lst_items r
  obtain rfl := ints_of w
  exact ⟨a, ns, rfl, SqL.of ha, fun ns' p h1 h2 np => fin _ _ _ _ (hP ns' h1 h2) (Ext.new np) (new_lst g np of_ints)⟩⟩
def fMax3 : List (D × Bool) → (D → Bool → Prop) → Prop := fun ds P => ∃ i j k b c d, ds = [(.int i, b), (.int j, c), (.int k, d)] ∧ P (.int (max (max i j) k)) true
instance : CbD K qMax3 fMax3 := ⟨fun g q h fin => by
  obtain ⟨i, j, k, b, c, d, rfl, hP⟩ := h
  obtain ⟨v, ws, rfl, h1, h2⟩ := q
  obtain ⟨v2, v3, rfl, h3, h4⟩ := RLB.two h2
  obtain rfl := h1
  obtain rfl := h3
  obtain rfl := h4
  exact ⟨i, j, k, rfl, fin _ _ _ _ hP Ext.refl rfl⟩⟩
theorem RL.rep {A : Addr → Prop} {H : Hp} {ds : List D} {vs : List V} (h : RL K A H ds vs) : ∀ k : Nat, RL K A H (List.replicate k ds).flatten (List.replicate k vs).flatten
  | 0 => rfl
  | k + 1 => by
    rw [List.replicate_succ, List.replicate_succ, List.flatten_cons, List.flatten_cons]
    exact h.app (h.rep k)
def fRep : D → D → Bool → Bool → (D → Bool → Prop) → Prop := fun x y bx _ P => ∃ xs k, x = .lst xs ∧ y = .int k ∧ (0 ≤ k ∧ k ≤ 1000) ∧ xs.length * k.toNat ≤ 100000 ∧ P (.lst (List.replicate k.toNat xs).flatten) (bx || flats xs)
instance : OpD K rRep fRep := ⟨fun g r1 r2 h fin => by
  obtain ⟨xs, k, rfl, rfl, hk, hl, hP⟩ := h
  obtain ⟨a, vs, rfl, ha, w1⟩ := lst_items r1
  obtain rfl := r2
  exact ⟨a, k, vs, rfl, rfl, ha, by omega, by omega, sz_of (by rw [w1.len]; exact hl), fun p np => fin _ _ _ _ hP (Ext.new np) (new_lst g np (w1.or.rep _))⟩⟩
theorem RL.erase {A : Addr → Prop} {H : Hp} : ∀ {ds : List D} {vs : List V} (n : Nat), RL K A H ds vs → RL K A H (ds.eraseIdx n) (vs.eraseIdx n)
  | [], _, _, h => by cases h; exact rfl
  | d :: ds, _, n, h => by
    obtain ⟨v, ws, rfl, h2, h3⟩ := h
    cases n with
    | zero => exact h3
    | succ n => exact ⟨v, _, rfl, h2, h3.erase n⟩
/-- xs.append(ys.pop(e)) -/
def dMutPop (i j : Nat) (de : DE) : DS := fun κ ρ => i ≠ j ∧ ∃ xs ys, slAt ρ j = .ow (.lst xs) ∧ slAt ρ i = .ow (.lst ys) ∧ de ρ .fr κ.er fun d _ => ∃ n : Int, d = .int n ∧ 0 ≤ n ∧ n < 2 ^ 62 ∧ ys.length < 100000 ∧ ∃ x, xs[n.toNat]? = some x ∧ κ.nx (slPut (slPut ρ j (.ow (.lst (xs.eraseIdx n.toNat)))) i (.ow (.lst (ys ++ [x]))))
theorem slAt_put {i j : Nat} {s : Sl} (ne : i ≠ j) : ∀ (ρ : List Sl), slAt (slPut ρ j s) i = slAt ρ i := by
  intro ρ
  induction ρ generalizing i j with
  | nil => rfl
  | cons x ρ ih =>
    cases j with
    | zero =>
      cases i with
      | zero => exact absurd rfl ne
      | succ i => rfl
    | succ j =>
      cases i with
      | zero => rfl
      | succ i => exact ih (fun c => ne (congrArg (· + 1) c))
instance (priority := high) {i j : Nat} [h : OkE K XE te de] : OkS K XE (tDrop (tBM K "list" rAppend (tVar i) (tCons (tBM K "list" rPopAt (tVar j) (tCons te tNil)) tNil))) (dMutPop i j de) := ⟨fun {ro H0 γ H w σ ρ κ N} e m hd => by
  obtain ⟨ne, xs, ys, hj, hi, hd⟩ := hd
  obtain ⟨a, vs, hσ, hw, ha, hr⟩ := e.own hi
  obtain ⟨b, us, hσb, hwb, hb, hrb⟩ := e.own hj
  refine ⟨_, hσ, .inl ⟨rfl, vs, SqL.of ha⟩, _, hσb, .inl ⟨rfl, us, SqL.of hb⟩, h.ok (e.gd .fr) (e.envA .fr) (m.xo e) hd fun d c v H' hP x r => ?_⟩
  obtain ⟨n, rfl, h0, hn, hl, y, hy, hP⟩ := hP
  obtain rfl := r
  have e' := e.go x
  obtain ⟨b', us', hσb', hwb', hb', hrb'⟩ := e'.own hj
  rw [hσb] at hσb'
  cases hσb'
  obtain ⟨z, hz, hyz⟩ := hrb'.at hy
  have hlt := (List.getElem?_eq_some_iff.mp hz).1
  have e2 := e'.mutL hσb hwb hb' (hrb'.erase n.toNat)
  refine ⟨b, us', n, n.toNat, z, rfl, rfl, hb', by omega, by omega, PySem.seqIndex_of h0 (by omega), hz, ?_⟩
  have hi2 : slAt (slPut ρ j (.ow (.lst (xs.eraseIdx n.toNat)))) i = .ow (.lst ys) := by rw [slAt_put ne]; exact hi
  obtain ⟨a2, vs2, hσ2, hw2, ha2, hr2⟩ := e2.own hi2
  have nij : j ≠ i := Ne.symm ne
  have hσ2' : σ[i]? = some (some (.ref a2)) := hσ2
  rw [hσ] at hσ2'
  cases hσ2'
  have hyz2 : R K (cFr H0 w) (upd H' b (.lst (us'.eraseIdx n.toNat))) y z := hyz.go (fun _ q _ => q) (fun c o q z => by rw [upd_ne (fun k => by rw [k] at q; have := q.1; rw [hwb'] at this; cases this)]; exact z) (fun _ _ q => sqt_upd q hb' (.inl ⟨_, rfl⟩))
  show rAppend (.ref a) [z] (upd H' b (.lst (us'.eraseIdx n.toNat))) (fun _ H2 => N.nx σ H2)
  exact m_append ha2 (sz_lt (by rw [hr2.len]; exact hl)) (m.nx _ _ _ _ (e2.mutL hσ2 hw2 ha2 (hr2.app (RL.one hyz2))) hP)⟩
/-- a list of one's own that is walked is shared from then on -/
def dForV (j : Nat) (dg : DG) (ds : DS) : DS := fun κ ρ => match slAt ρ j with
  | .ow d => dFor (diL (dVar j)) dg ds κ (slPut ρ j (.fr d))
  | _ => dFor (diL (dVar j)) dg ds κ ρ
instance (priority := high) {j : Nat} {g : TG} {dg : DG} [hg : OkG K g dg] [hb : OkS K XE t ds] : OkS K XE (tFor (iList K (tVar j)) g t) (dForV j dg ds) := ⟨fun {ro H0 γ H w σ ρ κ N} e m hd => by
  have base : OkS K XE (tFor (iList K (tVar j)) g t) (dFor (diL (dVar j)) dg ds) := inferInstanceAs (OkS K XE (tFor (iList K (tVar j)) g t) _)
  unfold dForV at hd
  cases q : slAt ρ j with
  | ow d =>
    rw [q] at hd
    obtain ⟨a, _, _, e2, _⟩ := e.share q
    exact base.ok e2 m hd
  | _ => rw [q] at hd; exact base.ok e m hd⟩
end
end Bk

/-! Data: sorted of tuples, of dicts; what is popped from a dict; the keys of a dict by a word. -/
namespace Bk
open PySem L2
section
variable {K : PySem.W.Frag} {XE : XK} {ta tb tc te : TE} {da db dc de : DE} {tt tu : TT} {dt du : DT} {tr : TA} {dr : DA} {t u : TS} {ds dz : DS}
theorem RL.permMap {A : Addr → Prop} {H : Hp} {α : Type} {f : α → D} {g : α → Int} {ys xs : List (V × Int)} (h : ys.Perm xs) : ∀ items : List α, RL K A H (items.map f) (xs.map (·.1)) → xs.map (·.2) = items.map g → ∃ items' : List α, items'.Perm items ∧ RL K A H (items'.map f) (ys.map (·.1)) ∧ ys.map (·.2) = items'.map g := by
  induction h with
  | nil => exact fun items h1 h2 => ⟨items, List.Perm.refl _, h1, h2⟩
  | cons x _ ih =>
    intro items h1 h2
    cases items with
    | nil => cases h2
    | cons i items =>
      obtain ⟨v, ws, e, r1, r2⟩ := h1
      cases e
      obtain ⟨e1, e2⟩ := List.cons.inj h2
      obtain ⟨it', p1, p2, p3⟩ := ih items r2 e2
      have e1' : x.2 = g i := e1
      exact ⟨i :: it', p1.cons i, ⟨_, _, rfl, r1, p2⟩, by rw [List.map_cons, List.map_cons, p3, e1']⟩
  | swap x y l =>
    intro items h1 h2
    match items, h1, h2 with
    | [], _, h2 => exact absurd (congrArg List.length h2) (by simp)
    | [_], _, h2 => exact absurd (congrArg List.length h2) (by simp)
    | i :: j :: items, h1, h2 =>
      obtain ⟨v, ws, e, r1, r2⟩ := h1
      cases e
      obtain ⟨v, ws, e, r3, r4⟩ := r2
      cases e
      obtain ⟨e1, e2⟩ := List.cons.inj h2
      obtain ⟨e3, e4⟩ := List.cons.inj e2
      have e1' : x.2 = g i := e1
      have e3' : y.2 = g j := e3
      exact ⟨j :: i :: items, List.Perm.swap _ _ _, ⟨_, _, rfl, r3, _, _, rfl, r1, r4⟩, by show y.2 :: x.2 :: l.map _ = g j :: g i :: items.map g; rw [e1', e3', e4]⟩
  | trans _ _ ih1 ih2 =>
    intro items h1 h2
    obtain ⟨it', p1, p2, p3⟩ := ih2 items h1 h2
    obtain ⟨it2, q1, q2, q3⟩ := ih1 it' p2 p3
    exact ⟨it2, q1.trans p1, q2, q3⟩
/-- sorted of rows (int, ..), told apart by their ints -/
def fSortK : List (D × Bool) → (D → Bool → Prop) → Prop := fun ds P => ∃ (its : List (Int × List D)) (b : Bool), ds = [(.lst (its.map fun x => .tup (.int x.1 :: x.2)), b)] ∧ (its.map (·.1)).Nodup ∧ ∀ its' : List (Int × List D), its'.Perm its → its'.Pairwise (fun x y => x.1 ≤ y.1) → P (.lst (its'.map fun x => .tup (.int x.1 :: x.2))) (b || flats (its.map fun x => .tup (.int x.1 :: x.2)))
instance : CbD K (rSortedK K) fSortK := ⟨fun g q h fin => by
  obtain ⟨its, b, rfl, hnd, hP⟩ := h
  obtain ⟨v, rfl, r⟩ := q.one
  obtain ⟨a, vs, rfl, ha, w⟩ := lst_items r
  have hl : vs.length = its.length := by rw [w.len, List.length_map]
  refine ⟨a, vs, its.map (·.1), rfl, SqL.of ha, by rw [List.length_map, hl], fun i x c hx hc => ?_, hnd, fun zs p hp hs np => ?_⟩
  · obtain ⟨y, hy, rfl⟩ := map_at hc
    obtain ⟨v, hv, t, us, rfl, ht, v1, _, rfl, rfl, _⟩ := w.at (i := i) (d := .tup (.int y.1 :: y.2)) (by rw [List.getElem?_map, hy]; rfl)
    rw [hx] at hv
    cases hv
    exact ⟨t, _, rfl, ht⟩
  · have e1 : (vs.zip (its.map (·.1))).map (·.1) = vs := List.map_fst_zip (by rw [List.length_map, hl]; exact Nat.le_refl _)
    have e2 : (vs.zip (its.map (·.1))).map (·.2) = its.map (·.1) := List.map_snd_zip (by rw [List.length_map, hl]; exact Nat.le_refl _)
    obtain ⟨its', p1, p2, p3⟩ := RL.permMap (g := fun x : Int × List D => x.1) hp its (by rw [e1]; exact w.or) e2
    have hs' : its'.Pairwise (fun x y => x.1 ≤ y.1) := by
      have := List.pairwise_map.mpr hs
      rw [p3] at this
      exact List.pairwise_map.mp this
    exact fin _ _ _ _ (hP its' p1 hs') (Ext.new np) (new_lst g np p2)⟩
def qSortDI : List V → Hp → VK → Prop := fun xs H Q => ∃ (a : Addr) (kvs : List (Key × V)) (ks : List Int), xs = [.ref a] ∧ Rd H a (.dK kvs) ∧ kvs.map (·.1) = ks.map Sum.inl ∧ ks.length < 64 ∧
    ∀ (ys : List Int) (p : Addr), ys.Perm ks → ys.Pairwise (· ≤ ·) → H p = none → Q (.ref p) (upd H p (.lst (ys.map V.int)))
theorem z_sortedD {X : Cx} (hc : X.calm = true) : CallR X (.builtin "sorted") qSortDI := call_sortedDI hc
def fSortD : List (D × Bool) → (D → Bool → Prop) → Prop := fun ds P => ∃ (es : List (Key × D)) (ks : List Int) (b : Bool), ds = [(.dic es, b)] ∧ es.map (·.1) = ks.map Sum.inl ∧ ks.length < 64 ∧ ∀ ys : List Int, ys.Perm ks → ys.Pairwise (· ≤ ·) → P (.lst (ys.map D.int)) true
instance : CbD K qSortDI fSortD := ⟨fun g q h fin => by
  obtain ⟨es, ks, b, rfl, hk, hl, hP⟩ := h
  obtain ⟨v, rfl, r⟩ := q.one
  obtain ⟨a, ws, rfl, ha, rk⟩ := dic_items r
  exact ⟨a, ws, ks, rfl, .inl ha, by rw [rk.keys]; exact hk, hl, fun ys p h1 h2 np => fin _ _ _ _ (hP ys h1 h2) (Ext.new np) (new_lst g np of_ints)⟩⟩
/-- a, b, .. = d.pop(k) -/
def dPopG (j : Nat) (dk : DE) (dg : DG) : DS := fun κ ρ => ∃ es, slAt ρ j = .ow (.dic es) ∧ dk ρ .fr κ.er fun y _ => ∃ k d, y = keyD k ∧ lookD es k = some d ∧ flat d = true ∧ dg d true fun us => (us.all fun u => u.2.2) = true ∧ κ.nx (putF (slPut ρ j (.ow (.dic (dropD es k)))) us)
instance (priority := high) {j n : Nat} {gs : TGs} {dg : DG} [h : OkE K XE te de] [kg : OkG K (gTup K n gs) dg] : OkS K XE (tAsg (tDPop1 (tVar j) te) (gTup K n gs)) (dPopG j de dg) := ⟨fun {ro H0 γ H w σ ρ κ N} e m hd => by
  obtain ⟨es, hj, hd⟩ := hd
  obtain ⟨a, ws, hσ, hw, ha, rk⟩ := e.ownD hj
  refine ⟨_, hσ, a, rfl, .inl ⟨ws, .inl ha⟩, h.ok (e.gd .fr) (e.envA .fr) (m.xo e) hd fun y b v H' hP x r => ?_⟩
  obtain ⟨k, d, rfl, hl, hf, hP⟩ := hP
  obtain rfl := key_v r
  have e' := e.go x
  obtain ⟨a', ws', hσ', hw', ha', rk'⟩ := e'.ownD hj
  rw [hσ] at hσ'
  cases hσ'
  rcases rk'.look (k := k) with ⟨h1, _⟩ | ⟨d', u, h1, h2, h3⟩
  · rw [hl] at h1; cases h1
  rw [hl] at h1
  cases h1
  refine ⟨ws', k, u, ha', rfl, h2, ?_⟩
  have e2 := e'.mutD hσ hw' ha' (rk'.drop (k := k))
  have r3 : R K (cA H0 w (upd H' a (.dK (dropK ws' k))) .fr) (upd H' a (.dK (dropK ws' k))) d u := h3.flat (fun c vs z => sqt_upd z ha' (.inr ⟨_, rfl⟩)) _ _ hf
  exact kg.ok (W := cW ro) (b := true) r3 hP fun us vs hus rg => m.nx _ _ _ _ (e2.putF rg hus.1) hus.2⟩
/-- the keys of a dict of rows (word, ..) whose word is so -/
theorem EnvA.len {ro : Option Addr} {W A : Addr → Prop} {m : Md} {H : Hp} : ∀ {σ : List (Option V)} {ρ : List Sl}, EnvA K ro W A m H σ ρ → σ.length = ρ.length
  | [], [], _ => rfl
  | _ :: _, _ :: _, h => congrArg (· + 1) (EnvA.len h.2)
  | [], _ :: _, h => h.elim
  | _ :: _, [], h => h.elim
theorem val_at : ∀ {ws : List (Key × V)} {n : Nat} {k : Key} {v : V}, (ws.map (·.1)).Nodup → ws[n]? = some (k, v) → valV ws k = some v
  | [], _, _, _, _, h => by simp at h
  | (k', u) :: ws, 0, k, v, _, h => by cases h; exact valV_pos rfl
  | (k', u) :: ws, n + 1, k, v, hnd, h => by
    have h' : ws[n]? = some (k, v) := by simpa using h
    obtain ⟨h1, h2⟩ := List.nodup_cons.mp hnd
    have ne : k' ≠ k := fun c => h1 (by rw [c]; exact List.mem_map.mpr ⟨(k, v), List.mem_of_getElem? h', rfl⟩)
    exact (valV_neg ne).trans (val_at h2 h')
theorem RK.at {A : Addr → Prop} {H : Hp} : ∀ {es : List (Key × D)} {ws : List (Key × V)} {n : Nat} {k : Key} {v : V}, RK K A H es ws → ws[n]? = some (k, v) → ∃ d, es[n]? = some (k, d) ∧ R K A H d v
  | [], _, _, _, _, h, e => by cases h; simp at e
  | (k', d) :: es, _, n, k, v, h, e => by
    obtain ⟨u, ws, rfl, h2, h3⟩ := h
    cases n with
    | zero => cases e; exact ⟨d, rfl, h2⟩
    | succ n => exact RK.at (n := n) h3 (by simpa using e)
def dKeysWord (i j k : Nat) (ws : List Nat) : DE := fun ρ _ _ P => ws = [i] ∧ i ≠ j ∧ i ≠ k ∧ i < ρ.length ∧ ∃ (es : List (Int × Str × List D)) (z : Str), (slAt ρ j).dat = some (.dic (es.map fun e => (Sum.inl e.1, .tup (.str e.2.1 :: e.2.2)))) ∧ (slAt ρ k).dat = some (.str z) ∧ es.length ≤ 1000 ∧ (es.map (·.1)).Nodup ∧ P (.lst ((es.filter fun e => decide (e.2.1 = z)).map fun e => .int e.1)) true
instance {i j k : Nat} {ws : List Nat} : OkE K XE (tLockE (tLc (iKeys (tVar j)) (gName i) (tTest (tOp rEq (tOp (rIxT K) (tDGet (tVar j) (tVar i)) (tC (.int 0))) (tVar k))) (tVar i) ws)) (dKeysWord i j k ws) := ⟨fun {ro W A m er σ ρ H P Q} g env xo hd fin => by
  obtain ⟨rfl, nij, nik, hil, es, z, hj, hk, hl, hnd, hP⟩ := hd
  obtain ⟨oj, hoj, hsj, _⟩ := env.at (i := j) (fun c => by rw [c] at hj; cases hj)
  obtain ⟨vj, rfl, rj, _⟩ := hsj _ hj
  obtain ⟨a, ws, rfl, ha, rk⟩ := dic_items rj
  obtain ⟨ok, hok, hsk, _⟩ := env.at (i := k) (fun c => by rw [c] at hk; cases hk)
  obtain ⟨vk, rfl, rk2, _⟩ := hsk _ hk
  obtain rfl : vk = .str z := rk2
  have hiσ : i < σ.length := by rw [env.len]; exact hil
  have hkeys : (ws.map (·.1)).Nodup := by
    rw [rk.keys, List.map_map]
    exact List.pairwise_map.mpr ((List.pairwise_map.mp hnd).imp fun {x y} h c => h (Sum.inl.inj c))
  have hwl : ws.length = es.length := by rw [rk.len, List.length_map]
  refine ⟨a, .dK ws, ha, trivial, fun od => ?_⟩
  refine ⟨_, hoj, a, od, rfl, .inl ⟨ws, upd_same, ?_⟩⟩
  show kLc (gName i) (tTest (tOp rEq (tOp (rIxT K) (tDGet (tVar j) (tVar i)) (tC (.int 0))) (tVar k))) (tVar i) [i] σ (fun v H' => H' a = some (.frz od (.dK ws)) ∧ Q v (upd H' a (.dK ws))) (Itk a od ws) (upd H a (.frz od (.dK ws)))
  refine k_lcS (H := upd H a (.frz od (.dK ws))) (σ' := σ.set i none) rfl walk_keys (fun n acc _ => acc = ((es.take n).filter fun e => decide (e.2.1 = z)).map fun e => V.int e.1) (fun H1 S => S _ _ upd_same) (fun _ nD => rfl) (fun Da n x H1 H' acc nD hn S hD hA hY => ?_) (fun Da H' acc nD S hD hA => ?_)
  · obtain ⟨rfl, k', v, hwn, rfl⟩ := hY
    obtain ⟨d, hdn, rd⟩ := rk.at hwn
    obtain ⟨e, hen, ee⟩ := map_at hdn
    cases ee
    obtain ⟨tp, us, rfl, ht, v1, vr, rfl, rfl, hr⟩ := rd
    have ht1 : SqT K H' tp (.str e.2.1 :: vr) := by
      have nt : ∀ o, H tp = some o → (∀ ws, o ≠ .dK ws) → H' tp = some o := fun o ho n1 => S _ _ (by rw [upd_ne (ne_of ho ha (n1 _))]; exact ho)
      refine ht.imp (fun z => ?_) id
      rcases z with z | ⟨ob, z⟩
      · exact .inl (nt _ z (fun _ y => by cases y))
      · exact .inr ⟨ob, nt _ z (fun _ y => by cases y)⟩
    have s2i : ((σ.set i none).set i (some (.int e.1)))[i]? = some (some (.int e.1)) := List.getElem?_set_self (by rw [List.length_set]; exact hiσ)
    have s2j : ((σ.set i none).set i (some (.int e.1)))[j]? = some (some (.ref a)) := by rw [List.getElem?_set_ne nij, List.getElem?_set_ne nij]; exact hoj
    have s2k : ((σ.set i none).set i (some (.int e.1)))[k]? = some (some (.str z)) := by rw [List.getElem?_set_ne nik, List.getElem?_set_ne nik]; exact hok
    have hdg : DGet H' a (.int e.1) (some (.ref tp)) := .inl ⟨ws, .inl e.1, .inr ⟨od, S _ _ upd_same⟩, rfl, (val_at hkeys hwn).symm⟩
    have hacc : acc.length < sizeLine := by
      rw [hA, List.length_map]
      have := List.length_filter_le (fun e : Int × Str × List D => decide (e.2.1 = z)) (es.take n)
      rw [List.length_take] at this
      exact sz_lt (by omega)
    have et := filter_take (p := fun e : Int × Str × List D => decide (e.2.1 = z)) hen
    have hix : atI (V.str e.2.1 :: vr) 0 = some (.str e.2.1) := atI_nat (j := 0) rfl
    refine ⟨?_, ?_⟩
    · show ((σ.set i none).set i (some (.int e.1))).set i none = σ.set i none
      rw [List.set_set, List.set_set]
    · refine ⟨_, s2j, _, s2i, a, .ref tp, rfl, hdg, ?_⟩
      refine w_c (r_ixT ht1 hix ?_)
      refine ⟨_, s2k, r_eqS ⟨_, rfl, ?_⟩⟩
      rw [et]
      by_cases c : e.2.1 = z
      · rw [decide_eq_true c, if_pos rfl]
        refine ⟨_, s2i, acc, hD, hacc, ?_⟩
        refine ⟨Same.mut S nD, _, upd_same, ?_⟩
        rw [hA, List.map_append]
        rfl
      · rw [decide_eq_false c]
        refine iteF ⟨S, acc, hD, ?_⟩
        rw [hA]
        simp
  · have hfr := S _ _ upd_same
    refine ⟨hfr, ?_⟩
    have nDa : Da ≠ a := fun c => by rw [c, upd_same] at nD; cases nD
    rw [upd_ne nDa] at nD
    have S2 : Same H (upd H' a (.dK ws)) := fun b o ho => by
      by_cases c : b = a
      · rw [c] at ho ⊢
        rw [ha] at ho
        cases ho
        exact upd_same
      · rw [upd_ne c]
        exact S _ _ (by rw [upd_ne c]; exact ho)
    rw [hwl, List.take_length] at hA
    subst hA
    refine fin _ true _ _ hP (Ext.of S2) ⟨Da, _, rfl, g.nw _ nD, by rw [upd_ne nDa]; exact hD, ?_⟩
    have e1 : ((es.filter fun e => decide (e.2.1 = z)).map fun e => D.int e.1) = ((es.filter fun e => decide (e.2.1 = z)).map fun e => e.1).map D.int := by rw [List.map_map]; rfl
    have e2 : ((es.filter fun e => decide (e.2.1 = z)).map fun e => V.int e.1) = ((es.filter fun e => decide (e.2.1 = z)).map fun e => e.1).map V.int := by rw [List.map_map]; rfl
    rw [e1, e2]
    exact of_ints⟩
/-- xs = [k for k in d ..] under the dict's lock -/
instance (priority := high) {m : Nat} [h : OkE K XE (tLockE te) de] : OkS K XE (tLock (tAsg te (gName m))) (dAsg m de) := ⟨fun e m' hd => by
  have base : OkS K XE (tAsg (tLockE te) (gName m)) (dAsg m de) := inferInstance
  exact base.ok e m' hd⟩
/-- xs.index(n), ints -/
def dIndex (da db : DE) : DE := fun ρ m er P => da ρ m er fun x _ => ∃ ns : List Int, x = .lst (ns.map D.int) ∧ db ρ m er fun y _ => ∃ (n : Int) (j : Nat), y = .int n ∧ ns[j]? = some n ∧ (∀ i, i < j → ns[i]? ≠ some n) ∧ P (.int (j : Nat)) true
instance [ha : OkE K XE ta da] [hb : OkE K XE tb db] : OkE K XE (tBM K "list" (rIndex K) ta (tCons tb tNil)) (dIndex da db) := ⟨fun g env xo h fin =>
  ha.ok g env xo h fun x bx u H1 h1 e1 r1 => by
    obtain ⟨ns, rfl, h1⟩ := h1
    obtain ⟨a, vs, rfl, hav, w⟩ := lst_items r1
    obtain rfl := ints_of w
    refine ⟨.inl ⟨rfl, _, SqL.of hav⟩, hb.ok (g.ext e1) (env.ext g e1) (xo.ext e1) h1 fun y b v H2 h2 e2 r2 => ?_⟩
    obtain ⟨n, j, rfl, hj, hm, hP⟩ := h2
    obtain rfl : v = .int n := r2
    obtain ⟨a2, vs2, ea, hav2, w2⟩ := lst_items ((g.ext e1).rb e2 r1)
    cases ea
    obtain rfl := ints_of w2
    refine ⟨a, ns.map V.int, .int n, j, .int n, rfl, rfl, SqL.of hav2, rfl, ?_, by rw [List.getElem?_map, hj]; rfl, ?_, fun i z hi hz => ?_, fin _ _ _ _ hP (e1.trans e2) rfl⟩
    · rw [List.all_eq_true]
      intro x hx
      obtain ⟨i, _, rfl⟩ := List.mem_map.mp hx
      rfl
    · show (n == n) = true
      simp
    · obtain ⟨c, hc, rfl⟩ := map_at hz
      show (c == n) = false
      have := hm i hi
      rw [hc] at this
      simpa using this⟩
end
end Bk

/-! Data: max with a default. -/
namespace Bk
open PySem L2
section
variable {K : PySem.W.Frag} {XE : XK} {tr tk : TA} {dr dk : DA}
def dMaxDf (dr dk : DA) : DE := fun ρ m er P => dr ρ m er fun ds => ∃ (ns : List Int) (b : Bool), ds = [(.lst (ns.map D.int), b)] ∧ dk ρ m er fun es => ∃ (d : Int) (c : Bool), es = [(.int d, c)] ∧ (ns = [] → P (.int d) true) ∧ ∀ m', m' ∈ ns → (∀ y ∈ ns, y ≤ m') → P (.int m') true
instance [h : OkA K XE tr dr] [k : OkA K XE tk dk] : OkE K XE (tCKw (rMaxDf K) tr tk) (dMaxDf dr dk) := ⟨fun g env xo hd fin => h.ok g env xo hd fun ds vs H' hP e r => by
  obtain ⟨ns, b, rfl, hP⟩ := hP
  refine k.ok (g.ext e) (env.ext g e) (xo.ext e) hP fun es zs H2 h2 e2 r2 => ?_
  obtain ⟨d, c, rfl, h0, h1⟩ := h2
  obtain ⟨v, rfl, rv⟩ := RLB.one ((g.ext e).rlb e2 r)
  obtain ⟨a, us, rfl, ha, w⟩ := lst_items rv
  obtain rfl := ints_of w
  obtain ⟨u, rfl, ru⟩ := r2.one
  obtain rfl : u = .int d := ru
  exact ⟨a, ns, d, rfl, rfl, SqL.of ha, fun q => fin _ _ _ _ (h0 q) (e.trans e2) rfl, fun m q1 q2 => fin _ _ _ _ (h1 m q1 q2) (e.trans e2) rfl⟩⟩
end
end Bk

/-! Data: len(set(xs)); is, of bools. -/
namespace Bk
open PySem L2
section
variable {K : PySem.W.Frag} {XE : XK} {te : TE} {de : DE}
/-- how many unlike ones there are -/
def Unl (ns : List Int) (n : Nat) : Prop := ∃ ks : List Int, ks.Nodup ∧ (∀ k, k ∈ ks ↔ k ∈ ns) ∧ n = ks.length
def dLenSet (de : DE) : DE := fun ρ m er P => de ρ m er fun x _ => ∃ ns : List Int, x = .tup (ns.map D.int) ∧ ns.length ≤ 4000 ∧ ∀ n : Nat, Unl ns n → P (.int (n : Nat)) true
instance [h : OkE K XE te de] : OkE K XE (tLenSetT K te) (dLenSet de) := ⟨fun g env xo hd fin => h.ok g env xo hd fun d b v H' hP e r => by
  obtain ⟨ns, rfl, hl, hP⟩ := hP
  obtain ⟨a, vs, rfl, ha, w⟩ := tup_items r
  obtain rfl := ints_of w
  exact ⟨a, ns, rfl, ha, hl, fun n hn => fin _ _ _ _ (hP n hn) e rfl⟩⟩
def fIsB : D → D → Bool → Bool → (D → Bool → Prop) → Prop := fun x y _ _ P => ∃ a b, x = .bl a ∧ y = .bl b ∧ P (.bl (decide (a = b))) true
def fNotB : D → D → Bool → Bool → (D → Bool → Prop) → Prop := fun x y _ _ P => ∃ a b, x = .bl a ∧ y = .bl b ∧ P (.bl (!decide (a = b))) true
instance : OpD K qIsB fIsB := ⟨fun g r1 r2 h fin => by
  obtain ⟨a, b, rfl, rfl, hP⟩ := h
  obtain rfl := r1
  obtain rfl := r2
  exact ⟨a, b, rfl, rfl, fin _ _ _ _ hP Ext.refl rfl⟩⟩
instance : OpD K qNotB fNotB := ⟨fun g r1 r2 h fin => by
  obtain ⟨a, b, rfl, rfl, hP⟩ := h
  obtain rfl := r1
  obtain rfl := r2
  exact ⟨a, b, rfl, rfl, fin _ _ _ _ hP Ext.refl rfl⟩⟩
def diLT (de : DE) : DI := fun ρ m er P => diL de ρ m er P ∨ diT de ρ m er P
instance [h : OkE K XE te de] : OkI K XE (iLT K te) (diLT de) := ⟨fun g env xo hd fin => hd.elim (fun q => .inl ((inferInstance : OkI K XE (iList K te) (diL de)).ok g env xo q fin)) fun q => .inr ((inferInstance : OkI K XE (iTup K te) (diT de)).ok g env xo q fin)⟩
end
theorem sub_len : ∀ {ks ns : List Int}, ks.Nodup → (∀ k, k ∈ ks → k ∈ ns) → ks.length ≤ ns.length
  | [], _, _, _ => Nat.zero_le _
  | k :: ks, ns, hk, hs => by
    obtain ⟨n1, n2⟩ := List.nodup_cons.mp hk
    have hp := List.perm_cons_erase (hs k List.mem_cons_self)
    have hl := hp.length_eq
    rw [List.length_cons] at hl ⊢
    have := sub_len n2 (ns := ns.erase k) fun x hx => by
      rcases List.mem_cons.mp (hp.mem_iff.mp (hs x (List.mem_cons_of_mem _ hx))) with q | q
      · exact absurd (q ▸ hx) n1
      · exact q
    omega
theorem Unl.le {ns : List Int} {n : Nat} (h : Unl ns n) : n = ns.length ↔ ns.Nodup := by
  obtain ⟨ks, h1, h2, rfl⟩ := h
  constructor
  · intro e
    have key : ∀ (ks ns : List Int), ks.Nodup → (∀ k, k ∈ ks → k ∈ ns) → ns.length ≤ ks.length → ns.Nodup ∧ ns.length = ks.length := by
      intro ks
      induction ks with
      | nil =>
        intro ns _ _ hl
        have : ns = [] := List.length_eq_zero_iff.mp (by simpa using hl)
        rw [this]
        exact ⟨List.nodup_nil, rfl⟩
      | cons k ks ih =>
        intro ns hk hs hl
        obtain ⟨n1, n2⟩ := List.nodup_cons.mp hk
        have hp := List.perm_cons_erase (hs k List.mem_cons_self)
        have hl2 := hp.length_eq
        rw [List.length_cons] at hl2 hl
        obtain ⟨i1, i2⟩ := ih (ns.erase k) n2 (fun x hx => by
          have hx1 := hs x (List.mem_cons_of_mem _ hx)
          rcases List.mem_cons.mp (hp.mem_iff.mp hx1) with q | q
          · exact absurd (q ▸ hx) n1
          · exact q) (by omega)
        refine ⟨hp.nodup_iff.mpr (List.nodup_cons.mpr ⟨fun c => ?_, i1⟩), by rw [List.length_cons]; omega⟩
        have key2 : ∀ (ks ms : List Int), ks.Nodup → (∀ x, x ∈ ks → x ∈ ms) → ms.length ≤ ks.length → ∀ x ∈ ms, x ∈ ks := by
          intro ks
          induction ks with
          | nil =>
            intro ms _ _ hl x hx
            have e : ms = [] := List.length_eq_zero_iff.mp (by simpa using hl)
            rw [e] at hx
            exact hx
          | cons y ks ih =>
            intro ms hk hs hl x hx
            obtain ⟨m1, m2⟩ := List.nodup_cons.mp hk
            have hp := List.perm_cons_erase (hs y List.mem_cons_self)
            have hl2 := hp.length_eq
            rw [List.length_cons] at hl2 hl
            rcases List.mem_cons.mp (hp.mem_iff.mp hx) with q | q
            · rw [q]; exact List.mem_cons_self
            · exact List.mem_cons_of_mem _ (ih (ms.erase y) m2 (fun z hz => by
                rcases List.mem_cons.mp (hp.mem_iff.mp (hs z (List.mem_cons_of_mem _ hz))) with q | q
                · exact absurd (q ▸ hz) m1
                · exact q) (by omega) x q)
        exact n1 (key2 ks (ns.erase k) n2 (fun x hx => by
          rcases List.mem_cons.mp (hp.mem_iff.mp (hs x (List.mem_cons_of_mem _ hx))) with q | q
          · exact absurd (q ▸ hx) n1
          · exact q) (by omega) k c)
    exact (key ks ns h1 (fun k hk => (h2 k).mp hk) (by omega)).1
  · intro hn
    have e1 := sub_len h1 fun k hk => (h2 k).mp hk
    have e2 := sub_len hn fun k hk => (h2 k).mpr hk
    omega
end Bk

/-! Data: texts. -/
namespace Bk
open PySem L2
section
variable {K : PySem.W.Frag} {XE : XK} {ta tb te : TE} {da db de : DE}
theorem strs_of {A : Addr → Prop} {H : Hp} : ∀ {ns : List Str} {vs : List V}, RL K A H (ns.map D.str) vs → vs = ns.map V.str
  | [], _, h => h
  | n :: ns, _, h => by
    obtain ⟨v, ws, rfl, h1, h2⟩ := h
    obtain rfl := h1
    rw [strs_of h2]
    rfl
theorem of_strs {A : Addr → Prop} {H : Hp} : ∀ {ns : List Str}, RL K A H (ns.map D.str) (ns.map V.str)
  | [] => rfl
  | n :: ns => ⟨.str n, _, rfl, rfl, of_strs⟩
def dJoin (da db : DE) : DE := fun ρ m er P => da ρ m er fun x _ => ∃ a : Str, x = .str a ∧ db ρ m er fun y _ => ∃ ys : List Str, y = .lst (ys.map D.str) ∧ (ys.map (·.length)).sum + ys.length * a.length ≤ 16777216 ∧ P (.str (PySem.Txt.join a ys)) true
instance [ha : OkE K XE ta da] [hb : OkE K XE tb db] : OkE K XE (tM1 (rJoin K) ta tb) (dJoin da db) := ⟨fun g env xo hd fin => ha.ok g env xo hd fun d b v H' hP e r => by
  obtain ⟨a, rfl, hP⟩ := hP
  obtain rfl := r
  refine ⟨⟨a, rfl⟩, hb.ok (g.ext e) (env.ext g e) (xo.ext e) hP fun d2 b2 v2 H2 hP2 e2 r2 => ?_⟩
  obtain ⟨ys, rfl, hl, hP2⟩ := hP2
  obtain ⟨p, vs, rfl, hp, w⟩ := lst_items r2
  obtain rfl := strs_of w
  exact ⟨a, p, ys, rfl, rfl, .inl (SqL.of hp), hl, fin _ _ _ _ hP2 (e.trans e2) rfl⟩⟩
def dSplit (da db : DE) : DE := fun ρ m er P => da ρ m er fun x _ => ∃ a : Str, x = .str a ∧ db ρ m er fun y _ => ∃ z : Str, y = .str z ∧ (z.length == 0) = false ∧ a.length + 2 ≤ 100000 ∧ P (.lst ((PySem.Txt.split a z).map D.str)) true
instance [ha : OkE K XE ta da] [hb : OkE K XE tb db] : OkE K XE (tM1 rSplit ta tb) (dSplit da db) := ⟨fun g env xo hd fin => ha.ok g env xo hd fun d b v H' hP e r => by
  obtain ⟨a, rfl, hP⟩ := hP
  obtain rfl := r
  refine ⟨⟨a, rfl⟩, hb.ok (g.ext e) (env.ext g e) (xo.ext e) hP fun d2 b2 v2 H2 hP2 e2 r2 => ?_⟩
  obtain ⟨z, rfl, hz, hl, hP2⟩ := hP2
  obtain rfl := r2
  exact ⟨a, z, rfl, rfl, hz, sz_of hl, fun p np => fin _ _ _ _ hP2 ((e.trans e2).trans (Ext.new np)) (new_lst ((g.ext e).ext e2) (b := true) np of_strs)⟩⟩
def fIntS : List (D × Bool) → (D → Bool → Prop) → Prop := fun ds P => ∃ (a : Str) (n : Int) (b : Bool), ds = [(.str a, b)] ∧ PySem.intText? a = some n ∧ a.length ≤ 640 ∧ P (.int n) true
instance : CbD K qIntS fIntS := ⟨fun g q h fin => by
  obtain ⟨a, n, b, rfl, h1, h2, hP⟩ := h
  obtain ⟨v, rfl, r⟩ := q.one
  obtain rfl := r
  exact ⟨a, n, rfl, h1, h2, fin _ _ _ _ hP Ext.refl rfl⟩⟩
def fNotInC : D → D → Bool → Bool → (D → Bool → Prop) → Prop := fun x y _ _ P => ∃ (c : Nat) (z : Str), x = .str ⟨#[c]⟩ ∧ y = .str z ∧ P (.bl (!decide (c ∈ z.cps.toList))) true
instance : OpD K qNotInC fNotInC := ⟨fun g r1 r2 h fin => by
  obtain ⟨c, z, rfl, rfl, hP⟩ := h
  obtain rfl := r1
  obtain rfl := r2
  exact ⟨c, z, rfl, rfl, fin _ _ _ _ hP Ext.refl rfl⟩⟩
def fIxS : D → D → Bool → Bool → (D → Bool → Prop) → Prop := fun x y _ _ P => ∃ (z : Str) (i : Int) (c : Nat), x = .str z ∧ y = .int i ∧ z.length ≤ 100000 ∧ atI z.cps.toList i = some c ∧ P (.str ⟨#[c]⟩) true
instance : OpD K rIxS fIxS := ⟨fun g r1 r2 h fin => by
  obtain ⟨z, i, c, rfl, rfl, hz, hc, hP⟩ := h
  obtain rfl := r1
  obtain rfl := r2
  exact ⟨z, i, c, rfl, rfl, sz_of hz, hc, fin _ _ _ _ hP Ext.refl rfl⟩⟩
def dNotLen (de : DE) : DE := fun ρ m er P => de ρ m er fun x _ => ∃ z : Str, x = .str z ∧ P (.bl (!(lenOf z).isSome)) true
instance [h : OkE K XE te de] : OkE K XE (tOp (qNotInLen K) te (tC (.ref (He.ga K "LENGTHS")))) (dNotLen de) := ⟨fun g env xo hd fin => h.ok g env xo hd fun d b v H' hP e r => by
  obtain ⟨z, rfl, hP⟩ := hP
  obtain rfl := r
  exact ⟨z, rfl, rfl, fin _ _ _ _ hP e rfl⟩⟩
def dIxLen (de : DE) : DE := fun ρ m er P => de ρ m er fun x _ => ∃ (z : Str) (v : Int), x = .str z ∧ lenOf z = some v ∧ P (.int v) true
instance [h : OkE K XE te de] : OkE K XE (tOp (qIxLen K) (tC (.ref (He.ga K "LENGTHS"))) te) (dIxLen de) := ⟨fun g env xo hd fin => h.ok g env xo hd fun d b v H' hP e r => by
  obtain ⟨z, i, rfl, hl, hP⟩ := hP
  obtain rfl := r
  exact ⟨z, i, rfl, rfl, hl, fin _ _ _ _ hP e rfl⟩⟩
def dListRev (de : DE) : DE := fun ρ m er P => de ρ m er fun x b => ∃ xs : List D, x = .lst xs ∧ P (.lst xs.reverse) (b || flats xs.reverse)
theorem RL.rev {A : Addr → Prop} {H : Hp} : ∀ {xs : List D} {vs : List V}, RL K A H xs vs → RL K A H xs.reverse vs.reverse
  | [], _, h => by
    obtain rfl := h
    exact rfl
  | x :: xs, vs, h => by
    obtain ⟨v, ws, rfl, h1, h2⟩ := h
    rw [List.reverse_cons, List.reverse_cons]
    exact (RL.rev h2).app ⟨v, [], rfl, h1, rfl⟩
instance [h : OkE K XE te de] : OkE K XE (tListRev K te) (dListRev de) := ⟨fun g env xo hd fin => h.ok g env xo hd fun d b v H' hP e r => by
  obtain ⟨xs, rfl, hP⟩ := hP
  obtain ⟨a, vs, rfl, ha, w⟩ := lst_items r
  exact ⟨a, vs, rfl, SqL.of ha, fun p np => fin _ _ _ _ hP (e.trans (Ext.new np)) (new_lst (g.ext e) np (RL.rev w).or)⟩⟩
def dLenSetLT (de : DE) : DE := fun ρ m er P => de ρ m er fun x _ => ∃ ns : List Int, ns.length ≤ 4000 ∧ ((x = .tup (ns.map D.int) ∧ ∀ n : Nat, Unl ns n → P (.int (n : Nat)) true) ∨ (x = .lst (ns.map D.int) ∧ ns.Nodup ∧ P (.int (ns.length : Nat)) true))
instance [h : OkE K XE te de] : OkE K XE (tLenSetLT K te) (dLenSetLT de) := ⟨fun g env xo hd fin => h.ok g env xo hd fun d b v H' hP e r => by
  obtain ⟨ns, hl, ⟨rfl, hP⟩ | ⟨rfl, hn, hP⟩⟩ := hP
  · obtain ⟨a, vs, rfl, ha, w⟩ := tup_items r
    obtain rfl := ints_of w
    exact ⟨a, ns, rfl, hl, .inl ⟨ha, fun n hn => fin _ _ _ _ (hP n hn) e rfl⟩⟩
  · obtain ⟨a, vs, rfl, ha, w⟩ := lst_items r
    obtain rfl := ints_of w
    exact ⟨a, ns, rfl, hl, .inr ⟨SqL.of ha, hn, fin _ _ _ _ hP e rfl⟩⟩⟩
end
end Bk

/-! Data: the words unfolded (printed by mkdd.py). -/
namespace Bk
open PySem L2
section
variable {K : PySem.W.Frag}
theorem dVar_s (i : Nat) : ∀ ρ m u2 P, dVar i ρ m u2 P = (∃ d, (slAt ρ i).dat = some d ∧ P d (okIn (slAt ρ i) m || flat d)) := fun _ _ _ _ => rfl
theorem dC_s (d : D) : ∀ u0 u1 u2 P, dC d u0 u1 u2 P = (P d true) := fun _ _ _ _ => rfl
theorem dOp_s (f : D → D → Bool → Bool → (D → Bool → Prop) → Prop) (da db : DE) : ∀ ρ m er P, dOp f da db ρ m er P = (da ρ m er fun x bx => db ρ m er fun y b => f x y bx b P) := fun _ _ _ _ => rfl
theorem fI_s (f : Int → Int → D) : ∀ x y u2 u3 P, fI f x y u2 u3 P = (∃ i j, x = .int i ∧ y = .int j ∧ P (f i j) true) := fun _ _ _ _ _ => rfl
theorem fIC_s (C : Int → Int → Prop) (f : Int → Int → D) : ∀ x y u2 u3 P, fIC C f x y u2 u3 P = (∃ i j, x = .int i ∧ y = .int j ∧ C i j ∧ P (f i j) true) := fun _ _ _ _ _ => rfl
theorem fEq_s : ∀ x y u2 u3 P, fEq  x y u2 u3 P = (∃ c, eqS x y = some c ∧ P (.bl c) true) := fun _ _ _ _ _ => rfl
theorem fNe_s : ∀ x y u2 u3 P, fNe  x y u2 u3 P = (∃ c, eqS x y = some c ∧ P (.bl (!c)) true) := fun _ _ _ _ _ => rfl
theorem fIs_s : ∀ x y u2 u3 P, fIs  x y u2 u3 P = (y = .non ∧ P (.bl (isN x)) true) := fun _ _ _ _ _ => rfl
theorem fNotIs_s : ∀ x y u2 u3 P, fNotIs  x y u2 u3 P = (y = .non ∧ P (.bl (!isN x)) true) := fun _ _ _ _ _ => rfl
theorem fEqD_s : ∀ x y u2 u3 P, fEqD  x y u2 u3 P = (shp x = true ∧ shp y = true ∧ P (.bl (PyData.eqv (toP x) (toP y))) true) := fun _ _ _ _ _ => rfl
theorem fNeD_s : ∀ x y u2 u3 P, fNeD  x y u2 u3 P = (shp x = true ∧ shp y = true ∧ P (.bl (!PyData.eqv (toP x) (toP y))) true) := fun _ _ _ _ _ => rfl
theorem fInD_s : ∀ x y u2 u3 P, fInD  x y u2 u3 P = (∃ ys, y = .lst ys ∧ shp x = true ∧ shp y = true ∧ P (.bl ((toPs ys).any fun z => PyData.eqv z (toP x))) true) := fun _ _ _ _ _ => rfl
theorem fNotInD_s : ∀ x y u2 u3 P, fNotInD  x y u2 u3 P = (∃ ys, y = .lst ys ∧ shp x = true ∧ shp y = true ∧ P (.bl (!(toPs ys).any fun z => PyData.eqv z (toP x))) true) := fun _ _ _ _ _ => rfl
theorem fCat_s : ∀ x y bx b P, fCat  x y bx b P = (∃ xs ys, x = .lst xs ∧ y = .lst ys ∧ xs.length + ys.length ≤ 100000 ∧ P (.lst (xs ++ ys)) ((bx || flats xs) && (b || flats ys))) := fun _ _ _ _ _ => rfl
theorem fCatT_s : ∀ x y bx b P, fCatT  x y bx b P = (∃ xs ys, x = .tup xs ∧ y = .tup ys ∧ xs.length + ys.length ≤ 100000 ∧ P (.tup (xs ++ ys)) ((bx || flats xs) && (b || flats ys))) := fun _ _ _ _ _ => rfl
theorem fCatS_s : ∀ x y u2 u3 P, fCatS  x y u2 u3 P = (∃ a b, x = .str a ∧ y = .str b ∧ a.length + b.length ≤ 100000 ∧ P (.str (a ++ b)) true) := fun _ _ _ _ _ => rfl
theorem fIxL_s : ∀ x y bx u3 P, fIxL  x y bx u3 P = (∃ xs i d, x = .lst xs ∧ y = .int i ∧ atI xs i = some d ∧ P d (bx || flat d)) := fun _ _ _ _ _ => rfl
theorem fIxT_s : ∀ x y bx u3 P, fIxT  x y bx u3 P = (∃ xs i d, x = .tup xs ∧ y = .int i ∧ atI xs i = some d ∧ P d (bx || flat d)) := fun _ _ _ _ _ => rfl
theorem fIxQ_s : ∀ x y bx u3 P, fIxQ  x y bx u3 P = (∃ xs i d, (x = .lst xs ∨ x = .tup xs) ∧ y = .int i ∧ atI xs i = some d ∧ P d (bx || flat d)) := fun _ _ _ _ _ => rfl
theorem dTest_s (de : DE) : ∀ ρ m er P, dTest de ρ m er P = (de ρ m er fun d _ => ∃ c, d = .bl c ∧ P c) := fun _ _ _ _ => rfl
theorem dNot_s (dt : DT) : ∀ ρ m er P, dNot dt ρ m er P = (dt ρ m er fun c => P (!c)) := fun _ _ _ _ => rfl
theorem dYes_s : ∀ u0 u1 u2 P, dYes  u0 u1 u2 P = (P true) := fun _ _ _ _ => rfl
theorem dNotV_s (da : DE) : ∀ ρ m er P, dNotV da ρ m er P = (da ρ m er fun d _ => ∃ c, d = .bl c ∧ P (.bl (!c)) true) := fun _ _ _ _ => rfl
theorem dUn_s (f : Int → D) (da : DE) : ∀ ρ m er P, dUn f da ρ m er P = (da ρ m er fun x _ => ∃ i, x = .int i ∧ P (f i) true) := fun _ _ _ _ => rfl
theorem dNil_s : ∀ u0 u1 u2 P, dNil  u0 u1 u2 P = (P []) := fun _ _ _ _ => rfl
theorem dCons_s (da : DE) (dr : DA) : ∀ ρ m er P, dCons da dr ρ m er P = (da ρ m er fun x b => dr ρ m er fun xs => P ((x, b) :: xs)) := fun _ _ _ _ => rfl
theorem dTup_s (dr : DA) : ∀ ρ m er P, dTup dr ρ m er P = (dr ρ m er fun ds => ds.length ≤ 1000 ∧ P (.tup (ds.map (·.1))) (allB ds)) := fun _ _ _ _ => rfl
theorem dLst_s (dr : DA) : ∀ ρ m er P, dLst dr ρ m er P = (dr ρ m er fun ds => ds.length ≤ 1000 ∧ P (.lst (ds.map (·.1))) (allB ds)) := fun _ _ _ _ => rfl
theorem dCB_s (f : List (D × Bool) → (D → Bool → Prop) → Prop) (dr : DA) : ∀ ρ m er P, dCB f dr ρ m er P = (dr ρ m er fun ds => f ds P) := fun _ _ _ _ => rfl
theorem fLen_s : ∀ ds P, fLen  ds P = (∃ xs b, (ds = [(.lst xs, b)] ∨ ds = [(.tup xs, b)]) ∧ P (.int xs.length) true) := fun _ _ => rfl
theorem fLenS_s : ∀ ds P, fLenS  ds P = (∃ z b, ds = [(.str z, b)] ∧ z.length ≤ 100000 ∧ P (.int z.length) true) := fun _ _ => rfl
theorem fAbs_s : ∀ ds P, fAbs  ds P = (∃ i b, ds = [(.int i, b)] ∧ P (.int (if i < 0 then -i else i)) true) := fun _ _ => rfl
theorem fMax2_s : ∀ ds P, fMax2  ds P = (∃ i j b c, ds = [(.int i, b), (.int j, c)] ∧ P (.int (if j > i then j else i)) true) := fun _ _ => rfl
theorem fMin2_s : ∀ ds P, fMin2  ds P = (∃ i j b c, ds = [(.int i, b), (.int j, c)] ∧ P (.int (if j < i then j else i)) true) := fun _ _ => rfl
theorem fInt1_s : ∀ ds P, fInt1  ds P = ((∃ i b, ds = [(.int i, b)] ∧ P (.int i) true) ∨ ∃ k b, ds = [(.bl k, b)] ∧ P (.int (if k = true then 1 else 0)) true) := fun _ _ => rfl
theorem fStr1_s : ∀ ds P, fStr1  ds P = (∃ i b, ds = [(.int i, b)] ∧ i.natAbs.log2 < 1920 ∧ P (.str (toString i)) true) := fun _ _ => rfl
theorem fTupOf_s : ∀ ds P, fTupOf  ds P = (∃ xs b, (ds = [(.lst xs, b)] ∨ ds = [(.tup xs, b)]) ∧ P (.tup xs) (b || flats xs)) := fun _ _ => rfl
theorem fListOf_s : ∀ ds P, fListOf  ds P = (∃ xs b, (ds = [(.lst xs, b)] ∨ ds = [(.tup xs, b)]) ∧ P (.lst xs) (b || flats xs)) := fun _ _ => rfl
theorem fMaxL_s : ∀ ds P, fMaxL  ds P = (∃ (ns : List Int) (b : Bool), ds = [(.lst (ns.map D.int), b)] ∧ 0 < ns.length ∧ ∀ m, m ∈ ns → (∀ y, y ∈ ns → y ≤ m) → P (.int m) true) := fun _ _ => rfl
theorem fMinL_s : ∀ ds P, fMinL  ds P = (∃ (ns : List Int) (b : Bool), ds = [(.lst (ns.map D.int), b)] ∧ 0 < ns.length ∧ ∀ m, m ∈ ns → (∀ y, y ∈ ns → m ≤ y) → P (.int m) true) := fun _ _ => rfl
theorem dNoPart_s : ∀ u0 u1 u2 P, dNoPart  u0 u1 u2 P = (P none) := fun _ _ _ _ => rfl
theorem dPart_s (de : DE) : ∀ ρ m er P, dPart de ρ m er P = (de ρ m er fun d _ => ∃ i, d = .int i ∧ P (some i)) := fun _ _ _ _ => rfl
theorem dSl_s (f : D → Bool → Option Int → Option Int → (D → Bool → Prop) → Prop) (de : DE) (dl dh : DO) : ∀ ρ m er P, dSl f de dl dh ρ m er P = (de ρ m er fun d b => dl ρ m er fun lo => dh ρ m er fun hi => f d b lo hi P) := fun _ _ _ _ => rfl
theorem fSlL_s : ∀ d b lo hi P, fSlL  d b lo hi P = (∃ xs, d = .lst xs ∧ P (.lst (cutL xs lo hi)) (b || flats (cutL xs lo hi))) := fun _ _ _ _ _ => rfl
theorem fSlT_s : ∀ d b lo hi P, fSlT  d b lo hi P = (∃ xs, d = .tup xs ∧ P (.tup (cutL xs lo hi)) (b || flats (cutL xs lo hi))) := fun _ _ _ _ _ => rfl
theorem fSlS_s : ∀ d u1 lo hi P, fSlS  d u1 lo hi P = (∃ z, d = .str z ∧ z.length ≤ 100000 ∧ P (.str (cutS z lo hi)) true) := fun _ _ _ _ _ => rfl
theorem dFld_s (K : PySem.W.Frag) (f : Str) (da : DE) : ∀ ρ m er P, dFld K f da ρ m er P = (da ρ m er fun x b => ∃ C fs d, x = .ins C fs ∧ Cls K (He.ga K C) ∧ NoAttr K (He.ga K C) f ∧ fs.lookup f = some d ∧ P d (b || flat d)) := fun _ _ _ _ => rfl
theorem dCall_s (F : List D → (D → Prop) → Prop) (dr : DA) : ∀ ρ m er P, dCall F dr ρ m er P = (dr ρ m er fun ds => F (ds.map (·.1)) fun d => P d true) := fun _ _ _ _ => rfl
theorem dCallX_s (F : List D → (Err → Prop) → (D → Prop) → Prop) (dr : DA) : ∀ ρ m er P, dCallX F dr ρ m er P = (dr ρ m er fun ds => F (ds.map (·.1)) er fun d => P d true) := fun _ _ _ _ => rfl
theorem dCallR_s (i : Nat) (F : List D → (D → Prop) → Prop) (dr : DA) : ∀ ρ m er P, dCallR i F dr ρ m er P = (slAt ρ i = .row ∧ dr ρ m er fun ds => F (ds.map (·.1)) fun d => P d true) := fun _ _ _ _ => rfl
theorem dgN_s (i : Nat) : ∀ d b P, dgN i d b P = (P [(i, d, b)]) := fun _ _ _ => rfl
theorem dgsN_s : ∀ ds P, dgsN  ds P = (ds = [] ∧ P []) := fun _ _ => rfl
theorem dgT_s (n : Nat) (dgs : DGs) : ∀ d b P, dgT n dgs d b P = (∃ ds, d = .tup ds ∧ ds.length = n ∧ dgs (ds.map fun x => (x, b || flat x)) P) := fun _ _ _ => rfl
theorem diL_s (de : DE) : ∀ ρ m er P, diL de ρ m er P = (de ρ m er fun d b => ∃ xs, d = .lst xs ∧ P xs b) := fun _ _ _ _ => rfl
theorem diT_s (de : DE) : ∀ ρ m er P, diT de ρ m er P = (de ρ m er fun d b => ∃ xs, d = .tup xs ∧ P xs b) := fun _ _ _ _ => rfl
theorem diS_s (de : DE) : ∀ ρ m er P, diS de ρ m er P = (de ρ m er fun d b => ∃ z, d = .str z ∧ P (strD z) true) := fun _ _ _ _ => rfl
theorem diR1_s (dr : DA) : ∀ ρ m er P, diR1 dr ρ m er P = (dr ρ m er fun ds => ∃ j b, ds = [(.int j, b)] ∧ -(2 ^ 62) ≤ j ∧ j < 2 ^ 62 ∧ P (rngD 0 j.toNat) true) := fun _ _ _ _ => rfl
theorem diR2_s (dr : DA) : ∀ ρ m er P, diR2 dr ρ m er P = (dr ρ m er fun ds => ∃ i j b c, ds = [(.int i, b), (.int j, c)] ∧ (-(2 ^ 62) ≤ i ∧ i < 2 ^ 62 ∧ -(2 ^ 62) ≤ j ∧ j < 2 ^ 62) ∧ P (rngD i (j - i).toNat) true) := fun _ _ _ _ => rfl
theorem dNext_s : ∀ κ ρ, dNext  κ ρ = (κ.nx ρ) := fun _ _ => rfl
theorem dBrk_s : ∀ κ ρ, dBrk  κ ρ = (κ.bk ρ) := fun _ _ => rfl
theorem dCont_s : ∀ κ ρ, dCont  κ ρ = (κ.ct ρ) := fun _ _ => rfl
theorem dDrop_s (de : DE) : ∀ κ ρ, dDrop de κ ρ = (de ρ .sh κ.er fun _ _ => κ.nx ρ) := fun _ _ => rfl
theorem dRet_s (de : DE) : ∀ κ ρ, dRet de κ ρ = (de ρ .rt κ.er fun d b => b = true ∧ κ.rt d) := fun _ _ => rfl
theorem dRetN_s : ∀ κ u1, dRetN  κ u1 = (κ.rt .non) := fun _ _ => rfl
theorem dAsgG_s (de : DE) (dg : DG) : ∀ κ ρ, dAsgG de dg κ ρ = (de ρ .fr κ.er fun d b => dg d b fun us => (us.all fun u => u.2.2) = true ∧ κ.nx (putF ρ us)) := fun _ _ => rfl
theorem fAppend_s : ∀ xs ds P, fAppend  xs ds P = (∃ d, ds = [(d, true)] ∧ xs.length < 100000 ∧ P (xs ++ [d])) := fun _ _ _ => rfl
theorem fExtend_s : ∀ xs ds P, fExtend  xs ds P = (∃ ys, ds = [(.lst ys, true)] ∧ xs.length + ys.length ≤ 100000 ∧ P (xs ++ ys)) := fun _ _ _ => rfl
theorem fInsert_s : ∀ xs ds P, fInsert  xs ds P = (∃ i c d, ds = [(.int i, c), (d, true)] ∧ xs.length < 100000 ∧ 0 ≤ i ∧ i < 2 ^ 63 ∧ P (xs.take i.toNat ++ [d] ++ xs.drop i.toNat)) := fun _ _ _ => rfl
theorem dMut_s (i : Nat) (f : List D → List (D × Bool) → (List D → Prop) → Prop) (dr : DA) : ∀ κ ρ, dMut i f dr κ ρ = (∃ xs, slAt ρ i = .ow (.lst xs) ∧ dr ρ .fr κ.er fun ds => f xs ds fun xs' => κ.nx (slPut ρ i (.ow (.lst xs')))) := fun _ _ => rfl
theorem dMutT_s (i : Nat) (z : Int) (f : List D → List (D × Bool) → (List D → Prop) → Prop) (dr : DA) : ∀ κ ρ, dMutT i z f dr κ ρ = (∃ xs ys, slAt ρ i = .dp (.tup xs) ∧ 0 ≤ z ∧ xs[z.toNat]? = some (.lst ys) ∧ dr ρ .sh κ.er fun ds => f ys ds fun _ => κ.nx (slPut ρ i .un)) := fun _ _ => rfl
theorem dMut0_s (i : Nat) (f : List D → List D) : ∀ κ ρ, dMut0 i f κ ρ = (∃ xs, slAt ρ i = .ow (.lst xs) ∧ κ.nx (slPut ρ i (.ow (.lst (f xs))))) := fun _ _ => rfl
theorem dRaise_s (C : Str) : ∀ κ u1, dRaise C κ u1 = (κ.er (.plain C)) := fun _ _ => rfl
theorem dRaiseN_s (C f : Str) (dr : DA) : ∀ κ ρ, dRaiseN C f dr κ ρ = (dr ρ .fr κ.er fun ds => ∃ n b, ds = [(.int n, b)] ∧ κ.er (.num C f n)) := fun _ _ => rfl
theorem dDNew_s : ∀ u0 u1 u2 P, dDNew  u0 u1 u2 P = (P (.dic []) true) := fun _ _ _ _ => rfl
theorem dDGet_s (da db : DE) : ∀ ρ m er P, dDGet da db ρ m er P = (da ρ m er fun x bx => db ρ m er fun y _ => ∃ es k d, x = .dic es ∧ y = keyD k ∧ lookD es k = some d ∧ P d (bx || flat d)) := fun _ _ _ _ => rfl
theorem dDIn_s (db da : DE) : ∀ ρ m er P, dDIn db da ρ m er P = (db ρ m er fun y _ => da ρ m er fun x _ => ∃ es k, x = .dic es ∧ y = keyD k ∧ P (.bl (lookD es k).isSome) true) := fun _ _ _ _ => rfl
theorem dDNotIn_s (db da : DE) : ∀ ρ m er P, dDNotIn db da ρ m er P = (db ρ m er fun y _ => da ρ m er fun x _ => ∃ es k, x = .dic es ∧ y = keyD k ∧ P (.bl (!(lookD es k).isSome)) true) := fun _ _ _ _ => rfl
theorem dDGet2_s (da db dc : DE) : ∀ ρ m er P, dDGet2 da db dc ρ m er P = (da ρ m er fun x bx => (∃ es, x = .dic es) ∧ db ρ m er fun y _ => dc ρ m er fun z bz => ∃ es k, x = .dic es ∧ y = keyD k ∧ P ((lookD es k).getD z) ((bx && bz) || flat ((lookD es k).getD z))) := fun _ _ _ _ => rfl
theorem dPs0_s : ∀ u0 u1 u2 P, dPs0  u0 u1 u2 P = (P []) := fun _ _ _ _ => rfl
theorem dPs1_s (da db : DE) (dps : DPs) : ∀ ρ m er P, dPs1 da db dps ρ m er P = (da ρ m er fun x _ => db ρ m er fun y _ => dps ρ m er fun ps => P ((x, y) :: ps)) := fun _ _ _ _ => rfl
theorem dDisp_s (dps : DPs) : ∀ ρ m er P, dDisp dps ρ m er P = (dps ρ m er fun ps => ∃ es : List (Key × D), ps = es.map (fun e => (keyD e.1, e.2)) ∧ (es.all fun e => flat e.2) = true ∧ es.length ≤ 15 ∧ P (.dic (mergeD [] es)) true) := fun _ _ _ _ => rfl
theorem dDPut_s (i : Nat) (dk dv : DE) : ∀ κ ρ, dDPut i dk dv κ ρ = (∃ es, slAt ρ i = .ow (.dic es) ∧ dv ρ .fr κ.er fun d b => b = true ∧ dk ρ .fr κ.er fun y _ => ∃ k, y = keyD k ∧ es.length < 100000 ∧ κ.nx (slPut ρ i (.ow (.dic (putD es k d))))) := fun _ _ => rfl
theorem dMeth_s (C m : Str) (F : List D → (D → Prop) → Prop) (da : DE) (dr : DA) : ∀ ρ md er P, dMeth C m F da dr ρ md er P = (da ρ md er fun x _ => (∃ fs, x = .ins C fs ∧ fs.lookup m = none) ∧ dr ρ md er fun ds => F (x :: ds.map (·.1)) fun d => P d true) := fun _ _ _ _ => rfl
theorem fIn_s (neg : Bool) : ∀ x y u2 u3 P, fIn neg x y u2 u3 P = (∃ ys, (y = .lst ys ∨ y = .tup ys) ∧ scD x = true ∧ ys.all scD = true ∧ P (.bl (if neg = true then !inV (vOf x) (ys.map vOf) else inV (vOf x) (ys.map vOf))) true) := fun _ _ _ _ _ => rfl
theorem dNever_s : ∀ u0 u1, dNever  u0 u1 = (False) := fun _ _ => rfl
theorem dLstR_s (da : DE) : ∀ ρ m er P, dLstR da ρ m er P = (da ρ m er fun x _ => ∃ n, x = .int n ∧ 0 ≤ n ∧ n ≤ 100000 ∧ P (.lst (rngD 0 n.toNat)) true) := fun _ _ _ _ => rfl
theorem fSortI_s : ∀ ds P, fSortI  ds P = (∃ (ns : List Int) (b : Bool), ds = [(.lst (ns.map D.int), b)] ∧ ∀ ns' : List Int, ns'.Perm ns → ns'.Pairwise (· ≤ ·) → P (.lst (ns'.map D.int)) true) := fun _ _ => rfl
theorem fMax3_s : ∀ ds P, fMax3  ds P = (∃ i j k b c d, ds = [(.int i, b), (.int j, c), (.int k, d)] ∧ P (.int (max (max i j) k)) true) := fun _ _ => rfl
theorem fRep_s : ∀ x y bx u3 P, fRep  x y bx u3 P = (∃ xs k, x = .lst xs ∧ y = .int k ∧ (0 ≤ k ∧ k ≤ 1000) ∧ xs.length * k.toNat ≤ 100000 ∧ P (.lst (List.replicate k.toNat xs).flatten) (bx || flats xs)) := fun _ _ _ _ _ => rfl
theorem dMutPop_s (i j : Nat) (de : DE) : ∀ κ ρ, dMutPop i j de κ ρ = (i ≠ j ∧ ∃ xs ys, slAt ρ j = .ow (.lst xs) ∧ slAt ρ i = .ow (.lst ys) ∧ de ρ .fr κ.er fun d _ => ∃ n : Int, d = .int n ∧ 0 ≤ n ∧ n < 2 ^ 62 ∧ ys.length < 100000 ∧ ∃ x, xs[n.toNat]? = some x ∧ κ.nx (slPut (slPut ρ j (.ow (.lst (xs.eraseIdx n.toNat)))) i (.ow (.lst (ys ++ [x]))))) := fun _ _ => rfl
theorem fSortK_s : ∀ ds P, fSortK  ds P = (∃ (its : List (Int × List D)) (b : Bool), ds = [(.lst (its.map fun x => .tup (.int x.1 :: x.2)), b)] ∧ (its.map (·.1)).Nodup ∧ ∀ its' : List (Int × List D), its'.Perm its → its'.Pairwise (fun x y => x.1 ≤ y.1) → P (.lst (its'.map fun x => .tup (.int x.1 :: x.2))) (b || flats (its.map fun x => .tup (.int x.1 :: x.2)))) := fun _ _ => rfl
theorem fSortD_s : ∀ ds P, fSortD  ds P = (∃ (es : List (Key × D)) (ks : List Int) (b : Bool), ds = [(.dic es, b)] ∧ es.map (·.1) = ks.map Sum.inl ∧ ks.length < 64 ∧ ∀ ys : List Int, ys.Perm ks → ys.Pairwise (· ≤ ·) → P (.lst (ys.map D.int)) true) := fun _ _ => rfl
theorem dPopG_s (j : Nat) (dk : DE) (dg : DG) : ∀ κ ρ, dPopG j dk dg κ ρ = (∃ es, slAt ρ j = .ow (.dic es) ∧ dk ρ .fr κ.er fun y _ => ∃ k d, y = keyD k ∧ lookD es k = some d ∧ flat d = true ∧ dg d true fun us => (us.all fun u => u.2.2) = true ∧ κ.nx (putF (slPut ρ j (.ow (.dic (dropD es k)))) us)) := fun _ _ => rfl
theorem dKeysWord_s (i j k : Nat) (ws : List Nat) : ∀ ρ u1 u2 P, dKeysWord i j k ws ρ u1 u2 P = (ws = [i] ∧ i ≠ j ∧ i ≠ k ∧ i < ρ.length ∧ ∃ (es : List (Int × Str × List D)) (z : Str), (slAt ρ j).dat = some (.dic (es.map fun e => (Sum.inl e.1, .tup (.str e.2.1 :: e.2.2)))) ∧ (slAt ρ k).dat = some (.str z) ∧ es.length ≤ 1000 ∧ (es.map (·.1)).Nodup ∧ P (.lst ((es.filter fun e => decide (e.2.1 = z)).map fun e => .int e.1)) true) := fun _ _ _ _ => rfl
theorem dIndex_s (da db : DE) : ∀ ρ m er P, dIndex da db ρ m er P = (da ρ m er fun x _ => ∃ ns : List Int, x = .lst (ns.map D.int) ∧ db ρ m er fun y _ => ∃ (n : Int) (j : Nat), y = .int n ∧ ns[j]? = some n ∧ (∀ i, i < j → ns[i]? ≠ some n) ∧ P (.int (j : Nat)) true) := fun _ _ _ _ => rfl
theorem dMaxDf_s (dr dk : DA) : ∀ ρ m er P, dMaxDf dr dk ρ m er P = (dr ρ m er fun ds => ∃ (ns : List Int) (b : Bool), ds = [(.lst (ns.map D.int), b)] ∧ dk ρ m er fun es => ∃ (d : Int) (c : Bool), es = [(.int d, c)] ∧ (ns = [] → P (.int d) true) ∧ ∀ m', m' ∈ ns → (∀ y ∈ ns, y ≤ m') → P (.int m') true) := fun _ _ _ _ => rfl
theorem dLenSet_s (de : DE) : ∀ ρ m er P, dLenSet de ρ m er P = (de ρ m er fun x _ => ∃ ns : List Int, x = .tup (ns.map D.int) ∧ ns.length ≤ 4000 ∧ ∀ n : Nat, Unl ns n → P (.int (n : Nat)) true) := fun _ _ _ _ => rfl
theorem fIsB_s : ∀ x y u2 u3 P, fIsB  x y u2 u3 P = (∃ a b, x = .bl a ∧ y = .bl b ∧ P (.bl (decide (a = b))) true) := fun _ _ _ _ _ => rfl
theorem fNotB_s : ∀ x y u2 u3 P, fNotB  x y u2 u3 P = (∃ a b, x = .bl a ∧ y = .bl b ∧ P (.bl (!decide (a = b))) true) := fun _ _ _ _ _ => rfl
theorem diLT_s (de : DE) : ∀ ρ m er P, diLT de ρ m er P = (diL de ρ m er P ∨ diT de ρ m er P) := fun _ _ _ _ => rfl
theorem dJoin_s (da db : DE) : ∀ ρ m er P, dJoin da db ρ m er P = (da ρ m er fun x _ => ∃ a : Str, x = .str a ∧ db ρ m er fun y _ => ∃ ys : List Str, y = .lst (ys.map D.str) ∧ (ys.map (·.length)).sum + ys.length * a.length ≤ 16777216 ∧ P (.str (PySem.Txt.join a ys)) true) := fun _ _ _ _ => rfl
theorem dSplit_s (da db : DE) : ∀ ρ m er P, dSplit da db ρ m er P = (da ρ m er fun x _ => ∃ a : Str, x = .str a ∧ db ρ m er fun y _ => ∃ z : Str, y = .str z ∧ (z.length == 0) = false ∧ a.length + 2 ≤ 100000 ∧ P (.lst ((PySem.Txt.split a z).map D.str)) true) := fun _ _ _ _ => rfl
theorem fIntS_s : ∀ ds P, fIntS  ds P = (∃ (a : Str) (n : Int) (b : Bool), ds = [(.str a, b)] ∧ PySem.intText? a = some n ∧ a.length ≤ 640 ∧ P (.int n) true) := fun _ _ => rfl
theorem fNotInC_s : ∀ x y u2 u3 P, fNotInC  x y u2 u3 P = (∃ (c : Nat) (z : Str), x = .str ⟨#[c]⟩ ∧ y = .str z ∧ P (.bl (!decide (c ∈ z.cps.toList))) true) := fun _ _ _ _ _ => rfl
theorem fIxS_s : ∀ x y u2 u3 P, fIxS  x y u2 u3 P = (∃ (z : Str) (i : Int) (c : Nat), x = .str z ∧ y = .int i ∧ z.length ≤ 100000 ∧ atI z.cps.toList i = some c ∧ P (.str ⟨#[c]⟩) true) := fun _ _ _ _ _ => rfl
theorem dNotLen_s (de : DE) : ∀ ρ m er P, dNotLen de ρ m er P = (de ρ m er fun x _ => ∃ z : Str, x = .str z ∧ P (.bl (!(lenOf z).isSome)) true) := fun _ _ _ _ => rfl
theorem dIxLen_s (de : DE) : ∀ ρ m er P, dIxLen de ρ m er P = (de ρ m er fun x _ => ∃ (z : Str) (v : Int), x = .str z ∧ lenOf z = some v ∧ P (.int v) true) := fun _ _ _ _ => rfl
theorem dListRev_s (de : DE) : ∀ ρ m er P, dListRev de ρ m er P = (de ρ m er fun x b => ∃ xs : List D, x = .lst xs ∧ P (.lst xs.reverse) (b || flats xs.reverse)) := fun _ _ _ _ => rfl
theorem dLenSetLT_s (de : DE) : ∀ ρ m er P, dLenSetLT de ρ m er P = (de ρ m er fun x _ => ∃ ns : List Int, ns.length ≤ 4000 ∧ ((x = .tup (ns.map D.int) ∧ ∀ n : Nat, Unl ns n → P (.int (n : Nat)) true) ∨ (x = .lst (ns.map D.int) ∧ ns.Nodup ∧ P (.int (ns.length : Nat)) true))) := fun _ _ _ _ => rfl
/-- which way: the same as if, but a word of ours -/
theorem dIf_s (dt : DT) (da db : DE) : ∀ ρ m er P, dIf dt da db ρ m er P = (dt ρ m er fun c => if c = true then da ρ m er P else db ρ m er P) := fun _ _ _ _ => rfl
theorem nxT_s (dz : DS) (κ : KS) (ρ : List Sl) : nxT dz κ ρ = dz κ ρ := rfl
theorem dSeq_s (ds dz : DS) (kd : Nat → Kd) (nx : List Sl → Prop) (rt : D → Prop) (er : Err → Prop) (bk ct : List Sl → Prop) (ρ : List Sl) : dSeq ds dz ⟨kd, nx, rt, er, bk, ct⟩ ρ = ds ⟨kd, nxT dz ⟨kd, nx, rt, er, bk, ct⟩, rt, er, bk, ct⟩ ρ := rfl
theorem dIfS_s (dt : DT) (ds dz : DS) : ∀ κ ρ, dIfS dt ds dz κ ρ = (dt ρ .sh κ.er fun c => if c = true then ds κ ρ else dz κ ρ) := fun _ _ => rfl
theorem dAnd_s (dt du : DT) : ∀ ρ m er P, dAnd dt du ρ m er P = (dt ρ m er fun c => if c = true then du ρ m er P else P false) := fun _ _ _ _ => rfl
theorem dOr_s (dt du : DT) : ∀ ρ m er P, dOr dt du ρ m er P = (dt ρ m er fun c => if c = true then P true else du ρ m er P) := fun _ _ _ _ => rfl
theorem dAndV_s (da db : DE) : ∀ ρ m er P, dAndV da db ρ m er P = (da ρ m er fun d _ => ∃ c, d = .bl c ∧ if c = true then db ρ m er P else P (.bl false) true) := fun _ _ _ _ => rfl
theorem dOrV_s (da db : DE) : ∀ ρ m er P, dOrV da db ρ m er P = (da ρ m er fun d _ => ∃ c, d = .bl c ∧ if c = true then P (.bl true) true else db ρ m er P) := fun _ _ _ _ => rfl
theorem dChain_s (f f' : D → D → Bool → Bool → (D → Bool → Prop) → Prop) (da db dc : DE) : ∀ ρ m er P, dChain f f' da db dc ρ m er P = (da ρ m er fun x bx => db ρ m er fun y b => f x y bx b fun z _ => ∃ c, z = .bl c ∧ if c = true then dc ρ m er fun w bw => f' y w b bw P else P (.bl false) true) := fun _ _ _ _ => rfl
theorem dAsg_fr {i : Nat} {de : DE} {κ : KS} {ρ : List Sl} (h : κ.kd i = .fr) : dAsg i de κ ρ = (de ρ .fr κ.er fun d b => b = true ∧ κ.nx (slPut ρ i (.fr d))) := by unfold dAsg; rw [h]
theorem dAsg_sh {i : Nat} {de : DE} {κ : KS} {ρ : List Sl} (h : κ.kd i = .sh) : dAsg i de κ ρ = (de ρ .sh κ.er fun d b => b = true ∧ κ.nx (slPut ρ i (.sh d))) := by unfold dAsg; rw [h]
theorem dAsg_ow {i : Nat} {de : DE} {κ : KS} {ρ : List Sl} (h : κ.kd i = .ow) : dAsg i de κ ρ = (de ρ .nw κ.er fun d b => b = true ∧ flatLD d = true ∧ κ.nx (slPut ρ i (.ow d))) := by unfold dAsg; rw [h]
theorem dAsg_dp {i : Nat} {de : DE} {κ : KS} {ρ : List Sl} (h : κ.kd i = .dp) : dAsg i de κ ρ = (de ρ .nw κ.er fun d b => b = true ∧ κ.nx (slPut ρ i (.dp d))) := by unfold dAsg; rw [h]
theorem dAsgV_ow {i j : Nat} {κ : KS} {ρ : List Sl} {d : D} (h : slAt ρ j = .ow d) (k : κ.kd i = .fr) : dAsgV i j κ ρ = κ.nx (slPut (slPut ρ j (.fr d)) i (.fr d)) := by unfold dAsgV; rw [h]; simp only [k]
theorem dAsgV_sh {i j : Nat} {κ : KS} {ρ : List Sl} {d : D} (h : slAt ρ j = .sh d) : dAsgV i j κ ρ = dAsg i (dVar j) κ ρ := by unfold dAsgV; rw [h]
theorem dAsgV_fr {i j : Nat} {κ : KS} {ρ : List Sl} {d : D} (h : slAt ρ j = .fr d) : dAsgV i j κ ρ = dAsg i (dVar j) κ ρ := by unfold dAsgV; rw [h]
theorem dAsgL_ow {i : Nat} {dr : DA} {κ : KS} {ρ : List Sl} (k : κ.kd i = .ow) : dAsgL i dr κ ρ = (dr ρ .fr κ.er fun ds => ds.length ≤ 1000 ∧ allB ds = true ∧ κ.nx (slPut ρ i (.ow (.lst (ds.map (·.1)))))) := by unfold dAsgL; rw [k]
theorem dAsgL_fr {i : Nat} {dr : DA} {κ : KS} {ρ : List Sl} (k : κ.kd i = .fr) : dAsgL i dr κ ρ = dAsg i (dLst dr) κ ρ := by unfold dAsgL; rw [k]
theorem dForV_ow {j : Nat} {dg : DG} {ds : DS} {κ : KS} {ρ : List Sl} {d : D} (h : slAt ρ j = .ow d) : dForV j dg ds κ ρ = dFor (diL (dVar j)) dg ds κ (slPut ρ j (.fr d)) := by unfold dForV; rw [h]
theorem dForV_fr {j : Nat} {dg : DG} {ds : DS} {κ : KS} {ρ : List Sl} {d : D} (h : slAt ρ j = .fr d) : dForV j dg ds κ ρ = dFor (diL (dVar j)) dg ds κ ρ := by unfold dForV; rw [h]
theorem dForV_sh {j : Nat} {dg : DG} {ds : DS} {κ : KS} {ρ : List Sl} {d : D} (h : slAt ρ j = .sh d) : dForV j dg ds κ ρ = dFor (diL (dVar j)) dg ds κ ρ := by unfold dForV; rw [h]
theorem atI_0 {α : Type} (x0 : α) (xs : List α) : atI (x0 :: xs) 0 = some x0 := atI_nat (j := 0) rfl
theorem atI_1 {α : Type} (x0 x1 : α) (xs : List α) : atI (x0 :: x1 :: xs) 1 = some x1 := atI_nat (j := 1) rfl
theorem atI_2 {α : Type} (x0 x1 x2 : α) (xs : List α) : atI (x0 :: x1 :: x2 :: xs) 2 = some x2 := atI_nat (j := 2) rfl
theorem atI_3 {α : Type} (x0 x1 x2 x3 : α) (xs : List α) : atI (x0 :: x1 :: x2 :: x3 :: xs) 3 = some x3 := atI_nat (j := 3) rfl
theorem atI_4 {α : Type} (x0 x1 x2 x3 x4 : α) (xs : List α) : atI (x0 :: x1 :: x2 :: x3 :: x4 :: xs) 4 = some x4 := atI_nat (j := 4) rfl
theorem atI_5 {α : Type} (x0 x1 x2 x3 x4 x5 : α) (xs : List α) : atI (x0 :: x1 :: x2 :: x3 :: x4 :: x5 :: xs) 5 = some x5 := atI_nat (j := 5) rfl
theorem atI_6 {α : Type} (x0 x1 x2 x3 x4 x5 x6 : α) (xs : List α) : atI (x0 :: x1 :: x2 :: x3 :: x4 :: x5 :: x6 :: xs) 6 = some x6 := atI_nat (j := 6) rfl
theorem atI_7 {α : Type} (x0 x1 x2 x3 x4 x5 x6 x7 : α) (xs : List α) : atI (x0 :: x1 :: x2 :: x3 :: x4 :: x5 :: x6 :: x7 :: xs) 7 = some x7 := atI_nat (j := 7) rfl
theorem atI_m0 {α : Type} (x0 : α) : atI [x0] (-1) = some x0 := by unfold atI; rfl
theorem atI_m1 {α : Type} (x0 x1 : α) : atI [x0, x1] (-1) = some x1 := by unfold atI; rfl
theorem atI_m2 {α : Type} (x0 x1 x2 : α) : atI [x0, x1, x2] (-1) = some x2 := by unfold atI; rfl
theorem dgsC_1 (dg : DG) (dgs : DGs) (x : D × Bool) (r : List (D × Bool)) (P : List (Nat × D × Bool) → Prop) : dgsC dg dgs (x :: r) P = (dg x.1 x.2 fun us => dgs r fun us' => P (us ++ us')) := propext ⟨fun ⟨x', r', e, h⟩ => by cases e; exact h, fun h => ⟨x, r, rfl, h⟩⟩
theorem dat_un : (Sl.un).dat = none := rfl
theorem dat_row : (Sl.row).dat = none := rfl
theorem dat_sh (d : D) : (Sl.sh d).dat = some d := rfl
theorem dat_fr (d : D) : (Sl.fr d).dat = some d := rfl
theorem dat_ow (d : D) : (Sl.ow d).dat = some d := rfl
theorem dat_dp (d : D) : (Sl.dp d).dat = some d := rfl
theorem dat_st (d : D) : (Sl.st d).dat = some d := rfl
theorem dat_wk (d : D) : (Sl.wk d).dat = some d := rfl
theorem ok_sh_sh (d : D) : okIn (.sh d) .sh = true := rfl
theorem ok_sh_fr (d : D) : okIn (.sh d) .fr = false := rfl
theorem ok_sh_nw (d : D) : okIn (.sh d) .nw = false := rfl
theorem ok_sh_rt (d : D) : okIn (.sh d) .rt = false := rfl
theorem ok_fr_sh (d : D) : okIn (.fr d) .sh = true := rfl
theorem ok_fr_fr (d : D) : okIn (.fr d) .fr = true := rfl
theorem ok_fr_nw (d : D) : okIn (.fr d) .nw = false := rfl
theorem ok_fr_rt (d : D) : okIn (.fr d) .rt = true := rfl
theorem ok_ow_sh (d : D) : okIn (.ow d) .sh = false := rfl
theorem ok_ow_fr (d : D) : okIn (.ow d) .fr = false := rfl
theorem ok_ow_nw (d : D) : okIn (.ow d) .nw = false := rfl
theorem ok_ow_rt (d : D) : okIn (.ow d) .rt = true := rfl
theorem ok_dp_sh (d : D) : okIn (.dp d) .sh = false := rfl
theorem ok_dp_fr (d : D) : okIn (.dp d) .fr = false := rfl
theorem ok_dp_nw (d : D) : okIn (.dp d) .nw = false := rfl
theorem ok_dp_rt (d : D) : okIn (.dp d) .rt = true := rfl
theorem ok_st_sh (d : D) : okIn (.st d) .sh = true := rfl
theorem ok_st_fr (d : D) : okIn (.st d) .fr = true := rfl
theorem ok_st_nw (d : D) : okIn (.st d) .nw = true := rfl
theorem ok_st_rt (d : D) : okIn (.st d) .rt = true := rfl
theorem ok_wk_sh (d : D) : okIn (.wk d) .sh = false := rfl
theorem ok_wk_fr (d : D) : okIn (.wk d) .fr = false := rfl
theorem ok_wk_nw (d : D) : okIn (.wk d) .nw = false := rfl
theorem ok_wk_rt (d : D) : okIn (.wk d) .rt = false := rfl
theorem eqS_ii (i j : Int) : eqS (.int i) (.int j) = some (decide (i = j)) := rfl
theorem eqS_ss (i j : Str) : eqS (.str i) (.str j) = some (decide (i = j)) := rfl
theorem eqS_bb (i j : Bool) : eqS (.bl i) (.bl j) = some (i == j) := rfl
theorem eqS_nn : eqS .non .non = some true := rfl
theorem eqS_ni (i : Int) : eqS .non (.int i) = some false := rfl
theorem eqS_in (i : Int) : eqS (.int i) .non = some false := rfl
theorem eqS_ns (i : Str) : eqS .non (.str i) = some false := rfl
theorem eqS_sn (i : Str) : eqS (.str i) .non = some false := rfl
theorem eqS_is (i : Int) (j : Str) : eqS (.int i) (.str j) = some false := rfl
theorem eqS_si (i : Int) (j : Str) : eqS (.str j) (.int i) = some false := rfl
theorem isN_n : isN .non = true := rfl
theorem isN_i (i : Int) : isN (.int i) = false := rfl
theorem isN_s (i : Str) : isN (.str i) = false := rfl
theorem isN_b (i : Bool) : isN (.bl i) = false := rfl
theorem isN_l (i : List D) : isN (.lst i) = false := rfl
theorem isN_t (i : List D) : isN (.tup i) = false := rfl
theorem flatLD_l (xs : List D) : flatLD (.lst xs) = flats xs := rfl
theorem flatLD_d (es : List (Key × D)) : flatLD (.dic es) = es.all fun e => flat e.2 := rfl
theorem key_eqs (z : Str) (k : Key) : (D.str z = keyD k) = (k = .inr z) := propext ⟨fun h => by cases k with | inl i => cases h | inr y => cases h; rfl, fun h => by rw [h]; rfl⟩
theorem key_eqi (z : Int) (k : Key) : (D.int z = keyD k) = (k = .inl z) := propext ⟨fun h => by cases k with | inr i => cases h | inl y => cases h; rfl, fun h => by rw [h]; rfl⟩
theorem keyD_i (i : Int) : keyD (.inl i) = .int i := rfl
theorem keyD_s (i : Str) : keyD (.inr i) = .str i := rfl
theorem fl_l (xs : List D) : flat (.lst xs) = false := rfl
theorem fl_t (xs : List D) : flat (.tup xs) = flats xs := rfl
theorem fl_n : flat .non = true := rfl
theorem fl_i (i : Int) : flat (.int i) = true := rfl
theorem fl_s (i : Str) : flat (.str i) = true := rfl
theorem fl_b (i : Bool) : flat (.bl i) = true := rfl
theorem fl_d (i : List (Key × D)) : flat (.dic i) = false := rfl
theorem fl_o (C : Str) (i : List (Str × D)) : flat (.ins C i) = false := rfl
theorem fls_0 : flats [] = true := rfl
theorem fls_1 (x : D) (xs : List D) : flats (x :: xs) = (flat x && flats xs) := rfl
theorem slAt_0 (s : Sl) (l : List Sl) : slAt (s :: l) 0 = s := rfl
theorem slAt_s (s : Sl) (l : List Sl) (n : Nat) : slAt (s :: l) (n + 1) = slAt l n := rfl
theorem slPut_0 (s x : Sl) (l : List Sl) : slPut (s :: l) 0 x = x :: l := rfl
theorem slPut_s (s x : Sl) (l : List Sl) (n : Nat) : slPut (s :: l) (n + 1) x = s :: slPut l n x := rfl
theorem wipeS_0 (ρ : List Sl) : wipeS ρ [] = ρ := rfl
theorem wipeS_1 (ρ : List Sl) (v : Nat) (vs : List Nat) : wipeS ρ (v :: vs) = slPut (wipeS ρ vs) v .un := rfl
theorem putG_0 (ρ : List Sl) : putG ρ [] = ρ := rfl
theorem putG_1 (ρ : List Sl) (x : Nat × D × Bool) (xs : List (Nat × D × Bool)) : putG ρ (x :: xs) = putG (slPut ρ x.1 (stk x.2.2 x.2.1)) xs := rfl
theorem putF_0 (ρ : List Sl) : putF ρ [] = ρ := rfl
theorem putF_1 (ρ : List Sl) (x : Nat × D × Bool) (xs : List (Nat × D × Bool)) : putF ρ (x :: xs) = putF (slPut ρ x.1 (.fr x.2.1)) xs := rfl
theorem putI_0 (m : Md) (ρ : List Sl) : putI m ρ [] = ρ := rfl
theorem putI_1 (m : Md) (ρ : List Sl) (x : Nat × D × Bool) (xs : List (Nat × D × Bool)) : putI m ρ (x :: xs) = putI m (slPut ρ x.1 (itS m x.2.1)) xs := rfl
theorem itS_fr (d : D) : itS .fr d = .fr d := rfl
theorem itS_sh {d : D} (h : flat d = true) : itS .sh d = .fr d := if_pos h
theorem itS_sh_i (i : Int) : itS .sh (.int i) = .fr (.int i) := rfl
theorem stk_t (d : D) : stk true d = .st d := rfl
theorem stk_f (d : D) : stk false d = .wk d := rfl
theorem allB_0 : allB [] = true := rfl
theorem allB_1 (x : D × Bool) (xs : List (D × Bool)) : allB (x :: xs) = (x.2 && allB xs) := rfl
theorem lcTurn_s (dg : DG) (dt : DT) (de : DE) (ws : List Nat) (ρ : List Sl) (m : Md) (er : Err → Prop) : ∀ x b Y N, lcTurn dg dt de ws ρ m er x b Y N = (dg x b fun us => (us.all fun u => ws.contains u.1) = true ∧ dt (putG (wipeS ρ ws) us) m er fun c => if c = true then de (putG (wipeS ρ ws) us) m er Y else N) := fun _ _ _ _ => rfl
theorem lk_Rules_many (v0 v1 v2 v3 v4 v5 v6 v7 : D) : List.lookup ("many" : Str) [("many", v0), ("told", v1), ("open_time", v2), ("hold", v3), ("keep", v4), ("rest", v5), ("wire", v6), ("gap", v7)] = some v0 := rfl
theorem lk_Rules_told (v0 v1 v2 v3 v4 v5 v6 v7 : D) : List.lookup ("told" : Str) [("many", v0), ("told", v1), ("open_time", v2), ("hold", v3), ("keep", v4), ("rest", v5), ("wire", v6), ("gap", v7)] = some v1 := rfl
theorem lk_Rules_open_time (v0 v1 v2 v3 v4 v5 v6 v7 : D) : List.lookup ("open_time" : Str) [("many", v0), ("told", v1), ("open_time", v2), ("hold", v3), ("keep", v4), ("rest", v5), ("wire", v6), ("gap", v7)] = some v2 := rfl
theorem lk_Rules_hold (v0 v1 v2 v3 v4 v5 v6 v7 : D) : List.lookup ("hold" : Str) [("many", v0), ("told", v1), ("open_time", v2), ("hold", v3), ("keep", v4), ("rest", v5), ("wire", v6), ("gap", v7)] = some v3 := rfl
theorem lk_Rules_keep (v0 v1 v2 v3 v4 v5 v6 v7 : D) : List.lookup ("keep" : Str) [("many", v0), ("told", v1), ("open_time", v2), ("hold", v3), ("keep", v4), ("rest", v5), ("wire", v6), ("gap", v7)] = some v4 := rfl
theorem lk_Rules_rest (v0 v1 v2 v3 v4 v5 v6 v7 : D) : List.lookup ("rest" : Str) [("many", v0), ("told", v1), ("open_time", v2), ("hold", v3), ("keep", v4), ("rest", v5), ("wire", v6), ("gap", v7)] = some v5 := rfl
theorem lk_Rules_wire (v0 v1 v2 v3 v4 v5 v6 v7 : D) : List.lookup ("wire" : Str) [("many", v0), ("told", v1), ("open_time", v2), ("hold", v3), ("keep", v4), ("rest", v5), ("wire", v6), ("gap", v7)] = some v6 := rfl
theorem lk_Rules_gap (v0 v1 v2 v3 v4 v5 v6 v7 : D) : List.lookup ("gap" : Str) [("many", v0), ("told", v1), ("open_time", v2), ("hold", v3), ("keep", v4), ("rest", v5), ("wire", v6), ("gap", v7)] = some v7 := rfl
theorem lk_Rules_banks (v0 v1 v2 v3 v4 v5 v6 v7 : D) : List.lookup ("banks" : Str) [("many", v0), ("told", v1), ("open_time", v2), ("hold", v3), ("keep", v4), ("rest", v5), ("wire", v6), ("gap", v7)] = none := rfl
theorem lk_Rules_times (v0 v1 v2 v3 v4 v5 v6 v7 : D) : List.lookup ("times" : Str) [("many", v0), ("told", v1), ("open_time", v2), ("hold", v3), ("keep", v4), ("rest", v5), ("wire", v6), ("gap", v7)] = none := rfl
theorem lk_Bank_row (v0 v1 v2 v3 : D) : List.lookup ("row" : Str) [("row", v0), ("opened", v1), ("touched", v2), ("shut_at", v3)] = some v0 := rfl
theorem lk_Bank_opened (v0 v1 v2 v3 : D) : List.lookup ("opened" : Str) [("row", v0), ("opened", v1), ("touched", v2), ("shut_at", v3)] = some v1 := rfl
theorem lk_Bank_touched (v0 v1 v2 v3 : D) : List.lookup ("touched" : Str) [("row", v0), ("opened", v1), ("touched", v2), ("shut_at", v3)] = some v2 := rfl
theorem lk_Bank_shut_at (v0 v1 v2 v3 : D) : List.lookup ("shut_at" : Str) [("row", v0), ("opened", v1), ("touched", v2), ("shut_at", v3)] = some v3 := rfl
theorem lk_Watch_rules (v0 v1 v2 v3 v4 : D) : List.lookup ("rules" : Str) [("rules", v0), ("every", v1), ("last", v2), ("opened", v3), ("touched", v4)] = some v0 := rfl
theorem lk_Watch_every (v0 v1 v2 v3 v4 : D) : List.lookup ("every" : Str) [("rules", v0), ("every", v1), ("last", v2), ("opened", v3), ("touched", v4)] = some v1 := rfl
theorem lk_Watch_last (v0 v1 v2 v3 v4 : D) : List.lookup ("last" : Str) [("rules", v0), ("every", v1), ("last", v2), ("opened", v3), ("touched", v4)] = some v2 := rfl
theorem lk_Watch_opened (v0 v1 v2 v3 v4 : D) : List.lookup ("opened" : Str) [("rules", v0), ("every", v1), ("last", v2), ("opened", v3), ("touched", v4)] = some v3 := rfl
theorem lk_Watch_touched (v0 v1 v2 v3 v4 : D) : List.lookup ("touched" : Str) [("rules", v0), ("every", v1), ("last", v2), ("opened", v3), ("touched", v4)] = some v4 := rfl
theorem lk_Watch_bar (v0 v1 v2 v3 v4 : D) : List.lookup ("bar" : Str) [("rules", v0), ("every", v1), ("last", v2), ("opened", v3), ("touched", v4)] = none := rfl
theorem lk_Watch_bar_of_open (v0 v1 v2 v3 v4 : D) : List.lookup ("bar_of_open" : Str) [("rules", v0), ("every", v1), ("last", v2), ("opened", v3), ("touched", v4)] = none := rfl
theorem lk_Table_rules (v0 v1 v2 v3 : D) : List.lookup ("rules" : Str) [("rules", v0), ("every", v1), ("plan", v2), ("ends", v3)] = some v0 := rfl
theorem lk_Table_every (v0 v1 v2 v3 : D) : List.lookup ("every" : Str) [("rules", v0), ("every", v1), ("plan", v2), ("ends", v3)] = some v1 := rfl
theorem lk_Table_plan (v0 v1 v2 v3 : D) : List.lookup ("plan" : Str) [("rules", v0), ("every", v1), ("plan", v2), ("ends", v3)] = some v2 := rfl
theorem lk_Table_ends (v0 v1 v2 v3 : D) : List.lookup ("ends" : Str) [("rules", v0), ("every", v1), ("plan", v2), ("ends", v3)] = some v3 := rfl
theorem lk_Table_first (v0 v1 v2 v3 : D) : List.lookup ("first" : Str) [("rules", v0), ("every", v1), ("plan", v2), ("ends", v3)] = none := rfl
theorem lk_Table_is_near (v0 v1 v2 v3 : D) : List.lookup ("is_near" : Str) [("rules", v0), ("every", v1), ("plan", v2), ("ends", v3)] = none := rfl
theorem lk_Search_rules (v0 v1 v2 v3 : D) : List.lookup ("rules" : Str) [("rules", v0), ("asks", v1), ("bound", v2), ("best", v3)] = some v0 := rfl
theorem lk_Search_asks (v0 v1 v2 v3 : D) : List.lookup ("asks" : Str) [("rules", v0), ("asks", v1), ("bound", v2), ("best", v3)] = some v1 := rfl
theorem lk_Search_bound (v0 v1 v2 v3 : D) : List.lookup ("bound" : Str) [("rules", v0), ("asks", v1), ("bound", v2), ("best", v3)] = some v2 := rfl
theorem lk_Search_best (v0 v1 v2 v3 : D) : List.lookup ("best" : Str) [("rules", v0), ("asks", v1), ("bound", v2), ("best", v3)] = some v3 := rfl
end
end Bk

/-! Data: how the words are used. -/
namespace Bk
open PySem L2
theorem dFor_of {di : DI} {dg : DG} {db : DS} {κ : KS} {ρ : List Sl} (m : Md) (hm : m = Md.sh ∨ m = Md.fr) (xs : List D) (hdi : ∀ P : List D → Bool → Prop, P xs true → di ρ m κ.er P) (I : Nat → List Sl → Prop) (h0 : I 0 ρ)
    (hs : ∀ i x ρ', xs[i]? = some x → I i ρ' → dg x true fun us => (us.all fun u => u.2.2) = true ∧ db { κ with nx := I (i + 1), ct := I (i + 1), bk := κ.nx } (putI m ρ' us)) (hf : ∀ ρ', I xs.length ρ' → κ.nx ρ') : dFor di dg db κ ρ :=
  ⟨m, hm, hdi _ ⟨rfl, I, h0, hs, hf⟩⟩
/-- the walked list is not told by one name -/
theorem dFor_w {di : DI} {dg : DG} {db : DS} {κ : KS} {ρ : List Sl} (m : Md) (hm : m = Md.sh ∨ m = Md.fr) (S : List D → Prop) (hdi : ∀ P : List D → Bool → Prop, (∀ xs, S xs → P xs true) → di ρ m κ.er P)
    (h : ∀ xs, S xs → ∃ I : Nat → List Sl → Prop, I 0 ρ ∧ (∀ i x ρ', xs[i]? = some x → I i ρ' → dg x true fun us => (us.all fun u => u.2.2) = true ∧ db { κ with nx := I (i + 1), ct := I (i + 1), bk := κ.nx } (putI m ρ' us)) ∧ ∀ ρ', I xs.length ρ' → κ.nx ρ') : dFor di dg db κ ρ :=
  ⟨m, hm, hdi _ fun xs hx => ⟨rfl, h xs hx⟩⟩
theorem rng_at {lo : Int} {n i : Nat} {x : D} (h : (rngD lo n)[i]? = some x) : x = .int (lo + i) ∧ i < n := by
  unfold rngD at h
  obtain ⟨j, hj, rfl⟩ := map_at h
  have := (List.getElem?_eq_some_iff.mp hj)
  obtain ⟨h1, h2⟩ := this
  rw [List.getElem_range] at h2
  rw [List.length_range] at h1
  subst h2
  exact ⟨rfl, h1⟩
theorem rng_len {lo : Int} {n : Nat} : (rngD lo n).length = n := by simp [rngD]
/-- a while: what holds at each turn, and what falls -/
theorem dWhile_of {dt : DT} {ds : DS} {κ : KS} {ρ : List Sl} (I : Nat → List Sl → Prop) (n : Nat) (h0 : I n ρ) (h : ∀ n ρ', I n ρ' → dt ρ' .sh κ.er fun c => if c = true then ds { κ with nx := fun ρ'' => ∃ k, k < n ∧ I k ρ'', ct := fun ρ'' => ∃ k, k < n ∧ I k ρ'', bk := κ.nx } ρ' else κ.nx ρ') : dWhile dt ds κ ρ := ⟨I, ⟨n, h0⟩, h⟩
/-- a comprehension, item by item: p which are kept, h what is made of them -/
theorem dLc_of {α : Type} {di : DI} {dg : DG} {dt : DT} {de : DE} {ws : List Nat} {ρ : List Sl} {m : Md} {er : Err → Prop} {P : D → Bool → Prop} (l : List α) (enc : α → D) (b : Bool) (p : α → Bool) (h : α → D) (hl : l.length ≤ 100000)
    (hdi : ∀ P : List D → Bool → Prop, P (l.map enc) b → di ρ m er P)
    (hx : ∀ a ∈ l, ∀ (Y : D → Bool → Prop) (N : Prop), (if p a = true then Y (h a) true else N) → lcTurn dg dt de ws ρ m er (enc a) (b || flat (enc a)) Y N)
    (hP : P (.lst ((l.filter p).map h)) true) : dLc di dg dt de ws ρ m er P := by
  refine hdi _ ⟨by rw [List.length_map]; exact hl, ?_⟩
  have key : ∀ (l : List α) (acc : List D) (N : List D → Prop), (∀ a ∈ l, ∀ (Y : D → Bool → Prop) (N : Prop), (if p a = true then Y (h a) true else N) → lcTurn dg dt de ws ρ m er (enc a) (b || flat (enc a)) Y N) → N (acc ++ (l.filter p).map h) → lcGo (lcTurn dg dt de ws ρ m er) b (l.map enc) acc N := by
    intro l
    induction l with
    | nil => intro acc N _ hN; rw [List.filter_nil, List.map_nil, List.append_nil] at hN; exact hN
    | cons a l ih =>
      intro acc N hx hN
      refine hx a List.mem_cons_self _ _ ?_
      by_cases c : p a = true
      · rw [if_pos c]
        refine ⟨rfl, ih _ _ (fun a' ha' => hx a' (List.mem_cons_of_mem _ ha')) ?_⟩
        rw [List.filter_cons_of_pos c, List.map_cons] at hN
        rw [List.append_assoc]
        exact hN
      · rw [if_neg c]
        rw [List.filter_cons_of_neg c] at hN
        exact ih _ _ (fun a' ha' => hx a' (List.mem_cons_of_mem _ ha')) hN
  exact key l [] _ hx (by rw [List.nil_append]; exact hP)
/-- all kept -/
theorem dLc_map {α : Type} {di : DI} {dg : DG} {dt : DT} {de : DE} {ws : List Nat} {ρ : List Sl} {m : Md} {er : Err → Prop} {P : D → Bool → Prop} (l : List α) (enc : α → D) (b : Bool) (h : α → D) (hl : l.length ≤ 100000)
    (hdi : ∀ P : List D → Bool → Prop, P (l.map enc) b → di ρ m er P)
    (hx : ∀ a ∈ l, ∀ (Y : D → Bool → Prop) (N : Prop), Y (h a) true → lcTurn dg dt de ws ρ m er (enc a) (b || flat (enc a)) Y N)
    (hP : P (.lst (l.map h)) true) : dLc di dg dt de ws ρ m er P :=
  dLc_of l enc b (fun _ => true) h hl hdi (fun a ha Y N z => hx a ha Y N (by rwa [if_pos rfl] at z)) (by rw [List.filter_eq_self.mpr (fun _ _ => rfl)]; exact hP)
/-- by a statement over what is made so far -/
theorem dLc_inv {di : DI} {dg : DG} {dt : DT} {de : DE} {ws : List Nat} {ρ : List Sl} {m : Md} {er : Err → Prop} {P : D → Bool → Prop} (xs : List D) (b : Bool) (I : Nat → List D → Prop) (hl : xs.length ≤ 100000)
    (hdi : ∀ P : List D → Bool → Prop, P xs b → di ρ m er P) (h0 : I 0 [])
    (hx : ∀ (i : Nat) (x : D) (acc : List D) (Y : D → Bool → Prop) (N : Prop), xs[i]? = some x → I i acc → (∀ y, I (i + 1) (acc ++ [y]) → Y y true) → (I (i + 1) acc → N) → lcTurn dg dt de ws ρ m er x (b || flat x) Y N)
    (hP : ∀ acc, I xs.length acc → P (.lst acc) true) : dLc di dg dt de ws ρ m er P := by
  refine hdi _ ⟨hl, ?_⟩
  have key : ∀ (k i : Nat) (acc : List D), i + k = xs.length → I i acc → lcGo (lcTurn dg dt de ws ρ m er) b (xs.drop i) acc fun acc => P (.lst acc) true := by
    intro k
    induction k with
    | zero =>
      intro i acc hi hI
      rw [show i = xs.length by omega] at hI ⊢
      rw [List.drop_length]
      exact hP acc hI
    | succ k ih =>
      intro i acc hi hI
      have hlt : i < xs.length := by omega
      rw [List.drop_eq_getElem_cons hlt]
      exact hx i _ acc _ _ (List.getElem?_eq_getElem hlt) hI (fun y z => ⟨rfl, ih (i + 1) _ (by omega) z⟩) (fun z => ih (i + 1) _ (by omega) z)
  exact key xs.length 0 [] (by omega) h0
theorem look_put (es : List (Key × D)) (k k' : Key) (d : D) : lookD (putD es k d) k' = if k = k' then some d else lookD es k' := by
  induction es with
  | nil => rfl
  | cons e es ih =>
    obtain ⟨q, d'⟩ := e
    show lookD (if q = k then (q, d) :: es.map (fun e => if e.1 = k then (e.1, d) else e) else (q, d') :: putD es k d) k' = _
    have hm : ∀ es : List (Key × D), k ≠ k' → lookD (es.map (fun e => if e.1 = k then (e.1, d) else e)) k' = lookD es k' := by
      intro es hk
      induction es with
      | nil => rfl
      | cons e es ih =>
        obtain ⟨q, d'⟩ := e
        show lookD ((if q = k then (q, d) else (q, d')) :: es.map _) k' = if q = k' then some d' else lookD es k'
        by_cases c : q = k
        · rw [if_pos c]
          show (if q = k' then some d else lookD _ k') = _
          rw [if_neg (by rw [c]; exact hk), if_neg (by rw [c]; exact hk), ih]
        · rw [if_neg c]
          show (if q = k' then some d' else lookD _ k') = _
          rw [ih]
    by_cases c : q = k
    · rw [if_pos c]
      show (if q = k' then some d else lookD _ k') = if k = k' then some d else if q = k' then some d' else lookD es k'
      subst c
      by_cases e : q = k'
      · rw [if_pos e, if_pos e]
      · rw [if_neg e, if_neg e, if_neg e, hm es e]
    · rw [if_neg c]
      show (if q = k' then some d' else lookD (putD es k d) k') = if k = k' then some d else if q = k' then some d' else lookD es k'
      rw [ih]
      by_cases e : q = k'
      · rw [if_pos e, if_pos e, if_neg (fun z => c (by rw [e, z]))]
      · rw [if_neg e, if_neg e]
theorem put_len (es : List (Key × D)) (k : Key) (d : D) : (putD es k d).length ≤ es.length + 1 := by
  induction es with
  | nil => exact Nat.le_refl _
  | cons e es ih =>
    obtain ⟨q, d'⟩ := e
    show (if q = k then (q, d) :: es.map (fun e => if e.1 = k then (e.1, d) else e) else (q, d') :: putD es k d).length ≤ _
    by_cases c : q = k
    · rw [if_pos c, List.length_cons, List.length_map, List.length_cons]; omega
    · rw [if_neg c, List.length_cons, List.length_cons]; omega
/-! a list's end by -1 -/
theorem atI_last {α : Type} (xs : List α) (x : α) : atI (xs ++ [x]) (-1) = some x := by
  unfold atI
  have e : ixN (xs ++ [x]).length (-1) = some xs.length := by
    unfold ixN
    rw [if_neg (by omega), if_pos (by simp only [List.length_append, List.length_cons, List.length_nil]; omega)]
    simp only [List.length_append, List.length_cons, List.length_nil]
    congr 1
    omega
  rw [e]
  simp
theorem atI_i {α : Type} {xs : List α} {i : Int} {x : α} (h0 : 0 ≤ i) (h : xs[i.toNat]? = some x) : atI xs i = some x := by
  have := atI_nat h
  rwa [show ((i.toNat : Nat) : Int) = i by omega] at this
theorem atI_map {α β : Type} (f : α → β) (xs : List α) (i : Int) : atI (xs.map f) i = (atI xs i).map f := by
  unfold atI
  rw [List.length_map]
  cases ixN xs.length i with
  | none => rfl
  | some j => show (xs.map f)[j]? = (xs[j]?).map f; rw [List.getElem?_map]
theorem atI_end {α : Type} (xs : List α) : atI xs (-1) = xs.getLast? := by
  rcases List.eq_nil_or_concat xs with rfl | ⟨ys, y, rfl⟩
  · rfl
  · rw [List.concat_eq_append, atI_last, List.getLast?_concat]
theorem isEmpty_last {α : Type} (xs : List α) : xs.isEmpty = xs.getLast?.isNone := by
  rcases List.eq_nil_or_concat xs with rfl | ⟨ys, y, rfl⟩
  · rfl
  · rw [List.concat_eq_append, List.getLast?_concat]; simp
/-! what == tells of data -/
mutual
/-- no truth values in it, nor things that are not compared -/
def noB : D → Bool
  | .bl _ => false
  | .ins _ _ => false
  | .dic _ => false
  | .lst xs => noBs xs
  | .tup xs => noBs xs
  | _ => true
def noBs : List D → Bool
  | [] => true
  | x :: xs => noB x && noBs xs
end
mutual
theorem eqv_iff : ∀ (x y : D), noB x = true → noB y = true → (PyData.eqv (toP x) (toP y) = true ↔ x = y)
  | .non, y, _, h => by cases y <;> first | (cases h; done) | simp [toP, PyData.eqv]
  | .bl _, _, h, _ => nomatch h
  | .int i, y, _, h => by cases y <;> first | (cases h; done) | simp [toP, PyData.eqv]
  | .str i, y, _, h => by cases y <;> first | (cases h; done) | simp [toP, PyData.eqv]
  | .lst xs, y, h1, h => by
    cases y with
    | lst ys =>
      show PyData.eqvAll (toPs xs) (toPs ys) = true ↔ _
      rw [eqvs_iff xs ys h1 h]
      simp
    | _ => first | (cases h; done) | simp [toP, PyData.eqv]
  | .tup xs, y, h1, h => by
    cases y with
    | tup ys =>
      show PyData.eqvAll (toPs xs) (toPs ys) = true ↔ _
      rw [eqvs_iff xs ys h1 h]
      simp
    | _ => first | (cases h; done) | simp [toP, PyData.eqv]
  | .ins _ _, _, h, _ => nomatch h
  | .dic _, _, h, _ => nomatch h
theorem eqvs_iff : ∀ (xs ys : List D), noBs xs = true → noBs ys = true → (PyData.eqvAll (toPs xs) (toPs ys) = true ↔ xs = ys)
  | [], [], _, _ => by simp [toPs, PyData.eqvAll]
  | [], _ :: _, _, _ => by simp [toPs, PyData.eqvAll]
  | _ :: _, [], _, _ => by simp [toPs, PyData.eqvAll]
  | x :: xs, y :: ys, h1, h2 => by
    have h1' : (noB x && noBs xs) = true := h1
    have h2' : (noB y && noBs ys) = true := h2
    rw [Bool.and_eq_true] at h1' h2'
    show (PyData.eqv (toP x) (toP y) && PyData.eqvAll (toPs xs) (toPs ys)) = true ↔ _
    rw [Bool.and_eq_true, eqv_iff x y h1'.1 h2'.1, eqvs_iff xs ys h1'.2 h2'.2]
    simp
end
theorem eqv_dec {x y : D} {p : Prop} [Decidable p] (hx : noB x = true) (hy : noB y = true) (h : x = y ↔ p) : PyData.eqv (toP x) (toP y) = decide p := by
  rw [Bool.eq_iff_iff, eqv_iff x y hx hy, h]
  simp
theorem noBs_map {α : Type} {f : α → D} (h : ∀ a, noB (f a) = true) : ∀ xs : List α, noBs (xs.map f) = true
  | [] => rfl
  | x :: xs => by
    show (noB (f x) && noBs (xs.map f)) = true
    rw [h x, noBs_map h xs]
    rfl
theorem map_inj {α β : Type} {f : α → β} (h : ∀ a b, f a = f b → a = b) : ∀ {xs ys : List α}, xs.map f = ys.map f → xs = ys
  | [], [], _ => rfl
  | [], _ :: _, e => by cases e
  | _ :: _, [], e => by cases e
  | x :: xs, y :: ys, e => by
    have e' := List.cons.inj e
    rw [h _ _ e'.1, map_inj h e'.2]
theorem ints_inj {xs ys : List Int} (h : xs.map D.int = ys.map D.int) : xs = ys := map_inj (fun a b e => by cases e; rfl) h
theorem eqv_nilD (xs : List D) : PyData.eqv (toP (.lst xs)) (toP (.lst [])) = xs.isEmpty := by
  cases xs <;> rfl
theorem shp_map {α : Type} {f : α → D} (n : Nat) (hn : n < 64) (h1 : ∀ a, plainD (f a) = true) (h2 : ∀ a, (toP (f a)).canLay0 = true) (h3 : ∀ a, (toP (f a)).depth ≤ n) (xs : List α) : shp (.lst (xs.map f)) = true := by
  unfold shp
  rw [Bool.and_eq_true]
  refine ⟨plains_map h1 xs, shaped_of ?_ ?_⟩
  · show PyData.canLayAll0 (toPs (xs.map f)) = true
    induction xs with
    | nil => rfl
    | cons x xs ih =>
      show ((toP (f x)).canLay0 && PyData.canLayAll0 (toPs (xs.map f))) = true
      rw [h2, ih]; rfl
  · show PyData.depthAll (toPs (xs.map f)) + 1 ≤ 64
    have : PyData.depthAll (toPs (xs.map f)) ≤ n := by
      induction xs with
      | nil => exact Nat.zero_le _
      | cons x xs ih =>
        show max (toP (f x)).depth (PyData.depthAll (toPs (xs.map f))) ≤ n
        have := h3 x
        omega
    omega
theorem shp_imap {α : Type} (f : α → Int) (xs : List α) : shp (.lst (xs.map fun y => D.int (f y))) = true := shp_map 0 (by decide) (fun _ => rfl) (fun _ => rfl) (fun _ => Nat.le_refl _) xs
theorem flats_imap {α : Type} (f : α → Int) (xs : List α) : flats (xs.map fun y => D.int (f y)) = true := flats_map (fun _ => rfl) xs
theorem shp_nil : shp (.lst []) = true := rfl
theorem shp_ints (xs : List Int) : shp (.lst (xs.map D.int)) = true := shp_map 0 (by decide) (fun _ => rfl) (fun _ => rfl) (fun _ => Nat.le_refl _) xs
end Bk

/-! What the law's things are as data. -/
namespace Bk
open PySem L2
/-- the three words -/
inductive W3 where
  | op | to | sh
  deriving DecidableEq
def W3.s : W3 → Str
  | .op => "open"
  | .to => "touch"
  | .sh => "shut"
theorem W3.s_op (w : W3) : (w.s = ("open" : Str)) = (w = .op) := propext (by cases w <;> decide)
theorem W3.s_to (w : W3) : (w.s = ("touch" : Str)) = (w = .to) := propext (by cases w <;> decide)
theorem W3.s_sh (w : W3) : (w.s = ("shut" : Str)) = (w = .sh) := propext (by cases w <;> decide)
theorem W3.ok (w : W3) : PyData.canLay0 (.str w.s) = true := by cases w <;> decide +kernel
/-- a deed: its word, its bank, and further numbers -/
structure Dx where
  w : W3
  k : Int
  r : List Int
def Dx.d (x : Dx) : D := .tup (.str x.w.s :: .int x.k :: x.r.map D.int)
def itD (x : Int × Dx) : D := .tup [.int x.1, x.2.d]
def planD (pl : List (Int × Dx)) : D := .lst (pl.map itD)
def rulesT (b : Int) (ts : List Int) : D := .tup [.int b, .tup (ts.map D.int)]
theorem flats_ints (ns : List Int) : flats (ns.map D.int) = true := flats_map (fun _ => rfl) ns
theorem flat_dx (x : Dx) : flat x.d = true := by
  show (true && (true && flats (x.r.map D.int))) = true
  rw [flats_ints]; rfl
theorem flat_it (x : Int × Dx) : flat (itD x) = true := by
  show (true && (flat x.2.d && true)) = true
  rw [flat_dx]; rfl
theorem shp_its (pl : List (Int × Dx)) : shp (.lst (pl.map itD)) = true := by
  have p1 : ∀ ns : List Int, plainDs (ns.map D.int) = true := plains_map fun _ => rfl
  have p2 : ∀ ns : List Int, PyData.canLayAll0 (toPs (ns.map D.int)) = true := by
    intro ns
    induction ns with
    | nil => rfl
    | cons n ns ih => show (PyData.canLay0 (.int n) && _) = true; rw [ih]; rfl
  have p3 : ∀ ns : List Int, PyData.depthAll (toPs (ns.map D.int)) = 0 := by
    intro ns
    induction ns with
    | nil => rfl
    | cons n ns ih => show max (PyData.depth (.int n)) (PyData.depthAll (toPs (ns.map D.int))) = 0; rw [ih]; rfl
  refine shp_map 2 (by decide) (fun a => ?_) (fun a => ?_) (fun a => ?_) pl
  · show (true && ((true && (true && plainDs (a.2.r.map D.int))) && true)) = true
    rw [p1]; rfl
  · show (PyData.canLay0 (.int a.1) && ((PyData.canLay0 (.str a.2.w.s) && (PyData.canLay0 (.int a.2.k) && PyData.canLayAll0 (toPs (a.2.r.map D.int)))) && true)) = true
    rw [p2, show PyData.canLay0 (.str a.2.w.s) = true from W3.ok _]; rfl
  · show max (PyData.depth (.int a.1)) (max (max (PyData.depth (.str a.2.w.s)) (max (PyData.depth (.int a.2.k)) (PyData.depthAll (toPs (a.2.r.map D.int)))) + 1) 0) + 1 ≤ 2
    rw [p3]
    exact Nat.le_refl 2
theorem shp_wmap {α : Type} (f : α → W3) (xs : List α) : shp (.lst (xs.map fun y => D.str (f y).s)) = true := shp_map (f := fun y => D.str (f y).s) 0 (by decide) (fun _ => rfl) (fun a => W3.ok _) (fun _ => Nat.le_refl _) xs
theorem flats_wmap {α : Type} (f : α → W3) (xs : List α) : flats (xs.map fun y => D.str (f y).s) = true := flats_map (fun _ => rfl) xs
theorem flats_its (pl : List (Int × Dx)) : flats (pl.map itD) = true := flats_map flat_it pl
theorem noB_dx (x : Dx) : noB x.d = true := by
  show (true && (true && noBs (x.r.map D.int))) = true
  rw [noBs_map fun _ => rfl]; rfl
theorem noB_it (x : Int × Dx) : noB (itD x) = true := by
  show (true && (noB x.2.d && true)) = true
  rw [noB_dx]; rfl
theorem W3.inj {a b : W3} (h : a.s = b.s) : a = b := by revert h; cases a <;> cases b <;> decide
theorem dx_inj {x y : Dx} (h : x.d = y.d) : x = y := by
  obtain ⟨w, k, r⟩ := x
  obtain ⟨w', k', r'⟩ := y
  unfold Dx.d at h
  simp only [D.tup.injEq, List.cons.injEq, D.str.injEq, D.int.injEq] at h
  obtain ⟨h1, h2, h3⟩ := h
  rw [W3.inj h1, h2, ints_inj h3]
theorem eqv_to (w : W3) (k : Int) (r : List Int) (j : Int) : PyData.eqv (toP (.tup (.str w.s :: .int k :: r.map D.int))) (toP (.tup [.str "touch", .int j])) = decide (w = .to ∧ k = j ∧ r = []) := by
  refine eqv_dec (noB_dx ⟨w, k, r⟩) rfl ?_
  simp only [D.tup.injEq, List.cons.injEq, D.str.injEq, D.int.injEq, W3.s_to]
  simp
theorem shp_of {d : D} (h1 : plainD d = true) (h2 : (toP d).canLay0 = true) (h3 : (toP d).depth ≤ 64) : shp d = true := by
  unfold shp
  rw [h1, shaped_of h2 h3]; rfl
theorem shp_dx (w : W3) (k : Int) (r : List Int) : shp (.tup (.str w.s :: .int k :: r.map D.int)) = true := by
  refine shp_of ?_ ?_ ?_
  · show (true && (true && plainDs (r.map D.int))) = true
    rw [plains_map fun _ => rfl]; rfl
  · show (PyData.canLay0 (.str w.s) && (PyData.canLay0 (.int k) && PyData.canLayAll0 (toPs (r.map D.int)))) = true
    rw [W3.ok, toPs_map]
    show (true && (true && _)) = true
    have : ∀ r : List Int, PyData.canLayAll0 (r.map fun a => toP (D.int a)) = true := by
      intro r
      induction r with
      | nil => rfl
      | cons n ns ih => show (PyData.canLay0 (.int n) && _) = true; rw [ih]; rfl
    rw [this]; rfl
  · show max 0 (max 0 (PyData.depthAll (toPs (r.map D.int)))) + 1 ≤ 64
    have : ∀ r : List Int, PyData.depthAll (toPs (r.map D.int)) = 0 := by
      intro r
      induction r with
      | nil => rfl
      | cons n ns ih => show max (PyData.depth (.int n)) (PyData.depthAll (toPs (ns.map D.int))) = 0; rw [ih]; rfl
    rw [this]; decide
theorem shp_to (j : Int) : shp (.tup [.str "touch", .int j]) = true := shp_dx .to j []
def barD : Option Str → D
  | none => .non
  | some z => .str z
def lastOf (z : W3) (pl : List (Int × Dx)) : Int := pl.foldl (fun a x => if x.2.w = z then x.1 else a) (-99)
/-- None, or an int -/
def oD : Option Int → D
  | none => .non
  | some i => .int i
structure RulesS where
  b : Int
  o : Int
  h : Int
  k : Int
  r : Int
  w : Int
  g : Int
def RulesS.ts (R : RulesS) : List Int := [R.o, R.h, R.k, R.r, R.w, R.g]
def RulesS.ok (R : RulesS) : Prop := 1 ≤ R.b ∧ R.b ≤ 4 ∧ ∀ z ∈ R.ts, 1 ≤ z ∧ z ≤ 9
def rulesD (R : RulesS) : D := .ins "Rules" [("many", .int R.b), ("told", .tup [.int R.o, .int R.h, .int R.k, .int R.r, .int R.w, .int R.g]), ("open_time", .int R.o), ("hold", .int R.h), ("keep", .int R.k), ("rest", .int R.r), ("wire", .int R.w), ("gap", .int R.g)]
structure BankS where
  row : Option Int
  opened : Option Int
  touched : Option Int
  shut : Option Int
def bankD (s : BankS) : D := .ins "Bank" [("row", oD s.row), ("opened", oD s.opened), ("touched", oD s.touched), ("shut_at", oD s.shut)]
structure WatchS where
  bs : List BankS
  last : Int
  opened : Option Int
  touched : Option Int
def watchD (R : RulesS) (s : WatchS) : D := .ins "Watch" [("rules", rulesD R), ("every", .lst (s.bs.map bankD)), ("last", .int s.last), ("opened", oD s.opened), ("touched", oD s.touched)]
theorem oD_s (i : Int) : oD (some i) = .int i := rfl
theorem oD_n : oD none = .non := rfl
theorem isN_o (o : Option Int) : isN (oD o) = o.isNone := by cases o <;> rfl
theorem fl_o' (o : Option Int) : flat (oD o) = true := by cases o <;> rfl
def F_L_taken (ds : List D) (P : D → Prop) : Prop := ∃ k, ds = [.int k] ∧ 0 < k ∧ ∀ v, 0 ≤ v → v < k → P (.int v)
def F_L_rules (ds : List D) (P : D → Prop) : Prop := ds = [] ∧ ∀ R : RulesS, R.ok → P (rulesT R.b R.ts)
theorem F_taken_s (k : Int) (P : D → Prop) : F_L_taken [.int k] P = (0 < k ∧ ∀ v, 0 ≤ v → v < k → P (.int v)) := propext ⟨fun ⟨k', e, h⟩ => by cases e; exact h, fun h => ⟨k, rfl, h⟩⟩
theorem F_rules_s (P : D → Prop) : F_L_rules [] P = ∀ R : RulesS, R.ok → P (rulesT R.b R.ts) := propext ⟨fun h => h.2, fun h => ⟨rfl, h⟩⟩
/-- Rules(b, times), good ones -/
def dRules (dr : DA) : DE := fun ρ m er P => dr ρ m er fun ds => ∃ R : RulesS, ds.map (·.1) = [.int R.b, .tup (R.ts.map D.int)] ∧ R.ok ∧ P (rulesD R) true
theorem dRules_s (dr : DA) : ∀ ρ m er P, dRules dr ρ m er P = (dr ρ m er fun ds => ∃ R : RulesS, ds.map (·.1) = [.int R.b, .tup (R.ts.map D.int)] ∧ R.ok ∧ P (rulesD R) true) := fun _ _ _ _ => rfl
theorem W3.s_op' : (("open" : Str) = ("touch" : Str)) = False := by decide
/-! asks, orders -/
structure AskS where
  k : Int
  row : Int
  t : Int
  deriving DecidableEq
def askD (a : AskS) : D := .tup [.int a.k, .int a.row, .int a.t]
def asksD (as : List AskS) : D := .lst (as.map askD)
def ordD (os : List Nat) : D := .lst (os.map fun (o : Nat) => D.int o)
def askOk (b : Int) (a : AskS) : Bool := decide (0 ≤ a.k ∧ a.k < b ∧ 0 ≤ a.row ∧ a.row ≤ 99 ∧ 0 ≤ a.t ∧ a.t ≤ 999)
/-- the first that is no ask -/
def firstNo (b : Int) : List AskS → Nat → Option Nat
  | [], _ => none
  | a :: as, n => if askOk b a = true then firstNo b as (n + 1) else some n
theorem firstNo_some {b : Int} : ∀ {as : List AskS} {n i : Nat}, firstNo b as n = some i → n ≤ i ∧ (∃ a, as[i - n]? = some a ∧ askOk b a = false) ∧ ∀ j a, j < i - n → as[j]? = some a → askOk b a = true
  | [], _, _, h => by cases h
  | a :: as, n, i, h => by
    unfold firstNo at h
    by_cases c : askOk b a = true
    · rw [if_pos c] at h
      obtain ⟨h1, ⟨a', h2, h3⟩, h4⟩ := firstNo_some h
      refine ⟨by omega, ⟨a', ?_, h3⟩, fun j x hj hx => ?_⟩
      · rw [show i - n = (i - (n + 1)) + 1 by omega]; exact h2
      · cases j with
        | zero => cases hx; exact c
        | succ j => exact h4 j x (by omega) hx
    · rw [if_neg c] at h
      cases h
      refine ⟨Nat.le_refl _, ⟨a, by rw [Nat.sub_self]; rfl, by simpa using c⟩, fun j x hj => by omega⟩
theorem firstNo_none {b : Int} : ∀ {as : List AskS} {n : Nat}, firstNo b as n = none ↔ ∀ a ∈ as, askOk b a = true
  | [], _ => by simp [firstNo]
  | a :: as, n => by
    unfold firstNo
    by_cases c : askOk b a = true
    · rw [if_pos c, firstNo_none (as := as)]
      simp [c]
    · rw [if_neg c]
      simp [c]
/-- what need_asks refuses with -/
def asksErr (b : Int) (as : List AskS) : Option Int := if 5 < as.length then some ((as.length : Nat) : Int) else (firstNo b as 0).map fun (i : Nat) => (i : Int)
def Asks (b : Int) (as : List AskS) : Prop := as.length ≤ 5 ∧ ∀ a ∈ as, askOk b a = true
theorem asksErr_none {b : Int} {as : List AskS} : asksErr b as = none ↔ Asks b as := by
  unfold asksErr Asks
  by_cases c : 5 < as.length
  · rw [if_pos c]
    simp
    omega
  · rw [if_neg c, Option.map_eq_none_iff, firstNo_none]
    simp
    omega
theorem askOk_iff {b : Int} {a : AskS} : askOk b a = true ↔ (0 ≤ a.k ∧ a.k < b ∧ 0 ≤ a.row ∧ a.row ≤ 99 ∧ 0 ≤ a.t ∧ a.t ≤ 999) := by
  unfold askOk
  exact decide_eq_true_iff
theorem flat_ask (a : AskS) : flat (askD a) = true := rfl
theorem flats_asks (as : List AskS) : flats (as.map askD) = true := flats_map flat_ask as
theorem flats_ord (os : List Nat) : flats (os.map fun (o : Nat) => D.int o) = true := flats_map (fun _ => rfl) os
theorem shp_asks (as : List AskS) : shp (.lst (as.map askD)) = true := shp_map 1 (by decide) (fun _ => rfl) (fun _ => rfl) (fun _ => Nat.le_refl _) as
theorem shp_ord (os : List Nat) : shp (.lst (os.map fun (o : Nat) => D.int o)) = true := shp_map (f := fun (o : Nat) => D.int o) 0 (by decide) (fun _ => rfl) (fun _ => rfl) (fun _ => Nat.le_refl _) os
theorem rng_ord (n : Nat) : rngD 0 n = (List.range n).map fun (o : Nat) => D.int o := by
  unfold rngD
  refine List.map_congr_left fun i _ => ?_
  rw [Int.zero_add]
theorem ord_ints (os : List Nat) : (os.map fun (o : Nat) => D.int o) = (os.map fun (o : Nat) => (o : Int)).map D.int := by rw [List.map_map]; rfl
end Bk

/-! Texts of deeds, in plain words. -/
namespace Bk
open PySem L2 TL
def numS (i : Int) : Str := Str.ofString (toString i)
/-- a deed's row -/
def wordsT (y : Int × Dx) : List Str := numS y.1 :: y.2.w.s :: numS y.2.k :: y.2.r.map numS
def rowT (y : Int × Dx) : Str := Txt.join " " (wordsT y)
def textOf (pl : List (Int × Dx)) : Str := Txt.join "\n" (pl.map rowT)
def Small (n : Int) : Prop := 0 ≤ n ∧ n < 100000
theorem num_tl {n : Int} (h : Small n) : tl (numS n) = numL n.toNat := by
  have e : n = ((n.toNat : Nat) : Int) := by have := h.1; omega
  unfold numS
  rw [e]
  exact tl_num _
theorem num_len {n : Int} (h : Small n) : 1 ≤ (numS n).length ∧ (numS n).length ≤ 5 := by
  rw [len_tl, num_tl h]
  refine ⟨List.length_pos_iff.mpr (numL_ne _), numL_len (by decide) ?_⟩
  have := h.2
  have e : (10 : Nat) ^ 5 = 100000 := by decide
  omega
theorem num_sign {n : Int} (h : Small n) : ∀ c ∈ tl (numS n), 48 ≤ c ∧ c ≤ 57 := by
  rw [num_tl h]
  exact numL_digits _
theorem num_head : ∀ (m : Nat), 0 < m → (numL m)[0]? ≠ some 48
  | m, h => by
    by_cases c : m < 10
    · rw [numL_lt c]
      intro z
      have : 48 + m = 48 := by simpa using z
      omega
    · rw [numL_step (by omega)]
      have ih := num_head (m / 10) (by omega)
      cases q : numL (m / 10) with
      | nil => exact absurd q (numL_ne _)
      | cons a l => rw [q] at ih; simpa using ih
theorem num_int {n : Int} (h : Small n) : PySem.intText? (numS n) = some n := by
  have e : n = ((n.toNat : Nat) : Int) := by have := h.1; omega
  have hl := (num_len h).2
  rw [len_tl, num_tl h] at hl
  unfold numS
  rw [e]
  exact int_num (by omega)
theorem num_log {n : Int} (h : Small n) : n.natAbs.log2 < 1920 := by
  have h1 : n.natAbs < 2 ^ 20 := by
    have := h.1
    have := h.2
    have e : (2 : Nat) ^ 20 = 1048576 := by decide
    omega
  by_cases c : n.natAbs = 0
  · rw [c]; decide
  · have := (Nat.log2_lt c).mpr h1
    omega
theorem in_joinL {c : Nat} {S : List Nat} : ∀ {parts : List (List Nat)}, c ∈ joinL S parts → c ∈ S ∨ ∃ p ∈ parts, c ∈ p
  | [], h => by cases h
  | [p], h => .inr ⟨p, List.mem_singleton.mpr rfl, h⟩
  | p :: q :: r, h => by
    have h' : c ∈ p ++ (S ++ joinL S (q :: r)) := h
    rcases List.mem_append.mp h' with h | h
    · exact .inr ⟨p, List.mem_cons_self, h⟩
    · rcases List.mem_append.mp h with h | h
      · exact .inl h
      · rcases in_joinL (parts := q :: r) h with h | ⟨x, hx, h⟩
        · exact .inl h
        · exact .inr ⟨x, List.mem_cons_of_mem _ hx, h⟩
theorem len_joinL {S : List Nat} {m : Nat} : ∀ {parts : List (List Nat)}, (∀ p ∈ parts, p.length ≤ m) → (joinL S parts).length ≤ parts.length * (m + S.length)
  | [], _ => Nat.zero_le _
  | [p], h => by
    have := h p (List.mem_singleton.mpr rfl)
    show p.length ≤ 1 * (m + S.length)
    omega
  | p :: q :: r, h => by
    have h1 := h p List.mem_cons_self
    have h2 := len_joinL (S := S) (m := m) (parts := q :: r) fun x hx => h x (List.mem_cons_of_mem _ hx)
    show (p ++ (S ++ joinL S (q :: r))).length ≤ (q :: r).length.succ * (m + S.length)
    rw [List.length_append, List.length_append, Nat.succ_mul]
    omega
theorem joinL_ne {S p : List Nat} {r : List (List Nat)} (h : p ≠ []) : joinL S (p :: r) ≠ [] := by
  cases r with
  | nil => exact h
  | cons q r =>
    show p ++ (S ++ joinL S (q :: r)) ≠ []
    intro c
    exact h (List.append_eq_nil_iff.mp c).1
/-- a deed that a row can tell -/
def RowOk10 (y : Int × Dx) : Prop := Small y.1 ∧ Small y.2.k ∧ (∀ r ∈ y.2.r, Small r) ∧ y.2.r.length ≤ 1
theorem w_sign (w : W3) : (∀ c ∈ tl w.s, 97 ≤ c ∧ c ≤ 122) ∧ w.s.length ≤ 5 ∧ (w.s.length = w.s.length) := by
  cases w <;> refine ⟨?_, ?_, rfl⟩ <;> decide +kernel
theorem words_ok {y : Int × Dx} (h : RowOk10 y) : ∀ z ∈ wordsT y, (∀ c ∈ tl z, (48 ≤ c ∧ c ≤ 57) ∨ (97 ≤ c ∧ c ≤ 122)) ∧ z.length ≤ 5 := by
  obtain ⟨h1, h2, h3, _⟩ := h
  intro z hz
  have num : ∀ n, Small n → (∀ c ∈ tl (numS n), (48 ≤ c ∧ c ≤ 57) ∨ (97 ≤ c ∧ c ≤ 122)) ∧ (numS n).length ≤ 5 := fun n hn => ⟨fun c hc => .inl (num_sign hn c hc), (num_len hn).2⟩
  rcases List.mem_cons.mp hz with rfl | hz
  · exact num _ h1
  rcases List.mem_cons.mp hz with rfl | hz
  · exact ⟨fun c hc => .inr ((w_sign y.2.w).1 c hc), (w_sign y.2.w).2.1⟩
  rcases List.mem_cons.mp hz with rfl | hz
  · exact num _ h2
  · obtain ⟨r, hr, rfl⟩ := List.mem_map.mp hz
    exact num _ (h3 r hr)
theorem tl_row (y : Int × Dx) : tl (rowT y) = joinL [32] ((wordsT y).map tl) := by
  unfold rowT
  rw [join_eq, tl_join]
  rfl
theorem split_row {y : Int × Dx} (h : RowOk10 y) : Txt.split (rowT y) " " = wordsT y := by
  unfold rowT
  refine split_join (s := 32) (S := []) rfl (by decide +kernel) (by intro c; cases c) fun p hp c => ?_
  rcases (words_ok h p hp).1 _ c with q | q <;> omega
theorem row_sign {y : Int × Dx} (h : RowOk10 y) : ∀ c ∈ tl (rowT y), c ≠ 10 := by
  rw [tl_row]
  intro c hc e
  rcases in_joinL hc with q | ⟨p, hp, q⟩
  · have : c = 32 := by simpa using q
    omega
  · obtain ⟨z, hz, rfl⟩ := List.mem_map.mp hp
    rcases (words_ok h z hz).1 _ q with q | q <;> omega
theorem row_len {y : Int × Dx} (h : RowOk10 y) : (rowT y).length ≤ 24 := by
  have h1 := len_joinL (S := [32]) (m := 5) (parts := (wordsT y).map tl) fun p hp => by
    obtain ⟨z, hz, rfl⟩ := List.mem_map.mp hp
    rw [← len_tl]
    exact (words_ok h z hz).2
  rw [len_tl, tl_row]
  have h2 : ((wordsT y).map tl).length ≤ 4 := by
    rw [List.length_map]
    show (y.2.r.map numS).length + 1 + 1 + 1 ≤ 4
    rw [List.length_map]
    have := h.2.2.2
    omega
  have h3 : ((wordsT y).map tl).length * (5 + [32].length) ≤ 4 * 6 := Nat.mul_le_mul_right _ h2
  omega
theorem row_ne {y : Int × Dx} (h : RowOk10 y) : tl (rowT y) ≠ [] := by
  rw [tl_row]
  refine joinL_ne ?_
  rw [num_tl h.1]
  exact numL_ne _
theorem tl_text (pl : List (Int × Dx)) : tl (textOf pl) = joinL [10] ((pl.map rowT).map tl) := by
  unfold textOf
  rw [join_eq, tl_join]
  rfl
theorem split_text {pl : List (Int × Dx)} (hne : pl ≠ []) (h : ∀ y ∈ pl, RowOk10 y) : Txt.split (textOf pl) "\n" = pl.map rowT := by
  unfold textOf
  refine split_join (s := 10) (S := []) rfl (by decide +kernel) (fun c => hne (List.map_eq_nil_iff.mp c)) fun p hp c => ?_
  obtain ⟨y, hy, rfl⟩ := List.mem_map.mp hp
  exact row_sign (h y hy) _ c rfl
theorem text_len {pl : List (Int × Dx)} (h : ∀ y ∈ pl, RowOk10 y) : (textOf pl).length ≤ pl.length * 25 := by
  have h1 := len_joinL (S := [10]) (m := 24) (parts := (pl.map rowT).map tl) fun p hp => by
    obtain ⟨z, hz, rfl⟩ := List.mem_map.mp hp
    obtain ⟨y, hy, rfl⟩ := List.mem_map.mp hz
    rw [← len_tl]
    exact row_len (h y hy)
  rw [len_tl, tl_text]
  rw [List.length_map, List.length_map] at h1
  exact h1
theorem text_ne {pl : List (Int × Dx)} (hne : pl ≠ []) (h : ∀ y ∈ pl, RowOk10 y) : textOf pl ≠ "" := by
  intro c
  have e := congrArg tl c
  rw [tl_text] at e
  cases pl with
  | nil => exact hne rfl
  | cons y pl => exact joinL_ne (row_ne (h y List.mem_cons_self)) e
end Bk

/-! Slices and pairs. -/
namespace Bk
open PySem L2
theorem cutTo {α : Type} (xs : List α) {i : Int} (h0 : 0 ≤ i) : cutL xs none (some i) = xs.take i.toNat := by
  unfold cutL
  have e1 : HT.sIx xs.length 0 none = 0 := rfl
  have e2 : HT.sIx xs.length xs.length (some i) = min i.toNat xs.length := by
    show (if i < 0 then _ else _) = _
    rw [if_neg (by omega)]
  rw [e1, e2, List.drop_zero, Nat.sub_zero]
  by_cases c : i.toNat ≤ xs.length
  · rw [Nat.min_eq_left c]
  · rw [Nat.min_eq_right (by omega), List.take_of_length_le (Nat.le_refl _), List.take_of_length_le (by omega)]
theorem cutFrom {α : Type} (xs : List α) {i : Int} (h0 : 0 ≤ i) : cutL xs (some i) none = xs.drop i.toNat := by
  unfold cutL
  have e1 : HT.sIx xs.length xs.length none = xs.length := rfl
  have e2 : HT.sIx xs.length 0 (some i) = min i.toNat xs.length := by
    show (if i < 0 then _ else _) = _
    rw [if_neg (by omega)]
  rw [e1, e2]
  by_cases c : i.toNat ≤ xs.length
  · rw [Nat.min_eq_left c, List.take_of_length_le (by rw [List.length_drop]; omega)]
  · rw [Nat.min_eq_right (by omega), List.drop_of_length_le (Nat.le_refl _), List.drop_of_length_le (by omega), List.take_nil]
theorem cut_map {α β : Type} (f : α → β) (xs : List α) (lo hi : Option Int) : cutL (xs.map f) lo hi = (cutL xs lo hi).map f := by
  unfold cutL
  rw [List.length_map, List.map_take, List.map_drop]
theorem rep_map {α β : Type} (f : α → β) (xs : List α) (n : Nat) : (List.replicate n (xs.map f)).flatten = ((List.replicate n xs).flatten).map f := by
  induction n with
  | zero => rfl
  | succ n ih => rw [List.replicate_succ, List.flatten_cons, ih, List.replicate_succ, List.flatten_cons, List.map_append]
theorem lay_map {α : Type} {f : α → D} (h : ∀ a, (toP (f a)).canLay0 = true) (xs : List α) : PyData.canLayAll0 (toPs (xs.map f)) = true := by
  induction xs with
  | nil => rfl
  | cons x xs ih =>
    show ((toP (f x)).canLay0 && PyData.canLayAll0 (toPs (xs.map f))) = true
    rw [h, ih]; rfl
theorem dep_map {α : Type} {f : α → D} (n : Nat) (h : ∀ a, (toP (f a)).depth ≤ n) (xs : List α) : PyData.depthAll (toPs (xs.map f)) ≤ n := by
  induction xs with
  | nil => exact Nat.zero_le _
  | cons x xs ih =>
    show max (toP (f x)).depth (PyData.depthAll (toPs (xs.map f))) ≤ n
    have := h x
    omega
/-- plain data of small depth -/
structure Lay (n : Nat) (x : D) : Prop where
  p : plainD x = true
  l : (toP x).canLay0 = true
  d : (toP x).depth ≤ n
  b : noB x = true
theorem Lay.int (i : Int) : Lay 0 (.int i) := ⟨rfl, rfl, Nat.le_refl _, rfl⟩
theorem Lay.lst {α : Type} {f : α → D} {n : Nat} (h : ∀ a, Lay n (f a)) (xs : List α) : Lay (n + 1) (.lst (xs.map f)) :=
  ⟨plains_map (fun a => (h a).p) xs, lay_map (fun a => (h a).l) xs, by
    show PyData.depthAll (toPs (xs.map f)) + 1 ≤ n + 1
    have := dep_map n (fun a => (h a).d) xs
    omega, noBs_map (fun a => (h a).b) xs⟩
theorem Lay.tup2 {n : Nat} {x y : D} (h1 : Lay n x) (h2 : Lay n y) : Lay (n + 1) (.tup [x, y]) :=
  ⟨by show (plainD x && (plainD y && true)) = true; rw [h1.p, h2.p]; rfl, by show ((toP x).canLay0 && ((toP y).canLay0 && true)) = true; rw [h1.l, h2.l]; rfl, by
    show max (toP x).depth (max (toP y).depth 0) + 1 ≤ n + 1
    have := h1.d
    have := h2.d
    omega, by show (noB x && (noB y && true)) = true; rw [h1.b, h2.b]; rfl⟩
theorem Lay.tup3 {n : Nat} {x y z : D} (h1 : Lay n x) (h2 : Lay n y) (h3 : Lay n z) : Lay (n + 1) (.tup [x, y, z]) :=
  ⟨by show (plainD x && (plainD y && (plainD z && true))) = true; rw [h1.p, h2.p, h3.p]; rfl, by show ((toP x).canLay0 && ((toP y).canLay0 && ((toP z).canLay0 && true))) = true; rw [h1.l, h2.l, h3.l]; rfl, by
    show max (toP x).depth (max (toP y).depth (max (toP z).depth 0)) + 1 ≤ n + 1
    have := h1.d
    have := h2.d
    have := h3.d
    omega, by show (noB x && (noB y && (noB z && true))) = true; rw [h1.b, h2.b, h3.b]; rfl⟩
theorem Lay.up {n m : Nat} {x : D} (h : Lay n x) (hm : n ≤ m) : Lay m x := ⟨h.p, h.l, Nat.le_trans h.d hm, h.b⟩
theorem Lay.shp {n : Nat} {x : D} (h : Lay n x) (hn : n ≤ 64) : Bk.shp x = true := shp_of h.p h.l (Nat.le_trans h.d hn)
theorem Lay.eqv {n m : Nat} {x y : D} (h : Lay n x) (g : Lay m y) : PyData.eqv (toP x) (toP y) = true ↔ x = y := eqv_iff x y h.b g.b
theorem Lay.refl {n : Nat} {x : D} (h : Lay n x) : PyData.eqv (toP x) (toP x) = true := (eqv_iff x x h.b h.b).mpr rfl
theorem lay_ask (a : AskS) : Lay 1 (askD a) := Lay.tup3 (Lay.int _) (Lay.int _) (Lay.int _)
theorem lay_asks (as : List AskS) : Lay 2 (.lst (as.map askD)) := Lay.lst lay_ask as
theorem lay_intL (xs : List Int) : Lay 1 (.lst (xs.map D.int)) := Lay.lst Lay.int xs
theorem ask_inj {a b : AskS} (h : askD a = askD b) : a = b := by
  obtain ⟨k, r, t⟩ := a
  obtain ⟨k', r', t'⟩ := b
  unfold askD at h
  simp only [D.tup.injEq, List.cons.injEq, D.int.injEq, and_true] at h
  obtain ⟨rfl, rfl, rfl⟩ := h
  rfl
theorem eqv_ask (a b : AskS) : PyData.eqv (toP (askD a)) (toP (askD b)) = decide (a = b) := by
  rw [Bool.eq_iff_iff, (lay_ask a).eqv (lay_ask b), decide_eq_true_iff]
  exact ⟨ask_inj, fun h => by rw [h]⟩
end Bk

/-! Placing, in plain words. -/
namespace Bk
open PySem L2
def absI (i : Int) : Int := if i < 0 then -i else i
def busyB (pl : List (Int × Dx)) (b : Int) : Bool := pl.any fun y => decide (y.1 = b)
def nearB (pl : List (Int × Dx)) (b : Int) (w : W3) (t : Int) : Bool := pl.any fun y => decide (y.2.w = w) && decide (absI (y.1 - b) < t)
def freeB (pl : List (Int × Dx)) (b : Int) (w : W3) (t : Int) : Bool := !busyB pl b && !nearB pl b w t
def IsFirst (pl : List (Int × Dx)) (b : Int) (w : W3) (t v : Int) : Prop := b ≤ v ∧ freeB pl v w t = true ∧ ∀ u, b ≤ u → u < v → freeB pl u w t = false
theorem IsFirst.uniq {pl : List (Int × Dx)} {b : Int} {w : W3} {t v v' : Int} (h : IsFirst pl b w t v) (g : IsFirst pl b w t v') : v = v' := by
  rcases Int.lt_trichotomy v v' with c | c | c
  · have := g.2.2 v h.1 c; rw [h.2.1] at this; cases this
  · exact c
  · have := h.2.2 v' g.1 c; rw [g.2.1] at this; cases this
theorem freeB_iff {pl : List (Int × Dx)} {b : Int} {w : W3} {t : Int} : freeB pl b w t = true ↔ ∀ y ∈ pl, y.1 ≠ b ∧ (y.2.w = w → t ≤ absI (y.1 - b)) := by
  unfold freeB busyB nearB
  rw [Bool.and_eq_true, Bool.not_eq_true', Bool.not_eq_true', List.any_eq_false, List.any_eq_false]
  constructor
  · rintro ⟨h1, h2⟩ y hy
    have a := h1 y hy
    have b := h2 y hy
    simp only [decide_eq_true_eq, Bool.and_eq_true, not_and] at a b
    exact ⟨a, fun c => by have := b c; omega⟩
  · intro h
    refine ⟨fun y hy => ?_, fun y hy => ?_⟩
    · simpa using (h y hy).1
    · simp only [decide_eq_true_eq, Bool.and_eq_true, not_and]
      intro c
      have := (h y hy).2 c
      omega
/-- beyond all of them -/
def topB (pl : List (Int × Dx)) : Int := pl.foldr (fun y a => max y.1 a) 0
theorem le_top {pl : List (Int × Dx)} {y : Int × Dx} (h : y ∈ pl) : y.1 ≤ topB pl := by
  induction pl with
  | nil => cases h
  | cons x pl ih =>
    show y.1 ≤ max x.1 (topB pl)
    rcases List.mem_cons.mp h with rfl | h
    · omega
    · have := ih h; omega
theorem free_far {pl : List (Int × Dx)} {b : Int} {w : W3} {t : Int} (h : topB pl + t < b) (h0 : 0 ≤ t) : freeB pl b w t = true :=
  freeB_iff.mpr fun y hy => by
    have := le_top hy
    refine ⟨by omega, fun _ => ?_⟩
    unfold absI
    split <;> omega
def firstGo (pl : List (Int × Dx)) (w : W3) (t : Int) : Nat → Int → Int
  | 0, b => b
  | n + 1, b => if freeB pl b w t = true then b else firstGo pl w t n (b + 1)
theorem firstGo_is {pl : List (Int × Dx)} {w : W3} {t : Int} (h0 : 0 ≤ t) : ∀ (n : Nat) (b : Int), topB pl + t < b + n → IsFirst pl b w t (firstGo pl w t n b)
  | 0, b, h => by
    have e : firstGo pl w t 0 b = b := rfl
    rw [e]
    exact ⟨Int.le_refl _, free_far (by simpa using h) h0, fun u h1 h2 => by omega⟩
  | n + 1, b, h => by
    have h' : topB pl + t < b + 1 + n := by rw [Int.natCast_add] at h; have : ((1 : Nat) : Int) = 1 := rfl; omega
    unfold firstGo
    by_cases c : freeB pl b w t = true
    · rw [if_pos c]
      exact ⟨Int.le_refl _, c, fun u h1 h2 => by omega⟩
    · rw [if_neg c]
      obtain ⟨h1, h2, h3⟩ := firstGo_is h0 n (b + 1) h'
      refine ⟨by omega, h2, fun u hu hlt => ?_⟩
      by_cases e : u = b
      · rw [e]; simpa using c
      · exact h3 u (by omega) hlt
/-- the first free beat from b on -/
def firstAt (pl : List (Int × Dx)) (b : Int) (w : W3) (t : Int) : Int := firstGo pl w t (topB pl + t + 1 - b).toNat b
theorem firstAt_is {pl : List (Int × Dx)} {b : Int} {w : W3} {t : Int} (h0 : 0 ≤ t) : IsFirst pl b w t (firstAt pl b w t) := firstGo_is h0 _ _ (by omega)
theorem firstAt_eq {pl : List (Int × Dx)} {b : Int} {w : W3} {t v : Int} (h0 : 0 ≤ t) (h : IsFirst pl b w t v) : firstAt pl b w t = v := (firstAt_is h0).uniq h
/-- what is placed: the banks, the deeds as they were placed, the touches' beats -/
structure TabS where
  bs : List BankS
  pl : List (Int × Dx)
  es : List Int
def shutBeat (R : RulesS) (pl : List (Int × Dx)) (y : BankS) (t : Int) : Int := firstAt pl (max (max t (y.opened.getD 0 + R.k)) (y.touched.getD 0 + R.h)) .sh 0
def openFrom (R : RulesS) (y : BankS) (t : Int) : Int := match y.shut with
  | none => t
  | some s => max t (s + R.r)
def openBeat (R : RulesS) (pl : List (Int × Dx)) (y : BankS) (t : Int) : Int := firstAt pl (openFrom R y t) .op R.g
def touchBeat (R : RulesS) (pl : List (Int × Dx)) (y : BankS) (t : Int) : Int := firstAt pl (max t (y.opened.getD 0 + R.o)) .to R.w
abbrev PB := List (Int × Dx) × BankS
def placeShut (R : RulesS) (k t : Int) (s : PB) : PB := (s.1 ++ [(shutBeat R s.1 s.2 t, ⟨.sh, k, []⟩)], ⟨none, s.2.opened, s.2.touched, some (shutBeat R s.1 s.2 t)⟩)
def placeOpen (R : RulesS) (k row t : Int) (s : PB) : PB := (s.1 ++ [(openBeat R s.1 s.2 t, ⟨.op, k, [row]⟩)], ⟨some row, some (openBeat R s.1 s.2 t), none, s.2.shut⟩)
def maxO (b : Int) : Option Int → Int
  | none => b
  | some t => max b t
def placeTouch (R : RulesS) (k t : Int) (s : PB) : PB := (s.1 ++ [(touchBeat R s.1 s.2 t, ⟨.to, k, []⟩)], ⟨s.2.row, s.2.opened, some (maxO (touchBeat R s.1 s.2 t) s.2.touched), s.2.shut⟩)
/-- the right row is opened -/
def placeRow (R : RulesS) (a : AskS) (s : PB) : PB := if s.2.row = some a.row then s else placeOpen R a.k a.row a.t (if s.2.row.isSome = true then placeShut R a.k a.t s else s)
def placeB (R : RulesS) (a : AskS) (s : PB) : PB := placeTouch R a.k a.t (placeRow R a s)
def endB (R : RulesS) (a : AskS) (s : PB) : Int := touchBeat R (placeRow R a s).1 (placeRow R a s).2 a.t
def TabS.place (R : RulesS) (s : TabS) (a : AskS) : TabS := match s.bs[a.k.toNat]? with
  | none => s
  | some y => ⟨s.bs.set a.k.toNat (placeB R a (s.pl, y)).2, (placeB R a (s.pl, y)).1, s.es ++ [endB R a (s.pl, y)]⟩
def tab0 (b : Int) : TabS := ⟨List.replicate b.toNat ⟨none, none, none, none⟩, [], []⟩
def tabOf (R : RulesS) (as : List AskS) : TabS := as.foldl (TabS.place R) (tab0 R.b)
/-- a bank that is open was opened and touched -/
def BkOk (y : BankS) : Prop := y.row.isSome = true → y.opened.isSome = true ∧ y.touched.isSome = true
structure TabOk (R : RulesS) (s : TabS) : Prop where
  len : s.bs.length = R.b.toNat
  bk : ∀ y ∈ s.bs, BkOk y
theorem tab0_ok (R : RulesS) : TabOk R (tab0 R.b) := ⟨by simp [tab0], fun y hy => by
  have := List.eq_of_mem_replicate hy
  subst this
  exact fun c => by cases c⟩
theorem placeRow_row (R : RulesS) (a : AskS) (s : PB) : (placeRow R a s).2.row = some a.row := by
  unfold placeRow
  split
  · assumption
  · rfl
theorem placeRow_opened {R : RulesS} {a : AskS} {s : PB} (h : BkOk s.2) : ∃ i, (placeRow R a s).2.opened = some i := by
  unfold placeRow
  split
  · rename_i c
    exact Option.isSome_iff_exists.mp (h (by rw [c]; rfl)).1
  · exact ⟨_, rfl⟩
theorem placeB_ok {R : RulesS} {a : AskS} {s : PB} (h : BkOk s.2) : BkOk (placeB R a s).2 := fun _ => by
  obtain ⟨i, hi⟩ := placeRow_opened (R := R) (a := a) h
  refine ⟨?_, rfl⟩
  show (placeRow R a s).2.opened.isSome = true
  rw [hi]; rfl
theorem TabOk.place {R : RulesS} {s : TabS} (h : TabOk R s) (a : AskS) : TabOk R (s.place R a) := by
  unfold TabS.place
  cases q : s.bs[a.k.toNat]? with
  | none => exact h
  | some y =>
    refine ⟨by rw [List.length_set]; exact h.len, fun z hz => ?_⟩
    rcases List.mem_or_eq_of_mem_set hz with hz | rfl
    · exact h.bk z hz
    · exact placeB_ok (h.bk y (List.mem_of_getElem? q))
theorem tab_ok_fold {R : RulesS} : ∀ (as : List AskS) {s : TabS}, TabOk R s → TabOk R (as.foldl (TabS.place R) s)
  | [], _, h => h
  | a :: as, _, h => tab_ok_fold as (h.place a)
theorem tabOf_ok (R : RulesS) (as : List AskS) : TabOk R (tabOf R as) := tab_ok_fold as (tab0_ok R)
theorem tabOf_snoc (R : RulesS) (as : List AskS) (a : AskS) : tabOf R (as ++ [a]) = (tabOf R as).place R a := by
  unfold tabOf
  rw [List.foldl_append]
  rfl
/-- its plan as data -/
def tabD (R : RulesS) (s : TabS) : D := .ins "Table" [("rules", rulesD R), ("every", .lst (s.bs.map bankD)), ("plan", .lst (s.pl.map itD)), ("ends", .lst (s.es.map D.int))]
theorem placeB_len (R : RulesS) (a : AskS) (s : PB) : (placeB R a s).1.length ≤ s.1.length + 3 := by
  unfold placeB placeTouch placeRow
  split
  · simp
  · split <;> simp [placeOpen, placeShut]
theorem place_len (R : RulesS) (s : TabS) (a : AskS) : (s.place R a).pl.length ≤ s.pl.length + 3 ∧ (s.place R a).es.length ≤ s.es.length + 1 := by
  unfold TabS.place
  split
  · omega
  · exact ⟨placeB_len R a _, by simp⟩
theorem fold_len (R : RulesS) : ∀ (as : List AskS) (s : TabS), (as.foldl (TabS.place R) s).pl.length ≤ s.pl.length + 3 * as.length ∧ (as.foldl (TabS.place R) s).es.length ≤ s.es.length + as.length
  | [], s => ⟨Nat.le_refl _, Nat.le_refl _⟩
  | a :: as, s => by
    have h1 := place_len R s a
    have h2 := fold_len R as (s.place R a)
    rw [List.foldl_cons, List.length_cons]
    omega
theorem tabOf_len (R : RulesS) (as : List AskS) : (tabOf R as).pl.length ≤ 3 * as.length ∧ (tabOf R as).es.length ≤ as.length := by
  have := fold_len R as (tab0 R.b)
  have e1 : (tab0 R.b).pl.length = 0 := rfl
  have e2 : (tab0 R.b).es.length = 0 := rfl
  unfold tabOf
  omega
/-- the asks of an order's beginning -/
def selA (as : List AskS) (os : List Nat) : List AskS := os.filterMap fun o => as[o]?
def RTimes (R : RulesS) : Prop := 1 ≤ R.b ∧ R.b ≤ 4 ∧ 0 ≤ R.g ∧ 0 ≤ R.w
/-- table_of(..).f -/
def dTab (K : PySem.W.Frag) (f : Str) (g : TabS → D) (dr : DA) : DE := fun ρ m er P => dr ρ m er fun ds => ∃ (R : RulesS) (as : List AskS) (os : List Nat), ds.map (·.1) = [rulesD R, asksD as, ordD os] ∧ RTimes R ∧ (∀ a ∈ as, askOk R.b a = true) ∧ (∀ o ∈ os, o < as.length) ∧ as.length ≤ 100 ∧ os.length ≤ 100 ∧ Cls K (He.ga K "Table") ∧ NoAttr K (He.ga K "Table") f ∧ P (g (tabOf R (selA as os))) true
theorem dTab_s (K : PySem.W.Frag) (f : Str) (g : TabS → D) (dr : DA) : ∀ ρ m er P, dTab K f g dr ρ m er P = (dr ρ m er fun ds => ∃ (R : RulesS) (as : List AskS) (os : List Nat), ds.map (·.1) = [rulesD R, asksD as, ordD os] ∧ RTimes R ∧ (∀ a ∈ as, askOk R.b a = true) ∧ (∀ o ∈ os, o < as.length) ∧ as.length ≤ 100 ∧ os.length ≤ 100 ∧ Cls K (He.ga K "Table") ∧ NoAttr K (He.ga K "Table") f ∧ P (g (tabOf R (selA as os))) true) := fun _ _ _ _ => rfl
/-- an order as a tuple -/
def tupD (os : List Nat) : D := .tup (os.map fun (o : Nat) => D.int o)
end Bk

/-! What holds of what is placed. -/
namespace Bk
open PySem L2
theorem first_new {pl : List (Int × Dx)} {b : Int} {w : W3} {t : Int} (h0 : 0 ≤ t) : firstAt pl b w t ∉ pl.map (·.1) := fun c => by
  obtain ⟨y, hy, e⟩ := List.mem_map.mp c
  exact (freeB_iff.mp (firstAt_is h0).2.1 y hy).1 e
theorem nd_snoc {pl : List (Int × Dx)} {y : Int × Dx} (h : (pl.map (·.1)).Nodup) (hy : y.1 ∉ pl.map (·.1)) : ((pl ++ [y]).map (·.1)).Nodup := by
  rw [List.map_append]
  refine List.nodup_append.mpr ⟨h, List.pairwise_singleton _ _, fun a ha b hb e => hy ?_⟩
  rw [List.mem_singleton.mp hb] at e
  have e' : a = y.1 := e
  rw [← e']
  exact ha
/-- one deed more -/
structure Put (pl pl' : List (Int × Dx)) (b : Int) (x : Dx) (w : W3) (t f : Int) : Prop where
  eq : pl' = pl ++ [(b, x)]
  fst : IsFirst pl f w t b
/-- by induction over what is placed: a property of (plan, bank) that each of the three ways keeps -/
theorem placeB_ind {R : RulesS} (a : AskS) (C : PB → Prop) (h1 : ∀ s, C s → BkOk s.2 → s.2.row.isSome = true → C (placeShut R a.k a.t s)) (h2 : ∀ s, C s → s.2.row = none → C (placeOpen R a.k a.row a.t s)) {s : PB} (hs : C s) (hb : BkOk s.2) : C (placeRow R a s) := by
  unfold placeRow
  split
  · exact hs
  · split
    · rename_i c
      exact h2 _ (h1 _ hs hb c) rfl
    · rename_i c
      exact h2 _ hs (by cases q : s.2.row with | none => rfl | some r => rw [q] at c; exact absurd rfl c)
theorem nd_place {R : RulesS} (hg : 0 ≤ R.g) (hw : 0 ≤ R.w) (a : AskS) {s : PB} (hb : BkOk s.2) (h : (s.1.map (·.1)).Nodup) : ((placeB R a s).1.map (·.1)).Nodup := by
  have h1 := placeB_ind (R := R) a (fun s => (s.1.map (·.1)).Nodup) (fun s h _ _ => nd_snoc h (first_new (Int.le_refl _))) (fun s h _ => nd_snoc h (first_new hg)) h hb
  exact nd_snoc h1 (first_new hw)
structure TabNd (R : RulesS) (s : TabS) : Prop where
  ok : TabOk R s
  nd : (s.pl.map (·.1)).Nodup
theorem TabNd.place {R : RulesS} (hg : 0 ≤ R.g) (hw : 0 ≤ R.w) {s : TabS} (h : TabNd R s) (a : AskS) : TabNd R (s.place R a) := by
  refine ⟨h.ok.place a, ?_⟩
  unfold TabS.place
  cases q : s.bs[a.k.toNat]? with
  | none => exact h.nd
  | some y => exact nd_place hg hw a (s := (s.pl, y)) (h.ok.bk y (List.mem_of_getElem? q)) h.nd
theorem fold_nd {R : RulesS} (hg : 0 ≤ R.g) (hw : 0 ≤ R.w) : ∀ (as : List AskS) {s : TabS}, TabNd R s → TabNd R (as.foldl (TabS.place R) s)
  | [], _, h => h
  | a :: as, _, h => fold_nd hg hw as (h.place hg hw a)
theorem tabOf_nd {R : RulesS} (hg : 0 ≤ R.g) (hw : 0 ≤ R.w) (as : List AskS) : TabNd R (tabOf R as) := fold_nd hg hw as ⟨tab0_ok R, List.nodup_nil⟩
/-- by induction over the asks -/
theorem tab_ind {R : RulesS} {C : List AskS → TabS → Prop} (h0 : C [] (tab0 R.b)) (h1 : ∀ as a s, (∀ x ∈ as ++ [a], askOk R.b x = true) → TabOk R s → C as s → C (as ++ [a]) (s.place R a)) (as : List AskS) (has : ∀ a ∈ as, askOk R.b a = true) : C as (tabOf R as) := by
  have key : ∀ (n : Nat), n ≤ as.length → C (as.take n) (tabOf R (as.take n)) := by
    intro n
    induction n with
    | zero => intro _; exact h0
    | succ n ih =>
      intro hn
      have e : as.take (n + 1) = as.take n ++ [as[n]] := by rw [List.take_add_one, List.getElem?_eq_getElem (show n < as.length by omega)]; rfl
      rw [e, tabOf_snoc]
      refine h1 _ _ _ (fun x hx => has x ?_) (tabOf_ok R _) (ih (by omega))
      rcases List.mem_append.mp hx with hx | hx
      · exact List.mem_of_mem_take hx
      · rw [List.mem_singleton.mp hx]; exact List.getElem_mem _
  have := key as.length (Nat.le_refl _)
  rwa [List.take_length] at this
theorem place_bank {R : RulesS} {s : TabS} (h : TabOk R s) {a : AskS} (ha : askOk R.b a = true) : ∃ y, s.bs[a.k.toNat]? = some y ∧ BkOk y ∧ s.place R a = ⟨s.bs.set a.k.toNat (placeB R a (s.pl, y)).2, (placeB R a (s.pl, y)).1, s.es ++ [endB R a (s.pl, y)]⟩ := by
  obtain ⟨h1, h2, _⟩ := askOk_iff.mp ha
  have hlt : a.k.toNat < s.bs.length := by rw [h.len]; omega
  have q := List.getElem?_eq_getElem hlt
  refine ⟨_, q, h.bk _ (List.getElem_mem hlt), ?_⟩
  unfold TabS.place
  rw [q]
theorem tabOf_es {R : RulesS} (as : List AskS) (has : ∀ a ∈ as, askOk R.b a = true) : (tabOf R as).es.length = as.length := by
  refine tab_ind (C := fun as s => s.es.length = as.length) rfl (fun as a s hx ok ih => ?_) as has
  obtain ⟨y, _, _, e⟩ := place_bank ok (hx a (by simp))
  rw [e]
  show (s.es ++ [_]).length = (as ++ [a]).length
  rw [List.length_append, List.length_append, ih]
  rfl
end Bk

/-! No beat is far. -/
namespace Bk
open PySem L2
theorem first_le {pl : List (Int × Dx)} {b M : Int} {w : W3} {t : Int} (h0 : 0 ≤ t) (hb : b ≤ M) (hp : topB pl + t + 1 ≤ M) : firstAt pl b w t ≤ M := by
  obtain ⟨h1, h2, h3⟩ := firstAt_is (pl := pl) (b := b) (w := w) h0
  rcases Int.lt_or_le M (firstAt pl b w t) with c | c
  · have := h3 M hb c
    rw [free_far (by omega) h0] at this
    cases this
  · exact c
theorem top_le {pl : List (Int × Dx)} {M : Int} (h0 : 0 ≤ M) (h : ∀ y ∈ pl, y.1 ≤ M) : topB pl ≤ M := by
  induction pl with
  | nil => exact h0
  | cons y pl ih =>
    show max y.1 (topB pl) ≤ M
    have := h y List.mem_cons_self
    have := ih fun z hz => h z (List.mem_cons_of_mem _ hz)
    omega
structure PBd (M : Int) (s : PB) : Prop where
  pl : ∀ y ∈ s.1, y.1 ≤ M
  op : s.2.opened.getD 0 ≤ M
  to : s.2.touched.getD 0 ≤ M
  sh : s.2.shut.getD 0 ≤ M
theorem PBd.up {M N : Int} {s : PB} (h : PBd M s) (hm : M ≤ N) : PBd N s := ⟨fun y hy => Int.le_trans (h.pl y hy) hm, Int.le_trans h.op hm, Int.le_trans h.to hm, Int.le_trans h.sh hm⟩
theorem mem_put {pl : List (Int × Dx)} {M b : Int} {x : Dx} (h : ∀ y ∈ pl, y.1 ≤ M) (hb : b ≤ M) : ∀ y ∈ pl ++ [(b, x)], y.1 ≤ M := fun y hy => by
  rcases List.mem_append.mp hy with q | q
  · exact h y q
  · rw [List.mem_singleton.mp q]; exact hb
section
variable {R : RulesS} {M : Int} {a : AskS} {s : PB} (hk : R.k ≤ 9) (hh : R.h ≤ 9) (hr : R.r ≤ 9) (ho : R.o ≤ 9) (hg : 0 ≤ R.g ∧ R.g ≤ 9) (hw : 0 ≤ R.w ∧ R.w ≤ 9) (h9 : 999 ≤ M) (ht : a.t ≤ 999)
include h9 ht
include hk hh in
theorem bd_shut (h : PBd M s) : PBd (M + 10) (placeShut R a.k a.t s) := by
  have h1 := h.op
  have h2 := h.to
  have e : shutBeat R s.1 s.2 a.t ≤ M + 10 := first_le (Int.le_refl 0) (by omega) (by have := top_le (by omega) h.pl; omega)
  exact ⟨mem_put (fun y hy => by have := h.pl y hy; omega) e, by show s.2.opened.getD 0 ≤ _; omega, by show s.2.touched.getD 0 ≤ _; omega, e⟩
include hr hg in
theorem bd_open (h : PBd M s) : PBd (M + 10) (placeOpen R a.k a.row a.t s) := by
  have h1 := h.sh
  have hf : openFrom R s.2 a.t ≤ M + 10 := by
    unfold openFrom
    cases q : s.2.shut with
    | none => dsimp only; omega
    | some i => rw [q] at h1; have : i ≤ M := h1; dsimp only; omega
  have e : openBeat R s.1 s.2 a.t ≤ M + 10 := first_le hg.1 hf (by have := top_le (by omega) h.pl; omega)
  exact ⟨mem_put (fun y hy => by have := h.pl y hy; omega) e, e, by show (0 : Int) ≤ _; omega, by show s.2.shut.getD 0 ≤ _; omega⟩
include ho hw in
theorem bd_touch (h : PBd M s) : PBd (M + 10) (placeTouch R a.k a.t s) ∧ touchBeat R s.1 s.2 a.t ≤ M + 10 := by
  have h1 := h.op
  have e : touchBeat R s.1 s.2 a.t ≤ M + 10 := first_le hw.1 (by omega) (by have := top_le (by omega) h.pl; omega)
  refine ⟨⟨mem_put (fun y hy => by have := h.pl y hy; omega) e, by show s.2.opened.getD 0 ≤ _; omega, ?_, by show s.2.shut.getD 0 ≤ _; have := h.sh; omega⟩, e⟩
  show maxO (touchBeat R s.1 s.2 a.t) s.2.touched ≤ M + 10
  have h2 := h.to
  cases q : s.2.touched with
  | none => exact e
  | some i => rw [q] at h2; have : i ≤ M := h2; show max _ i ≤ _; omega
end
theorem RulesS.ok.nine {R : RulesS} (h : R.ok) : R.k ≤ 9 ∧ R.h ≤ 9 ∧ R.r ≤ 9 ∧ R.o ≤ 9 ∧ (0 ≤ R.g ∧ R.g ≤ 9) ∧ (0 ≤ R.w ∧ R.w ≤ 9) := by
  obtain ⟨_, _, h⟩ := h
  have h1 := h R.k (by simp [RulesS.ts])
  have h2 := h R.h (by simp [RulesS.ts])
  have h3 := h R.r (by simp [RulesS.ts])
  have h4 := h R.o (by simp [RulesS.ts])
  have h5 := h R.g (by simp [RulesS.ts])
  have h6 := h R.w (by simp [RulesS.ts])
  omega
theorem bd_place {R : RulesS} (hok : R.ok) {M : Int} {a : AskS} {s : PB} (h9 : 999 ≤ M) (ht : a.t ≤ 999) (h : PBd M s) : PBd (M + 30) (placeB R a s) ∧ endB R a s ≤ M + 30 := by
  obtain ⟨n1, n2, n3, n4, n5, n6⟩ := hok.nine
  have hrow : PBd (M + 20) (placeRow R a s) := by
    unfold placeRow
    split
    · exact h.up (by omega)
    · split
      · have := bd_open (R := R) (a := a) n3 n5 (by omega) ht (bd_shut (R := R) (a := a) n1 n2 h9 ht h)
        exact this.up (by omega)
      · exact (bd_open (R := R) (a := a) n3 n5 h9 ht h).up (by omega)
  obtain ⟨q1, q2⟩ := bd_touch (R := R) (a := a) n4 n6 (by omega) ht hrow
  exact ⟨q1.up (by omega), by unfold endB; omega⟩
structure TBd (M : Int) (s : TabS) : Prop where
  pl : ∀ y ∈ s.pl, y.1 ≤ M
  es : ∀ e ∈ s.es, e ≤ M
  bk : ∀ y ∈ s.bs, y.opened.getD 0 ≤ M ∧ y.touched.getD 0 ≤ M ∧ y.shut.getD 0 ≤ M
theorem tab_bd {R : RulesS} (hok : R.ok) (as : List AskS) (has : ∀ a ∈ as, askOk R.b a = true) : TBd (999 + 30 * as.length) (tabOf R as) := by
  refine tab_ind (C := fun as s => TBd (999 + 30 * as.length) s) ⟨fun y h => (by cases h), fun y h => (by cases h), fun y hy => ?_⟩ (fun as a s hx ok ih => ?_) as has
  · have := List.eq_of_mem_replicate hy
    subst this
    exact ⟨by decide, by decide, by decide⟩
  · have ha := hx a (by simp)
    have ht := (askOk_iff.mp ha).2.2.2.2.2
    obtain ⟨y, hy, _, e⟩ := place_bank ok ha
    obtain ⟨b1, b2, b3⟩ := ih.bk y (List.mem_of_getElem? hy)
    obtain ⟨q1, q2⟩ := bd_place hok (M := 999 + 30 * as.length) (a := a) (s := (s.pl, y)) (by omega) ht ⟨ih.pl, b1, b2, b3⟩
    have el : (999 + 30 * ((as ++ [a]).length : Int)) = 999 + 30 * as.length + 30 := by
      rw [List.length_append]
      show (999 + 30 * ((as.length + 1 : Nat) : Int)) = _
      omega
    rw [e, el]
    refine ⟨q1.pl, fun x hx => ?_, fun z hz => ?_⟩
    · rcases List.mem_append.mp hx with q | q
      · have := ih.es x q; omega
      · rw [List.mem_singleton.mp q]; exact q2
    · rcases List.mem_or_eq_of_mem_set hz with q | q
      · have := ih.bk z q; omega
      · rw [q]; exact ⟨q1.op, q1.to, q1.sh⟩
end Bk

/-! A plan by its beats, in plain words. -/
namespace Bk
open PySem L2
/-- a plan by its beats -/
def sortPl (pl : List (Int × Dx)) : List (Int × Dx) := pl.mergeSort fun x y => decide (x.1 ≤ y.1)
theorem sortPl_perm (pl : List (Int × Dx)) : (sortPl pl).Perm pl := List.mergeSort_perm _ _
theorem sortPl_le (pl : List (Int × Dx)) : (sortPl pl).Pairwise fun x y => x.1 ≤ y.1 := by
  have := List.pairwise_mergeSort (le := fun x y : Int × Dx => decide (x.1 ≤ y.1)) (fun a b c h1 h2 => by simp only [decide_eq_true_eq] at *; omega) (fun a b => by simp only [Bool.or_eq_true, decide_eq_true_eq]; omega) pl
  exact this.imp fun h => by simpa using h
end Bk

/-! Orders, in plain words. -/
namespace Bk
open PySem L2
/-- an order of n asks -/
def isOrd (n : Nat) (os : List Int) : Prop := ∃ ns : List Nat, os = ns.map (fun (o : Nat) => (o : Int)) ∧ ns.Perm (List.range n)
theorem perm_map_nat {os : List Int} {ms : List Nat} (h : os.Perm (ms.map fun (o : Nat) => (o : Int))) : ∃ ns : List Nat, os = ns.map (fun (o : Nat) => (o : Int)) ∧ ns.Perm ms := by
  refine ⟨os.map Int.toNat, ?_, ?_⟩
  · have : ∀ x ∈ os, ((x.toNat : Nat) : Int) = x := fun x hx => by
      obtain ⟨m, _, rfl⟩ := List.mem_map.mp (h.mem_iff.mp hx)
      rfl
    rw [List.map_map]
    exact (List.map_id os).symm.trans (List.map_congr_left fun x hx => (this x hx).symm)
  · have := h.map Int.toNat
    rw [List.map_map] at this
    simpa [Function.comp_def] using this
theorem range_sorted (n : Nat) : List.Pairwise (fun x1 x2 : Int => x1 ≤ x2) ((List.range n).map fun (o : Nat) => (o : Int)) := by
  rw [List.pairwise_map]
  exact List.pairwise_lt_range.imp fun {a b} h => by omega
theorem sorted_uniq {xs ys : List Int} (h : xs.Perm ys) (h1 : List.Pairwise (fun x1 x2 => x1 ≤ x2) xs) (h2 : List.Pairwise (fun x1 x2 => x1 ≤ x2) ys) : xs = ys :=
  h.eq_of_pairwise (le := fun a b => a ≤ b) (fun a b _ _ x y => Int.le_antisymm x y) h1 h2
theorem isOrd_iff {n : Nat} {os ns : List Int} (h : ns.Perm os) (hs : List.Pairwise (fun x1 x2 => x1 ≤ x2) ns) : isOrd n os ↔ ns = (List.range n).map fun (o : Nat) => (o : Int) := by
  constructor
  · rintro ⟨ms, rfl, hm⟩
    exact sorted_uniq (h.trans (hm.map _)) hs (range_sorted n)
  · rintro rfl
    exact perm_map_nat h.symm
def F_need_order (ds : List D) (er : Err → Prop) (P : D → Prop) : Prop := ∃ (as : List AskS) (os : List Int), ds = [asksD as, .lst (os.map D.int)] ∧ as.length ≤ 1000 ∧ os.length ≤ 1000 ∧ (isOrd as.length os → P .non) ∧ (¬ isOrd as.length os → er (.plain "BadOrder"))
end Bk

local macro_rules | `(tactic| walk_at "b") => `(tactic| first | with_reducible assumption | with_reducible rfl | decide | exact decide_eq_true (by omega) | exact decide_eq_false (by omega) | exact Bk.ndT (by omega) | exact Bk.ndF (by omega) | (simp only [beq_self_eq_true, decide_true, Bool.not_true, Bool.not_false]; done))
local macro_rules | `(tactic| walk_at "s") => `(tactic| first | (with_reducible refine' Bk.w_seq ?_) | (with_reducible refine' Bk.w_next ?_) | (with_reducible refine' Bk.w_brk ?_) | (with_reducible refine' Bk.w_cont ?_) | (with_reducible refine' Bk.w_drop ?_) | (with_reducible refine' Bk.w_ret ?_) | (with_reducible refine' Bk.w_retN ?_) | (with_reducible refine' Bk.w_asg ?_) | (with_reducible refine' Bk.w_ifS ?_) | (with_reducible refine' Bk.w_c ?_) | (with_reducible refine' Bk.w_v0 ?_) | (with_reducible refine' Bk.w_v1 ?_) | (with_reducible refine' Bk.w_v2 ?_) | (with_reducible refine' Bk.w_v3 ?_) | (with_reducible refine' Bk.w_v4 ?_) | (with_reducible refine' Bk.w_v5 ?_) | (with_reducible refine' Bk.w_v6 ?_) | (with_reducible refine' Bk.w_v7 ?_) | (with_reducible refine' Bk.w_v8 ?_) | (with_reducible refine' Bk.w_v9 ?_) | (with_reducible refine' Bk.w_v10 ?_) | (with_reducible refine' Bk.w_v11 ?_) | (with_reducible refine' Bk.w_v12 ?_) | (with_reducible refine' Bk.w_v13 ?_) | (with_reducible refine' Bk.w_v14 ?_) | (with_reducible refine' Bk.w_v15 ?_) | (with_reducible refine' Bk.w_v16 ?_) | (with_reducible refine' Bk.w_v17 ?_) | (with_reducible refine' Bk.w_v18 ?_) | (with_reducible refine' Bk.w_v19 ?_) | (with_reducible refine' Bk.w_v20 ?_) | (with_reducible refine' Bk.w_v21 ?_) | (with_reducible refine' Bk.g_n0 ?_) | (with_reducible refine' Bk.g_n1 ?_) | (with_reducible refine' Bk.g_n2 ?_) | (with_reducible refine' Bk.g_n3 ?_) | (with_reducible refine' Bk.g_n4 ?_) | (with_reducible refine' Bk.g_n5 ?_) | (with_reducible refine' Bk.g_n6 ?_) | (with_reducible refine' Bk.g_n7 ?_) | (with_reducible refine' Bk.g_n8 ?_) | (with_reducible refine' Bk.g_n9 ?_) | (with_reducible refine' Bk.g_n10 ?_) | (with_reducible refine' Bk.g_n11 ?_) | (with_reducible refine' Bk.g_n12 ?_) | (with_reducible refine' Bk.g_n13 ?_) | (with_reducible refine' Bk.g_n14 ?_) | (with_reducible refine' Bk.g_n15 ?_) | (with_reducible refine' Bk.g_n16 ?_) | (with_reducible refine' Bk.g_n17 ?_) | (with_reducible refine' Bk.g_n18 ?_) | (with_reducible refine' Bk.g_n19 ?_) | (with_reducible refine' Bk.g_n20 ?_) | (with_reducible refine' Bk.g_n21 ?_) | (with_reducible refine' Bk.w_op ?_) | (with_reducible refine' Bk.k_op ?_) | (with_reducible refine' Bk.w_un ?_) | (with_reducible refine' Bk.r_I0 ?_) | (with_reducible refine' Bk.r_U ?_) | (with_reducible refine' Bk.r_eqI ?_) | (with_reducible refine' Bk.r_neI ?_) | (with_reducible refine' Bk.r_eqB ?_) | (with_reducible refine' Bk.r_neB ?_) | (with_reducible refine' Bk.r_eqS ?_) | (with_reducible refine' Bk.r_neS ?_) | (with_reducible refine' Bk.w_test ?_) | (with_reducible refine' Bk.w_B ?_) | (with_reducible refine' Bk.k_test ?_) | (with_reducible refine' Bk.w_not ?_) | (with_reducible refine' Bk.w_and ?_) | (with_reducible refine' Bk.w_or ?_) | (with_reducible refine' Bk.w_andV ?_) | (with_reducible refine' Bk.w_orV ?_) | (with_reducible refine' Bk.w_notV ?_) | (with_reducible refine' Bk.k_notV ?_) | (with_reducible refine' Bk.w_if ?_) | (with_reducible refine' Bk.w_chain ?_) | (with_reducible refine' Bk.k_chain1 ?_) | (with_reducible refine' Bk.w_nil ?_) | (with_reducible refine' Bk.w_cons ?_) | (with_reducible refine' Bk.k_cons ?_) | (with_reducible refine' Bk.w_tup ?_) | (with_reducible refine' Bk.w_lst ?_) | (with_reducible refine' Bk.w_cb ?_) | (with_reducible refine' Bk.w_call ?_) | (with_reducible refine' Bk.w_make ?_) | (with_reducible refine' Bk.w_meth ?_) | (with_reducible refine' Bk.w_fld ?_) | (with_reducible refine' Bk.w_sfld ?_) | (with_reducible refine' Bk.g_nil ?_) | (with_reducible refine' Bk.g_cons ?_) | (with_reducible refine' Bk.g_sub ?_) | (with_reducible refine' Bk.k_gsub ?_) | (with_reducible refine' Bk.b_abs ?_) | (with_reducible refine' Bk.b_max2 ?_) | (with_reducible refine' Bk.b_min2 ?_) | (with_reducible refine' Bk.b_intB ?_) | (with_reducible refine' Bk.b_intI ?_) | (with_reducible refine' Bk.n_isNT ?_) | (with_reducible refine' Bk.n_isNi ?_) | (with_reducible refine' Bk.n_isNb ?_) | (with_reducible refine' Bk.n_isNs ?_) | (with_reducible refine' Bk.n_isNr ?_) | (with_reducible refine' Bk.n_notNT ?_) | (with_reducible refine' Bk.n_notNi ?_) | (with_reducible refine' Bk.n_notNb ?_) | (with_reducible refine' Bk.n_notNs ?_) | (with_reducible refine' Bk.n_notNr ?_) | (with_reducible refine' Bk.r_isN ?_) | (with_reducible refine' Bk.r_notN ?_) | (with_reducible refine' Bk.r_inC ?_) | (with_reducible refine' Bk.r_notInC ?_) | (with_reducible refine' Bk.w_bm ?_) | (with_reducible refine' Bk.w_bm0 ?_) | (with_reducible refine' Bk.k_bmS ?_) | (with_reducible refine' Bk.w_sl ?_) | (with_reducible refine' Bk.k_sl1 ?_) | (with_reducible refine' Bk.w_nopart ?_) | (with_reducible refine' Bk.w_part ?_) | (with_reducible refine' Bk.k_part ?_) | (with_reducible refine' Bk.w_ilist ?_) | (with_reducible refine' Bk.w_itup ?_) | (with_reducible refine' Bk.w_irng1 ?_) | (with_reducible refine' Bk.w_for ?_) | (with_reducible refine' Bk.w_lc ?_) | (with_reducible refine' Bk.w_yes ?_) | (with_reducible refine' Bk.w_raiseO ?_) | (with_reducible refine' Bk.w_vei ?_) | (with_reducible refine' Bk.w_ost ?_) | (with_reducible refine' Bk.l_in ?_) | (with_reducible refine' Bk.l_notIn ?_) | (with_reducible refine' Bk.w_makeS ?_) | (with_reducible refine' Bk.w_raise ?_) | (with_reducible refine' Bk.w_try ?_) | (with_reducible refine' Bk.g_fld ?_) | ((with_reducible refine' Bk.e_ifT ?he ?_); (case he => walk_at "b")) | ((with_reducible refine' Bk.e_ifF ?he ?_); (case he => walk_at "b")) | ((with_reducible refine' Bk.e_orT ?he ?_); (case he => walk_at "b")) | ((with_reducible refine' Bk.e_orF ?he ?_); (case he => walk_at "b")) | ((with_reducible refine' Bk.e_andT ?he ?_); (case he => walk_at "b")) | ((with_reducible refine' Bk.e_andF ?he ?_); (case he => walk_at "b")) | ((with_reducible refine' Bk.e_orVT ?he ?_); (case he => walk_at "b")) | ((with_reducible refine' Bk.e_orVF ?he ?_); (case he => walk_at "b")) | ((with_reducible refine' Bk.e_andVT ?he ?_); (case he => walk_at "b")) | ((with_reducible refine' Bk.e_andVF ?he ?_); (case he => walk_at "b")) | ((with_reducible refine' Bk.e_ifET ?he ?_); (case he => walk_at "b")) | ((with_reducible refine' Bk.e_ifEF ?he ?_); (case he => walk_at "b")) | ((with_reducible refine' Bk.e_chT ?he ?_); (case he => walk_at "b")) | ((with_reducible refine' Bk.e_chF ?he ?_); (case he => walk_at "b")) | ((with_reducible refine' Bk.e_keepT ?he ?_); (case he => walk_at "b")) | ((with_reducible refine' Bk.e_keepF ?he ?_); (case he => walk_at "b")) | ((with_reducible refine' Bk.r_ixL ?hp ?ha ?_); (case hp => walk_at "seqL"); (case ha => walk_at "at")) | ((with_reducible refine' Bk.r_ixT ?hp ?ha ?_); (case hp => walk_at "seqT"); (case ha => walk_at "at")) | ((with_reducible refine' Bk.r_ixQL ?hp ?ha ?_); (case hp => walk_at "seqL"); (case ha => walk_at "at")) | ((with_reducible refine' Bk.r_ixQT ?hp ?ha ?_); (case hp => walk_at "seqT"); (case ha => walk_at "at")) | ((with_reducible refine' Bk.l_ix ?hz ?_); (case hz => walk_at "at")) | ((with_reducible refine' Bk.r_setL ?hp ?hj ?_); (case hp => walk_at "hp"); (case hj => walk_at "at")) | ((with_reducible refine' Bk.r_I ?hc ?_); (case hc => walk_at "c")) | ((with_reducible refine' Bk.b_lenL ?hp ?_); (case hp => walk_at "seqL")) | ((with_reducible refine' Bk.b_lenT ?hp ?_); (case hp => walk_at "seqT")) | ((with_reducible refine' Bk.k_fld ?ho ?hc ?hn ?hl ?_); (case ho => walk_at "hp"); (case hc => walk_at "fact"); (case hn => walk_at "fact"); (case hl => walk_at "at")) | ((with_reducible refine' Bk.k_sfld ?ho ?hc ?hn ?hz ?he ?_); (case ho => walk_at "hp"); (case hc => walk_at "fact"); (case hn => walk_at "fact"); (case hz => walk_at "fl"); (case he => walk_at "at")) | ((with_reducible refine' Bk.k_meth ?ho ?hl ?_); (case ho => walk_at "hp"); (case hl => walk_at "at")) | ((with_reducible refine' Bk.g_tup ?hp ?hl ?_); (case hp => walk_at "seqT"); (case hl => walk_at "at")) | ((with_reducible refine' Bk.k_bmL ?hp ?_); (case hp => walk_at "seqL")) | ((with_reducible refine' Bk.k_bm0L ?hp ?_); (case hp => walk_at "seqL")) | ((with_reducible refine' Bk.k_ilist ?hp ?_); (case hp => walk_at "seqL")) | ((with_reducible refine' Bk.k_itup ?hp ?_); (case hp => walk_at "seqT")) | ((with_reducible refine' Bk.k_irng1 ?h1 ?h2 ?_); (case h1 => walk_at "c"); (case h2 => walk_at "c")) | ((with_reducible refine' Bk.k_turn ?he ?_); (case he => walk_at "at")) | ((with_reducible refine' Bk.b_isi1 (b := true) ?ht ?hk ?_); (case ht => walk_at "ty"); (case hk => decide +kernel)) | ((with_reducible refine' Bk.b_isi1 (b := false) ?ht ?hk ?_); (case ht => walk_at "ty"); (case hk => decide +kernel)) | ((with_reducible refine' Bk.b_isi2 (b1 := true) (b2 := true) ?hp ?ht ?h1 ?h2 ?_); (case hp => walk_at "hp"); (case ht => walk_at "ty"); (case h1 => decide +kernel); (case h2 => decide +kernel)) | ((with_reducible refine' Bk.b_isi2 (b1 := true) (b2 := false) ?hp ?ht ?h1 ?h2 ?_); (case hp => walk_at "hp"); (case ht => walk_at "ty"); (case h1 => decide +kernel); (case h2 => decide +kernel)) | ((with_reducible refine' Bk.b_isi2 (b1 := false) (b2 := true) ?hp ?ht ?h1 ?h2 ?_); (case hp => walk_at "hp"); (case ht => walk_at "ty"); (case h1 => decide +kernel); (case h2 => decide +kernel)) | ((with_reducible refine' Bk.b_isi2 (b1 := false) (b2 := false) ?hp ?ht ?h1 ?h2 ?_); (case hp => walk_at "hp"); (case ht => walk_at "ty"); (case h1 => decide +kernel); (case h2 => decide +kernel)) | ((with_reducible refine' Bk.m_append ?hp ?hl ?_); (case hp => walk_at "hp"); (case hl => walk_at "sz")) | ((with_reducible refine' Bk.k_put ?hp ?hl ?_); (case hp => walk_at "hp"); (case hl => walk_at "sz")) | ((with_reducible refine' Bk.s_tup ?hl ?_); (case hl => walk_at "sz"); intro p np S) | ((with_reducible refine' Bk.s_lst ?hl ?_); (case hl => walk_at "sz"); intro p np S) | ((with_reducible refine' Bk.s_tupL ?hp ?_); (case hp => walk_at "seqL"); intro p np S) | ((with_reducible refine' Bk.b_tupT ?hp ?_); (case hp => walk_at "seqT")) | ((with_reducible refine' Bk.s_listOf ?hp ?_); (case hp => walk_at "seqL"); intro p np S) | ((with_reducible refine' Bk.s_cat ?hp ?hb ?hl ?_); (case hp => walk_at "hp"); (case hb => walk_at "hp"); (case hl => walk_at "sz"); intro p np S) | ((with_reducible refine' Bk.s_slL ?hp ?_); (case hp => walk_at "seqL"); intro p np S) | ((with_reducible refine' Bk.b_isX ?hT ?hd ?hc ?hk ?_); (case hT => with_reducible assumption); (case hd => first | exact Or.inl rfl | with_reducible assumption); (case hc => exact fun _ h => h); (case hk => with_reducible assumption)))
local macro_rules | `(tactic| walk_at "sz") => `(tactic| first | with_reducible assumption | (refine Bk.sz_of ?_; first | decide | omega | (simp only [List.length_cons, List.length_nil, List.length_append, List.length_map, List.length_range]; omega) | (simp only [List.length_cons, List.length_nil, List.length_append, List.length_map, List.length_range]; done)) | (refine Bk.sz_lt ?_; first | decide | omega | (simp only [List.length_cons, List.length_nil, List.length_append, List.length_map, List.length_range]; omega) | (simp only [List.length_cons, List.length_nil, List.length_append, List.length_map, List.length_range]; done)))
local macro_rules | `(tactic| walk_at "seqL") => `(tactic| first | with_reducible assumption | ((with_reducible refine' Bk.same_l ?h1 ?h2); (case h1 => with_reducible assumption); (case h2 => with_reducible assumption)) | ((with_reducible refine' L2.SqL.of ?h1); (case h1 => walk_at "hp")) | ((with_reducible refine' Bk.upd_ins_l ?h1 ?h2); (case h2 => walk_at "hp"); (case h1 => walk_at "seqL")))
local macro_rules | `(tactic| walk_at "seqT") => `(tactic| first | with_reducible assumption | ((with_reducible refine' Bk.same_t ?h1 ?h2); (case h1 => with_reducible assumption); (case h2 => with_reducible assumption)) | ((with_reducible refine' L2.SqT.of ?h1); (case h1 => walk_at "hp")) | ((with_reducible refine' Bk.upd_ins_t ?h1 ?h2); (case h2 => walk_at "hp"); (case h1 => walk_at "seqT")) | ((with_reducible refine' Bk.upd_lst_t ?h1 ?h2); (case h2 => walk_at "hp"); (case h1 => walk_at "seqT")))
local macro_rules | `(tactic| walk_at "hp") => `(tactic| first | with_reducible assumption | with_reducible exact L2.upd_same | ((with_reducible refine' Eq.trans (L2.upd_ne ?ne) ?hp); (case ne => walk_at "ne"); (case hp => walk_at "hp")) | ((with_reducible refine' Bk.same_g ?h1 ?h2); (case h1 => with_reducible assumption); (case h2 => walk_at "hp")) | ((with_reducible refine' Bk.kp_g ?h1 ?ne ?h2); (case h1 => with_reducible assumption); (case ne => walk_at "ne"); (case h2 => walk_at "hp")))
local macro_rules | `(tactic| walk_at "ne") => `(tactic| first | with_reducible assumption | ((with_reducible refine Ne.symm ?_); with_reducible assumption) | ((with_reducible refine' L2.ne_of_none ?h1 ?h2); (case h2 => with_reducible assumption); (case h1 => walk_at "hp")) | ((with_reducible refine' Ne.symm (L2.ne_of_none ?h1 ?h2)); (case h2 => with_reducible assumption); (case h1 => walk_at "hp")))
local macro_rules | `(tactic| walk_at "at") => `(tactic| first | with_reducible assumption | rfl)
local macro_rules | `(tactic| walk_at "ty") => `(tactic| first | with_reducible exact L2.TyX.base (.int _) | with_reducible exact L2.TyX.base (.bl _) | with_reducible exact L2.TyX.base (.str _) | with_reducible exact L2.TyX.base .non | ((with_reducible refine' Bk.ty_l ?h1); (case h1 => walk_at "seqL")) | ((with_reducible refine' Bk.ty_t ?h1); (case h1 => walk_at "seqT")))
local macro_rules | `(tactic| walk_at "fl") => `(tactic| exact Nat.lt_of_succ_le (Nat.le_of_ble_eq_true rfl))
local macro_rules | `(tactic| walk_at "fact") => `(tactic| first | with_reducible assumption)
local macro_rules | `(tactic| walk_at "c") => `(tactic| ((try dsimp only); first | omega | decide | (refine Or.inl ⟨?_, ?_⟩ <;> omega) | (refine Or.inr ⟨?_, ?_⟩ <;> omega) | (refine ⟨?_, ?_⟩ <;> first | decide | omega)))
local macro_rules | `(tactic| walk_at "ss") => `(tactic| repeat walk_at "s")
local macro_rules | `(tactic| walk_at "dh") => `(tactic| simp only [*, ↓Bk.dVar_s, ↓Bk.dC_s, ↓Bk.dOp_s, ↓Bk.fI_s, ↓Bk.fIC_s, ↓Bk.fEq_s, ↓Bk.fNe_s, ↓Bk.fIs_s, ↓Bk.fNotIs_s, ↓Bk.fEqD_s, ↓Bk.fNeD_s, ↓Bk.fInD_s, ↓Bk.fNotInD_s, ↓Bk.fCat_s, ↓Bk.fCatT_s, ↓Bk.fCatS_s, ↓Bk.fIxL_s, ↓Bk.fIxT_s, ↓Bk.fIxQ_s, ↓Bk.dTest_s, ↓Bk.dNot_s, ↓Bk.dYes_s, ↓Bk.dNotV_s, ↓Bk.dUn_s, ↓Bk.dNil_s, ↓Bk.dCons_s, ↓Bk.dTup_s, ↓Bk.dLst_s, ↓Bk.dCB_s, ↓Bk.fLen_s, ↓Bk.fLenS_s, ↓Bk.fAbs_s, ↓Bk.fMax2_s, ↓Bk.fMin2_s, ↓Bk.fInt1_s, ↓Bk.fStr1_s, ↓Bk.fTupOf_s, ↓Bk.fListOf_s, ↓Bk.fMaxL_s, ↓Bk.fMinL_s, ↓Bk.dNoPart_s, ↓Bk.dPart_s, ↓Bk.dSl_s, ↓Bk.fSlL_s, ↓Bk.fSlT_s, ↓Bk.fSlS_s, ↓Bk.dFld_s, ↓Bk.dCall_s, ↓Bk.dCallX_s, ↓Bk.dCallR_s, ↓Bk.dgN_s, ↓Bk.dgsN_s, ↓Bk.dgT_s, ↓Bk.diL_s, ↓Bk.diT_s, ↓Bk.diS_s, ↓Bk.diR1_s, ↓Bk.diR2_s, ↓Bk.dNext_s, ↓Bk.dBrk_s, ↓Bk.dCont_s, ↓Bk.dDrop_s, ↓Bk.dRet_s, ↓Bk.dRetN_s, ↓Bk.dAsgG_s, ↓Bk.fAppend_s, ↓Bk.fExtend_s, ↓Bk.fInsert_s, ↓Bk.dMut_s, ↓Bk.dMutT_s, ↓Bk.dMut0_s, ↓Bk.dRaise_s, ↓Bk.dRaiseN_s, ↓Bk.dDNew_s, ↓Bk.dDGet_s, ↓Bk.dDIn_s, ↓Bk.dDNotIn_s, ↓Bk.dDGet2_s, ↓Bk.dPs0_s, ↓Bk.dPs1_s, ↓Bk.dDisp_s, ↓Bk.dDPut_s, ↓Bk.dMeth_s, ↓Bk.fIn_s, ↓Bk.dNever_s, ↓Bk.dLstR_s, ↓Bk.fSortI_s, ↓Bk.fMax3_s, ↓Bk.fRep_s, ↓Bk.dMutPop_s, ↓Bk.fSortK_s, ↓Bk.fSortD_s, ↓Bk.dPopG_s, ↓Bk.dKeysWord_s, ↓Bk.dIndex_s, ↓Bk.dMaxDf_s, ↓Bk.dLenSet_s, ↓Bk.fIsB_s, ↓Bk.fNotB_s, ↓Bk.diLT_s, ↓Bk.dJoin_s, ↓Bk.dSplit_s, ↓Bk.fIntS_s, ↓Bk.fNotInC_s, ↓Bk.fIxS_s, ↓Bk.dNotLen_s, ↓Bk.dIxLen_s, ↓Bk.dListRev_s, ↓Bk.dLenSetLT_s, ↓Bk.dIf_s, ↓Bk.nxT_s, ↓Bk.dSeq_s, ↓Bk.dIfS_s, ↓Bk.dAnd_s, ↓Bk.dOr_s, ↓Bk.dAndV_s, ↓Bk.dOrV_s, ↓Bk.dChain_s, ↓Bk.dAsg_fr, ↓Bk.dAsg_sh, ↓Bk.dAsg_ow, ↓Bk.dAsg_dp, ↓Bk.dAsgV_ow, ↓Bk.dAsgV_sh, ↓Bk.dAsgV_fr, ↓Bk.dAsgL_ow, ↓Bk.dAsgL_fr, ↓Bk.dForV_ow, ↓Bk.dForV_fr, ↓Bk.dForV_sh, ↓Bk.atI_0, ↓Bk.atI_1, ↓Bk.atI_2, ↓Bk.atI_3, ↓Bk.atI_4, ↓Bk.atI_5, ↓Bk.atI_6, ↓Bk.atI_7, ↓Bk.atI_m0, ↓Bk.atI_m1, ↓Bk.atI_m2, ↓Bk.dgsC_1, ↓Bk.dat_un, ↓Bk.dat_row, ↓Bk.dat_sh, ↓Bk.dat_fr, ↓Bk.dat_ow, ↓Bk.dat_dp, ↓Bk.dat_st, ↓Bk.dat_wk, ↓Bk.ok_sh_sh, ↓Bk.ok_sh_fr, ↓Bk.ok_sh_nw, ↓Bk.ok_sh_rt, ↓Bk.ok_fr_sh, ↓Bk.ok_fr_fr, ↓Bk.ok_fr_nw, ↓Bk.ok_fr_rt, ↓Bk.ok_ow_sh, ↓Bk.ok_ow_fr, ↓Bk.ok_ow_nw, ↓Bk.ok_ow_rt, ↓Bk.ok_dp_sh, ↓Bk.ok_dp_fr, ↓Bk.ok_dp_nw, ↓Bk.ok_dp_rt, ↓Bk.ok_st_sh, ↓Bk.ok_st_fr, ↓Bk.ok_st_nw, ↓Bk.ok_st_rt, ↓Bk.ok_wk_sh, ↓Bk.ok_wk_fr, ↓Bk.ok_wk_nw, ↓Bk.ok_wk_rt, ↓Bk.eqS_ii, ↓Bk.eqS_ss, ↓Bk.eqS_bb, ↓Bk.eqS_nn, ↓Bk.eqS_ni, ↓Bk.eqS_in, ↓Bk.eqS_ns, ↓Bk.eqS_sn, ↓Bk.eqS_is, ↓Bk.eqS_si, ↓Bk.isN_n, ↓Bk.isN_i, ↓Bk.isN_s, ↓Bk.isN_b, ↓Bk.isN_l, ↓Bk.isN_t, ↓Bk.flatLD_l, ↓Bk.flatLD_d, ↓Bk.key_eqs, ↓Bk.key_eqi, ↓Bk.keyD_i, ↓Bk.keyD_s, ↓Bk.fl_l, ↓Bk.fl_t, ↓Bk.fl_n, ↓Bk.fl_i, ↓Bk.fl_s, ↓Bk.fl_b, ↓Bk.fl_d, ↓Bk.fl_o, ↓Bk.fls_0, ↓Bk.fls_1, ↓Bk.slAt_0, ↓Bk.slAt_s, ↓Bk.slPut_0, ↓Bk.slPut_s, ↓Bk.wipeS_0, ↓Bk.wipeS_1, ↓Bk.putG_0, ↓Bk.putG_1, ↓Bk.putF_0, ↓Bk.putF_1, ↓Bk.putI_0, ↓Bk.putI_1, ↓Bk.itS_fr, ↓Bk.itS_sh, ↓Bk.itS_sh_i, ↓Bk.stk_t, ↓Bk.stk_f, ↓Bk.allB_0, ↓Bk.allB_1, ↓Bk.lcTurn_s, ↓Bk.lk_Rules_many, ↓Bk.lk_Rules_told, ↓Bk.lk_Rules_open_time, ↓Bk.lk_Rules_hold, ↓Bk.lk_Rules_keep, ↓Bk.lk_Rules_rest, ↓Bk.lk_Rules_wire, ↓Bk.lk_Rules_gap, ↓Bk.lk_Rules_banks, ↓Bk.lk_Rules_times, ↓Bk.lk_Bank_row, ↓Bk.lk_Bank_opened, ↓Bk.lk_Bank_touched, ↓Bk.lk_Bank_shut_at, ↓Bk.lk_Watch_rules, ↓Bk.lk_Watch_every, ↓Bk.lk_Watch_last, ↓Bk.lk_Watch_opened, ↓Bk.lk_Watch_touched, ↓Bk.lk_Watch_bar, ↓Bk.lk_Watch_bar_of_open, ↓Bk.lk_Table_rules, ↓Bk.lk_Table_every, ↓Bk.lk_Table_plan, ↓Bk.lk_Table_ends, ↓Bk.lk_Table_first, ↓Bk.lk_Table_is_near, ↓Bk.lk_Search_rules, ↓Bk.lk_Search_asks, ↓Bk.lk_Search_bound, ↓Bk.lk_Search_best, List.getLast?_map, Option.some.injEq, and_assoc, exists_eq_left, exists_eq_left', exists_eq_right, exists_and_left, exists_const, Bk.D.int.injEq, Bk.D.bl.injEq, Bk.D.str.injEq, Bk.D.lst.injEq, Bk.D.tup.injEq, Bk.D.ins.injEq, Bk.D.dic.injEq, Bk.Sl.ow.injEq, Bk.Sl.fr.injEq, Bk.Sl.sh.injEq, reduceCtorEq, true_and, and_true, Bool.or_true, Bool.true_or, Bool.false_or, Bool.or_false, Bool.true_and, Bool.and_true, Bool.not_true, Bool.not_false, false_and, and_false, false_or, or_false, true_or, or_true, List.cons.injEq, Prod.mk.injEq, List.map_cons, List.map_nil, List.length_cons, List.length_nil, List.cons_append, List.nil_append, List.append_nil, List.all_cons, List.all_nil, Bool.false_eq_true, ite_true, ite_false, if_true, if_false, decide_eq_true_eq, Bool.not_eq_true', decide_eq_false_iff_not, and_self, Bool.and_self, eq_self, decide_true, decide_false, Bool.beq_eq_decide_eq, Bool.true_eq_false, not_true_eq_false, not_false_eq_true, Option.isNone_some, Option.isNone_none, Bool.false_eq_true, Bool.true_eq_false, ne_eq, Bk.dTab_s, Bk.askD, Bk.asksD, Bk.ordD, Bk.flats_asks, Bk.flats_ord, Bk.shp_asks, Bk.shp_ord, Bk.F_taken_s, Bk.F_rules_s, Bk.dRules_s, Bk.RulesS.ts, Bk.vOf, Bk.scD, Bk.W3.s_op, Bk.W3.s_to, Bk.W3.s_sh, Bk.flats_ints, Bk.shp_imap, Bk.flats_imap, Bk.shp_wmap, Bk.flats_wmap, Bk.flats_its, Bk.shp_its, Bk.shp_to, Bk.shp_dx, Bk.eqv_to, Bk.shp_nil, Bk.shp_ints, Bk.eqv_nilD, List.isEmpty_map, Bk.atI_end, Bk.atI_map, Option.map_some, Bk.oD_s, Bk.oD_n, Bk.isN_o, Bk.fl_o', Bk.rulesT, Bk.rulesD, Bk.bankD, Bk.watchD, Bk.Dx.d, Bk.itD, Bk.planD, Bk.barD, ↓reduceIte, Nat.reduceAdd, Nat.reduceLeDiff, Nat.reduceEqDiff, Nat.reduceLT, List.contains_cons, List.contains_nil, beq_self_eq_true, Nat.reduceBEq, List.reduceReplicate, Int.reduceNeg, Int.reduceSub, Int.reduceAdd, Int.reduceLE, Int.reduceLT])
local macro_rules | `(tactic| walk_at "dd") => `(tactic| simp only [↓Bk.dVar_s, ↓Bk.dC_s, ↓Bk.dOp_s, ↓Bk.fI_s, ↓Bk.fIC_s, ↓Bk.fEq_s, ↓Bk.fNe_s, ↓Bk.fIs_s, ↓Bk.fNotIs_s, ↓Bk.fEqD_s, ↓Bk.fNeD_s, ↓Bk.fInD_s, ↓Bk.fNotInD_s, ↓Bk.fCat_s, ↓Bk.fCatT_s, ↓Bk.fCatS_s, ↓Bk.fIxL_s, ↓Bk.fIxT_s, ↓Bk.fIxQ_s, ↓Bk.dTest_s, ↓Bk.dNot_s, ↓Bk.dYes_s, ↓Bk.dNotV_s, ↓Bk.dUn_s, ↓Bk.dNil_s, ↓Bk.dCons_s, ↓Bk.dTup_s, ↓Bk.dLst_s, ↓Bk.dCB_s, ↓Bk.fLen_s, ↓Bk.fLenS_s, ↓Bk.fAbs_s, ↓Bk.fMax2_s, ↓Bk.fMin2_s, ↓Bk.fInt1_s, ↓Bk.fStr1_s, ↓Bk.fTupOf_s, ↓Bk.fListOf_s, ↓Bk.fMaxL_s, ↓Bk.fMinL_s, ↓Bk.dNoPart_s, ↓Bk.dPart_s, ↓Bk.dSl_s, ↓Bk.fSlL_s, ↓Bk.fSlT_s, ↓Bk.fSlS_s, ↓Bk.dFld_s, ↓Bk.dCall_s, ↓Bk.dCallX_s, ↓Bk.dCallR_s, ↓Bk.dgN_s, ↓Bk.dgsN_s, ↓Bk.dgT_s, ↓Bk.diL_s, ↓Bk.diT_s, ↓Bk.diS_s, ↓Bk.diR1_s, ↓Bk.diR2_s, ↓Bk.dNext_s, ↓Bk.dBrk_s, ↓Bk.dCont_s, ↓Bk.dDrop_s, ↓Bk.dRet_s, ↓Bk.dRetN_s, ↓Bk.dAsgG_s, ↓Bk.fAppend_s, ↓Bk.fExtend_s, ↓Bk.fInsert_s, ↓Bk.dMut_s, ↓Bk.dMutT_s, ↓Bk.dMut0_s, ↓Bk.dRaise_s, ↓Bk.dRaiseN_s, ↓Bk.dDNew_s, ↓Bk.dDGet_s, ↓Bk.dDIn_s, ↓Bk.dDNotIn_s, ↓Bk.dDGet2_s, ↓Bk.dPs0_s, ↓Bk.dPs1_s, ↓Bk.dDisp_s, ↓Bk.dDPut_s, ↓Bk.dMeth_s, ↓Bk.fIn_s, ↓Bk.dNever_s, ↓Bk.dLstR_s, ↓Bk.fSortI_s, ↓Bk.fMax3_s, ↓Bk.fRep_s, ↓Bk.dMutPop_s, ↓Bk.fSortK_s, ↓Bk.fSortD_s, ↓Bk.dPopG_s, ↓Bk.dKeysWord_s, ↓Bk.dIndex_s, ↓Bk.dMaxDf_s, ↓Bk.dLenSet_s, ↓Bk.fIsB_s, ↓Bk.fNotB_s, ↓Bk.diLT_s, ↓Bk.dJoin_s, ↓Bk.dSplit_s, ↓Bk.fIntS_s, ↓Bk.fNotInC_s, ↓Bk.fIxS_s, ↓Bk.dNotLen_s, ↓Bk.dIxLen_s, ↓Bk.dListRev_s, ↓Bk.dLenSetLT_s, ↓Bk.dIf_s, ↓Bk.nxT_s, ↓Bk.dSeq_s, ↓Bk.dIfS_s, ↓Bk.dAnd_s, ↓Bk.dOr_s, ↓Bk.dAndV_s, ↓Bk.dOrV_s, ↓Bk.dChain_s, ↓Bk.dAsg_fr, ↓Bk.dAsg_sh, ↓Bk.dAsg_ow, ↓Bk.dAsg_dp, ↓Bk.dAsgV_ow, ↓Bk.dAsgV_sh, ↓Bk.dAsgV_fr, ↓Bk.dAsgL_ow, ↓Bk.dAsgL_fr, ↓Bk.dForV_ow, ↓Bk.dForV_fr, ↓Bk.dForV_sh, ↓Bk.atI_0, ↓Bk.atI_1, ↓Bk.atI_2, ↓Bk.atI_3, ↓Bk.atI_4, ↓Bk.atI_5, ↓Bk.atI_6, ↓Bk.atI_7, ↓Bk.atI_m0, ↓Bk.atI_m1, ↓Bk.atI_m2, ↓Bk.dgsC_1, ↓Bk.dat_un, ↓Bk.dat_row, ↓Bk.dat_sh, ↓Bk.dat_fr, ↓Bk.dat_ow, ↓Bk.dat_dp, ↓Bk.dat_st, ↓Bk.dat_wk, ↓Bk.ok_sh_sh, ↓Bk.ok_sh_fr, ↓Bk.ok_sh_nw, ↓Bk.ok_sh_rt, ↓Bk.ok_fr_sh, ↓Bk.ok_fr_fr, ↓Bk.ok_fr_nw, ↓Bk.ok_fr_rt, ↓Bk.ok_ow_sh, ↓Bk.ok_ow_fr, ↓Bk.ok_ow_nw, ↓Bk.ok_ow_rt, ↓Bk.ok_dp_sh, ↓Bk.ok_dp_fr, ↓Bk.ok_dp_nw, ↓Bk.ok_dp_rt, ↓Bk.ok_st_sh, ↓Bk.ok_st_fr, ↓Bk.ok_st_nw, ↓Bk.ok_st_rt, ↓Bk.ok_wk_sh, ↓Bk.ok_wk_fr, ↓Bk.ok_wk_nw, ↓Bk.ok_wk_rt, ↓Bk.eqS_ii, ↓Bk.eqS_ss, ↓Bk.eqS_bb, ↓Bk.eqS_nn, ↓Bk.eqS_ni, ↓Bk.eqS_in, ↓Bk.eqS_ns, ↓Bk.eqS_sn, ↓Bk.eqS_is, ↓Bk.eqS_si, ↓Bk.isN_n, ↓Bk.isN_i, ↓Bk.isN_s, ↓Bk.isN_b, ↓Bk.isN_l, ↓Bk.isN_t, ↓Bk.flatLD_l, ↓Bk.flatLD_d, ↓Bk.key_eqs, ↓Bk.key_eqi, ↓Bk.keyD_i, ↓Bk.keyD_s, ↓Bk.fl_l, ↓Bk.fl_t, ↓Bk.fl_n, ↓Bk.fl_i, ↓Bk.fl_s, ↓Bk.fl_b, ↓Bk.fl_d, ↓Bk.fl_o, ↓Bk.fls_0, ↓Bk.fls_1, ↓Bk.slAt_0, ↓Bk.slAt_s, ↓Bk.slPut_0, ↓Bk.slPut_s, ↓Bk.wipeS_0, ↓Bk.wipeS_1, ↓Bk.putG_0, ↓Bk.putG_1, ↓Bk.putF_0, ↓Bk.putF_1, ↓Bk.putI_0, ↓Bk.putI_1, ↓Bk.itS_fr, ↓Bk.itS_sh, ↓Bk.itS_sh_i, ↓Bk.stk_t, ↓Bk.stk_f, ↓Bk.allB_0, ↓Bk.allB_1, ↓Bk.lcTurn_s, ↓Bk.lk_Rules_many, ↓Bk.lk_Rules_told, ↓Bk.lk_Rules_open_time, ↓Bk.lk_Rules_hold, ↓Bk.lk_Rules_keep, ↓Bk.lk_Rules_rest, ↓Bk.lk_Rules_wire, ↓Bk.lk_Rules_gap, ↓Bk.lk_Rules_banks, ↓Bk.lk_Rules_times, ↓Bk.lk_Bank_row, ↓Bk.lk_Bank_opened, ↓Bk.lk_Bank_touched, ↓Bk.lk_Bank_shut_at, ↓Bk.lk_Watch_rules, ↓Bk.lk_Watch_every, ↓Bk.lk_Watch_last, ↓Bk.lk_Watch_opened, ↓Bk.lk_Watch_touched, ↓Bk.lk_Watch_bar, ↓Bk.lk_Watch_bar_of_open, ↓Bk.lk_Table_rules, ↓Bk.lk_Table_every, ↓Bk.lk_Table_plan, ↓Bk.lk_Table_ends, ↓Bk.lk_Table_first, ↓Bk.lk_Table_is_near, ↓Bk.lk_Search_rules, ↓Bk.lk_Search_asks, ↓Bk.lk_Search_bound, ↓Bk.lk_Search_best, List.getLast?_map, Option.some.injEq, and_assoc, exists_eq_left, exists_eq_left', exists_eq_right, exists_and_left, exists_const, Bk.D.int.injEq, Bk.D.bl.injEq, Bk.D.str.injEq, Bk.D.lst.injEq, Bk.D.tup.injEq, Bk.D.ins.injEq, Bk.D.dic.injEq, Bk.Sl.ow.injEq, Bk.Sl.fr.injEq, Bk.Sl.sh.injEq, reduceCtorEq, true_and, and_true, Bool.or_true, Bool.true_or, Bool.false_or, Bool.or_false, Bool.true_and, Bool.and_true, Bool.not_true, Bool.not_false, false_and, and_false, false_or, or_false, true_or, or_true, List.cons.injEq, Prod.mk.injEq, List.map_cons, List.map_nil, List.length_cons, List.length_nil, List.cons_append, List.nil_append, List.append_nil, List.all_cons, List.all_nil, Bool.false_eq_true, ite_true, ite_false, if_true, if_false, decide_eq_true_eq, Bool.not_eq_true', decide_eq_false_iff_not, and_self, Bool.and_self, eq_self, decide_true, decide_false, Bool.beq_eq_decide_eq, Bool.true_eq_false, not_true_eq_false, not_false_eq_true, Option.isNone_some, Option.isNone_none, Bool.false_eq_true, Bool.true_eq_false, ne_eq, Bk.dTab_s, Bk.askD, Bk.asksD, Bk.ordD, Bk.flats_asks, Bk.flats_ord, Bk.shp_asks, Bk.shp_ord, Bk.F_taken_s, Bk.F_rules_s, Bk.dRules_s, Bk.RulesS.ts, Bk.vOf, Bk.scD, Bk.W3.s_op, Bk.W3.s_to, Bk.W3.s_sh, Bk.flats_ints, Bk.shp_imap, Bk.flats_imap, Bk.shp_wmap, Bk.flats_wmap, Bk.flats_its, Bk.shp_its, Bk.shp_to, Bk.shp_dx, Bk.eqv_to, Bk.shp_nil, Bk.shp_ints, Bk.eqv_nilD, List.isEmpty_map, Bk.atI_end, Bk.atI_map, Option.map_some, Bk.oD_s, Bk.oD_n, Bk.isN_o, Bk.fl_o', Bk.rulesT, Bk.rulesD, Bk.bankD, Bk.watchD, Bk.Dx.d, Bk.itD, Bk.planD, Bk.barD, ↓reduceIte, Nat.reduceAdd, Nat.reduceLeDiff, Nat.reduceEqDiff, Nat.reduceLT, List.contains_cons, List.contains_nil, beq_self_eq_true, Nat.reduceBEq, List.reduceReplicate, Int.reduceNeg, Int.reduceSub, Int.reduceAdd, Int.reduceLE, Int.reduceLT])

/-! The text by places, and what the top leaves. -/
namespace Bk
open PySem L2
def top (i : Nat) : Stmt := PySem.Challenge.pw_bankrows_k11_texts_that_tell_no_plan.main.body.getD i (.Pass ⟨0, 0, 0, 0⟩)
abbrev s_BadPlan_init : Stmt := inClass (top 5) 0
theorem sc_BadPlan_init : FnScope ["self", "number"] ["self", "number"] (defScope s_BadPlan_init) := ⟨rfl, rfl, rfl, by decide +kernel, rfl, by decide +kernel, by decide +kernel⟩
abbrev s_BadText_init : Stmt := inClass (top 6) 0
theorem sc_BadText_init : FnScope ["self", "row"] ["self", "row"] (defScope s_BadText_init) := ⟨rfl, rfl, rfl, by decide +kernel, rfl, by decide +kernel, by decide +kernel⟩
abbrev s_is_deed : Stmt := top 10
theorem sc_is_deed : FnScope ["rules", "deed"] ["rules", "deed"] (defScope s_is_deed) := ⟨rfl, rfl, rfl, by decide +kernel, rfl, by decide +kernel, by decide +kernel⟩
abbrev s_need_plan : Stmt := top 11
theorem sc_need_plan : FnScope ["rules", "plan", "number"] ["rules", "plan"] (defScope s_need_plan) := ⟨rfl, rfl, rfl, by decide +kernel, rfl, by decide +kernel, by decide +kernel⟩
abbrev s_number_of : Stmt := top 15
theorem sc_number_of : FnScope ["word", "row", "sign"] ["word", "row"] (defScope s_number_of) := ⟨rfl, rfl, rfl, by decide +kernel, rfl, by decide +kernel, by decide +kernel⟩
abbrev s_read : Stmt := top 16
theorem sc_read : FnScope ["rules", "text", "plan", "rows", "row", "words", "beat", "word"] ["rules", "text"] (defScope s_read) := ⟨rfl, rfl, rfl, by decide +kernel, rfl, by decide +kernel, by decide +kernel⟩
abbrev s_Rules_init : Stmt := inClass (top 21) 0
theorem sc_Rules_init : FnScope ["self", "banks", "times", "good", "time"] ["self", "banks", "times"] (defScope s_Rules_init) := ⟨rfl, rfl, rfl, by decide +kernel, rfl, by decide +kernel, by decide +kernel⟩
abbrev s_L_taken : Stmt := top 23
theorem sc_L_taken : FnScope ["_law_row", "_law_many", "_law_cell"] ["_law_row", "_law_many"] (defScope s_L_taken) := ⟨rfl, rfl, rfl, by decide +kernel, rfl, by decide +kernel, by decide +kernel⟩
abbrev s_L_alike : Stmt := top 24
theorem sc_L_alike : FnScope ["_law_found", "_law_due_here", "_law_k"] ["_law_found", "_law_due_here"] (defScope s_L_alike) := ⟨rfl, rfl, rfl, by decide +kernel, rfl, by decide +kernel, by decide +kernel⟩
abbrev s_L_rules : Stmt := top 25
theorem sc_L_rules : FnScope ["_law_row", "_law_wide", "_law_k"] ["_law_row"] (defScope s_L_rules) := ⟨rfl, rfl, rfl, by decide +kernel, rfl, by decide +kernel, by decide +kernel⟩
abbrev s_L_asks : Stmt := top 26
theorem sc_L_asks : FnScope ["_law_row", "_law_banks", "_law_most", "_law_rows", "_law_k", "_law_few", "_law_late", "_law_found"] ["_law_row", "_law_banks", "_law_most"] (defScope s_L_asks) := ⟨rfl, rfl, rfl, by decide +kernel, rfl, by decide +kernel, by decide +kernel⟩
abbrev s_L_order : Stmt := top 27
theorem sc_L_order : FnScope ["_law_row", "_law_many", "_law_left", "_law_found"] ["_law_row", "_law_many"] (defScope s_L_order) := ⟨rfl, rfl, rfl, by decide +kernel, rfl, by decide +kernel, by decide +kernel⟩
abbrev s_L_spot : Stmt := top 28
theorem sc_L_spot : FnScope ["_law_deeds", "_law_beat", "_law_word", "_law_time", "_law_near", "_law_one"] ["_law_deeds", "_law_beat", "_law_word", "_law_time"] (defScope s_L_spot) := ⟨rfl, rfl, rfl, by decide +kernel, rfl, by decide +kernel, by decide +kernel⟩
abbrev s_L_placed : Stmt := top 29
theorem sc_L_placed : FnScope ["_law_rules_here", "_law_asks_here", "_law_order_here", "_law_open_time", "_law_hold", "_law_keep", "_law_rest", "_law_wire", "_law_gap", "_law_deeds", "_law_state", "_law_shut", "_law_found", "_law_number_here", "_law_bank", "_law_line", "_law_since", "_law_old", "_law_opened", "_law_last", "_law_beat"] ["_law_rules_here", "_law_asks_here", "_law_order_here"] (defScope s_L_placed) := ⟨rfl, rfl, rfl, by decide +kernel, rfl, by decide +kernel, by decide +kernel⟩
abbrev s_L_plan : Stmt := top 30
theorem sc_L_plan : FnScope ["_law_rules_here", "_law_asks_here", "_law_order_here", "_law_deeds", "_law_beat"] ["_law_rules_here", "_law_asks_here", "_law_order_here"] (defScope s_L_plan) := ⟨rfl, rfl, rfl, by decide +kernel, rfl, by decide +kernel, by decide +kernel⟩
abbrev s_L_text : Stmt := top 31
theorem sc_L_text : FnScope ["_law_plan_here", "_law_rows", "_law_beat", "_law_deed", "_law_number_here"] ["_law_plan_here"] (defScope s_L_text) := ⟨rfl, rfl, rfl, by decide +kernel, rfl, by decide +kernel, by decide +kernel⟩
abbrev s_L_number : Stmt := top 32
theorem sc_L_number : FnScope ["_law_word", "_law_sign"] ["_law_word"] (defScope s_L_number) := ⟨rfl, rfl, rfl, by decide +kernel, rfl, by decide +kernel, by decide +kernel⟩
abbrev s_L_due : Stmt := top 33
theorem sc_L_due : FnScope ["_law_banks", "_law_text_here", "_law_plan_here", "_law_rows", "_law_k", "_law_words", "_law_many", "_law_numbers", "_law_word", "_law_deed"] ["_law_banks", "_law_text_here"] (defScope s_L_due) := ⟨rfl, rfl, rfl, by decide +kernel, rfl, by decide +kernel, by decide +kernel⟩
abbrev s_L_told : Stmt := top 34
theorem sc_L_told : FnScope ["_law_told_here", "_law_text_here", "e", "_law_other", "_law_kinds"] ["_law_told_here", "_law_text_here"] (defScope s_L_told) := ⟨rfl, rfl, rfl, by decide +kernel, rfl, by decide +kernel, by decide +kernel⟩
abbrev s_L_spoilt : Stmt := top 35
theorem sc_L_spoilt : FnScope ["_law_row", "_law_text_here", "_law_way", "_law_at", "_law_whole", "_law_signs", "_law_sign", "_law_rows", "_law_k", "_law_other", "_law_rest", "_law_words", "_law_j", "_law_odd"] ["_law_row", "_law_text_here"] (defScope s_L_spoilt) := ⟨rfl, rfl, rfl, by decide +kernel, rfl, by decide +kernel, by decide +kernel⟩
abbrev s_law : Stmt := top 36
theorem sc_law : FnScope ["_law_script", "_law_row", "_law_turn", "_law_rules_here", "_law_told_here", "_law_asks_here", "_law_text_here", "_law_change", "_law_odd", "_law_some"] ["_law_script"] (defScope s_law) := ⟨rfl, rfl, rfl, by decide +kernel, rfl, by decide +kernel, by decide +kernel⟩
structure Txt (K : PySem.W.Frag) (mg : Str → Option Value) (w : World) : Prop where
  bk_BankError : BkC K (He.ga K "BankError")
  c_FIGURES : ∃ t, mg "FIGURES" = some (.str "0123456789" t)
  c_MOST_BANKS : ∃ t, mg "MOST_BANKS" = some (.int 4 t)
  c_MOST_FIGURES : ∃ t, mg "MOST_FIGURES" = some (.int 5 t)
  c_MOST_ROW : ∃ t, mg "MOST_ROW" = some (.int 99 t)
  c_MOST_TIME : ∃ t, mg "MOST_TIME" = some (.int 9 t)
  c_TIMES : ∃ t, mg "TIMES" = some (.int 6 t)
  cl_Rules : Cls K (He.ga K "Rules")
  f_BadPlan_init : Fd K "__init__" "BadPlan.__init__" s_BadPlan_init (He.ma K (He.ga K "BadPlan") "__init__")
  f_BadText_init : Fd K "__init__" "BadText.__init__" s_BadText_init (He.ma K (He.ga K "BadText") "__init__")
  f_Rules_init : Fd K "__init__" "Rules.__init__" s_Rules_init (He.ma K (He.ga K "Rules") "__init__")
  f_L_alike : Fd K "_law_alike" "_law_alike" s_L_alike (He.ga K "_law_alike")
  f_L_asks : Fd K "_law_asks" "_law_asks" s_L_asks (He.ga K "_law_asks")
  f_L_due : Fd K "_law_due" "_law_due" s_L_due (He.ga K "_law_due")
  f_L_number : Fd K "_law_number" "_law_number" s_L_number (He.ga K "_law_number")
  f_L_order : Fd K "_law_order" "_law_order" s_L_order (He.ga K "_law_order")
  f_L_placed : Fd K "_law_placed" "_law_placed" s_L_placed (He.ga K "_law_placed")
  f_L_plan : Fd K "_law_plan" "_law_plan" s_L_plan (He.ga K "_law_plan")
  f_L_rules : Fd K "_law_rules" "_law_rules" s_L_rules (He.ga K "_law_rules")
  f_L_spoilt : Fd K "_law_spoilt" "_law_spoilt" s_L_spoilt (He.ga K "_law_spoilt")
  f_L_spot : Fd K "_law_spot" "_law_spot" s_L_spot (He.ga K "_law_spot")
  f_L_taken : Fd K "_law_taken" "_law_taken" s_L_taken (He.ga K "_law_taken")
  f_L_text : Fd K "_law_text" "_law_text" s_L_text (He.ga K "_law_text")
  f_L_told : Fd K "_law_told" "_law_told" s_L_told (He.ga K "_law_told")
  f_is_deed : Fd K "is_deed" "is_deed" s_is_deed (He.ga K "is_deed")
  f_law : Fd K "law" "law" s_law (He.ga K "law")
  f_need_plan : Fd K "need_plan" "need_plan" s_need_plan (He.ga K "need_plan")
  f_number_of : Fd K "number_of" "number_of" s_number_of (He.ga K "number_of")
  f_read : Fd K "read" "read" s_read (He.ga K "read")
  g_BadAsk : mg "BadAsk" = some (.ref (He.ga K "BadAsk"))
  g_BadOrder : mg "BadOrder" = some (.ref (He.ga K "BadOrder"))
  g_BadPlan : mg "BadPlan" = some (.ref (He.ga K "BadPlan"))
  g_BadRules : mg "BadRules" = some (.ref (He.ga K "BadRules"))
  g_BadText : mg "BadText" = some (.ref (He.ga K "BadText"))
  g_BankError : mg "BankError" = some (.ref (He.ga K "BankError"))
  g_LENGTHS : mg "LENGTHS" = some (.ref (He.ga K "LENGTHS"))
  g_Rules : mg "Rules" = some (.ref (He.ga K "Rules"))
  g__law_alike : mg "_law_alike" = some (.ref (He.ga K "_law_alike"))
  g__law_asks : mg "_law_asks" = some (.ref (He.ga K "_law_asks"))
  g__law_due : mg "_law_due" = some (.ref (He.ga K "_law_due"))
  g__law_number : mg "_law_number" = some (.ref (He.ga K "_law_number"))
  g__law_order : mg "_law_order" = some (.ref (He.ga K "_law_order"))
  g__law_placed : mg "_law_placed" = some (.ref (He.ga K "_law_placed"))
  g__law_plan : mg "_law_plan" = some (.ref (He.ga K "_law_plan"))
  g__law_rules : mg "_law_rules" = some (.ref (He.ga K "_law_rules"))
  g__law_spoilt : mg "_law_spoilt" = some (.ref (He.ga K "_law_spoilt"))
  g__law_spot : mg "_law_spot" = some (.ref (He.ga K "_law_spot"))
  g__law_taken : mg "_law_taken" = some (.ref (He.ga K "_law_taken"))
  g__law_text : mg "_law_text" = some (.ref (He.ga K "_law_text"))
  g__law_told : mg "_law_told" = some (.ref (He.ga K "_law_told"))
  g_is_deed : mg "is_deed" = some (.ref (He.ga K "is_deed"))
  g_law : mg "law" = some (.ref (He.ga K "law"))
  g_need_plan : mg "need_plan" = some (.ref (He.ga K "need_plan"))
  g_number_of : mg "number_of" = some (.ref (He.ga K "number_of"))
  g_read : mg "read" = some (.ref (He.ga K "read"))
  ii_BadPlan : PySem.W.findIn K (.ref (He.ga K "BadPlan")) "__init__" = some (some (.ref (He.ma K (He.ga K "BadPlan") "__init__")))
  ii_BadText : PySem.W.findIn K (.ref (He.ga K "BadText")) "__init__" = some (some (.ref (He.ma K (He.ga K "BadText") "__init__")))
  it_BadPlan : PySem.W.typeIn K (.ref (He.ma K (He.ga K "BadPlan") "__init__")) = some (.type "function")
  it_BadText : PySem.W.typeIn K (.ref (He.ma K (He.ga K "BadText") "__init__")) = some (.type "function")
  k_BadRules : PySem.W.keepIn K (.ref (He.ga K "BadRules")) = true
  k__law_alike : PySem.W.keepIn K (.ref (He.ga K "_law_alike")) = true
  k__law_asks : PySem.W.keepIn K (.ref (He.ga K "_law_asks")) = true
  k__law_due : PySem.W.keepIn K (.ref (He.ga K "_law_due")) = true
  k__law_number : PySem.W.keepIn K (.ref (He.ga K "_law_number")) = true
  k__law_order : PySem.W.keepIn K (.ref (He.ga K "_law_order")) = true
  k__law_placed : PySem.W.keepIn K (.ref (He.ga K "_law_placed")) = true
  k__law_plan : PySem.W.keepIn K (.ref (He.ga K "_law_plan")) = true
  k__law_rules : PySem.W.keepIn K (.ref (He.ga K "_law_rules")) = true
  k__law_spoilt : PySem.W.keepIn K (.ref (He.ga K "_law_spoilt")) = true
  k__law_spot : PySem.W.keepIn K (.ref (He.ga K "_law_spot")) = true
  k__law_taken : PySem.W.keepIn K (.ref (He.ga K "_law_taken")) = true
  k__law_text : PySem.W.keepIn K (.ref (He.ga K "_law_text")) = true
  k__law_told : PySem.W.keepIn K (.ref (He.ga K "_law_told")) = true
  k_is_deed : PySem.W.keepIn K (.ref (He.ga K "is_deed")) = true
  k_need_plan : PySem.W.keepIn K (.ref (He.ga K "need_plan")) = true
  k_number_of : PySem.W.keepIn K (.ref (He.ga K "number_of")) = true
  k_read : PySem.W.keepIn K (.ref (He.ga K "read")) = true
  ki_BadPlan_BadAsk_f : PySem.W.kitOne K (.ref (He.ga K "BadPlan")) (.ref (He.ga K "BadAsk")) = some false
  ki_BadPlan_BadOrder_f : PySem.W.kitOne K (.ref (He.ga K "BadPlan")) (.ref (He.ga K "BadOrder")) = some false
  ki_BadPlan_BadPlan_t : PySem.W.kitOne K (.ref (He.ga K "BadPlan")) (.ref (He.ga K "BadPlan")) = some true
  ki_BadPlan_BadRules_f : PySem.W.kitOne K (.ref (He.ga K "BadPlan")) (.ref (He.ga K "BadRules")) = some false
  ki_BadPlan_BadText_f : PySem.W.kitOne K (.ref (He.ga K "BadPlan")) (.ref (He.ga K "BadText")) = some false
  ki_BadPlan_ValueError_t : PySem.W.kitOne K (.ref (He.ga K "BadPlan")) (.type "ValueError") = some true
  ki_BadText_BadAsk_f : PySem.W.kitOne K (.ref (He.ga K "BadText")) (.ref (He.ga K "BadAsk")) = some false
  ki_BadText_BadOrder_f : PySem.W.kitOne K (.ref (He.ga K "BadText")) (.ref (He.ga K "BadOrder")) = some false
  ki_BadText_BadPlan_f : PySem.W.kitOne K (.ref (He.ga K "BadText")) (.ref (He.ga K "BadPlan")) = some false
  ki_BadText_BadRules_f : PySem.W.kitOne K (.ref (He.ga K "BadText")) (.ref (He.ga K "BadRules")) = some false
  ki_BadText_BadText_t : PySem.W.kitOne K (.ref (He.ga K "BadText")) (.ref (He.ga K "BadText")) = some true
  ki_BadText_ValueError_t : PySem.W.kitOne K (.ref (He.ga K "BadText")) (.type "ValueError") = some true
  mk_Rules : Mk K (He.ga K "Rules") (He.ma K (He.ga K "Rules") "__init__")
  n_ValueError : mg "ValueError" = none
  n_abs : mg "abs" = none
  n_bool : mg "bool" = none
  n_int : mg "int" = none
  n_isinstance : mg "isinstance" = none
  n_len : mg "len" = none
  n_list : mg "list" = none
  n_max : mg "max" = none
  n_range : mg "range" = none
  n_sorted : mg "sorted" = none
  n_str : mg "str" = none
  n_tuple : mg "tuple" = none
  na_Rules_gap : NoAttr K (He.ga K "Rules") "gap"
  na_Rules_hold : NoAttr K (He.ga K "Rules") "hold"
  na_Rules_keep : NoAttr K (He.ga K "Rules") "keep"
  na_Rules_many : NoAttr K (He.ga K "Rules") "many"
  na_Rules_open_time : NoAttr K (He.ga K "Rules") "open_time"
  na_Rules_rest : NoAttr K (He.ga K "Rules") "rest"
  na_Rules_told : NoAttr K (He.ga K "Rules") "told"
  na_Rules_wire : NoAttr K (He.ga K "Rules") "wire"
  nf_BadPlan_number : PySem.W.findIn K (.ref (He.ga K "BadPlan")) "number" = some none
  nf_BadText_row : PySem.W.findIn K (.ref (He.ga K "BadText")) "row" = some none
  ox_BadPlan : OexC K (He.ga K "BadPlan")
  ox_BadText : OexC K (He.ga K "BadText")
  xb_BadRules : PySem.W.subIn K (.ref (He.ga K "BadRules")) (.type "BaseException") = some true
  xc_BadRules : PySem.W.excIn K (He.ga K "BadRules") He.veBase "ValueError.__new__" = true
  xf_BadPlan : XfC K (He.ga K "BadPlan")
  xf_BadText : XfC K (He.ga K "BadText")
  xi_BadPlan : XcC K (He.ga K "BadPlan")
  xi_BadText : XcC K (He.ga K "BadText")
  xm_BadPlan_BankError : PySem.W.exmOne K (.ref (He.ga K "BadPlan")) (.ref (He.ga K "BankError")) = some true
  xm_BadText_BankError : PySem.W.exmOne K (.ref (He.ga K "BadText")) (.ref (He.ga K "BankError")) = some true
  xt_BadRules : PySem.W.typeIn K (.ref (He.ga K "BadRules")) = some (.type "type")
  lens : LenD K w
end Bk
namespace Bk.En
open PySem L2
abbrev ORow : PySem.W.OpenRow := PySem.W.OpenLaw.row PySem.Challenge.rw_bankrows_k11_texts_that_tell_no_plan
def d_BadPlan_init : He.DefD := ⟨("BadPlan", some "__init__"), "__init__", "BadPlan.__init__", defArgs s_BadPlan_init, defBody s_BadPlan_init, defScope s_BadPlan_init, [], []⟩
def d_BadText_init : He.DefD := ⟨("BadText", some "__init__"), "__init__", "BadText.__init__", defArgs s_BadText_init, defBody s_BadText_init, defScope s_BadText_init, [], []⟩
def d_Rules_init : He.DefD := ⟨("Rules", some "__init__"), "__init__", "Rules.__init__", defArgs s_Rules_init, defBody s_Rules_init, defScope s_Rules_init, [], []⟩
def d_L_alike : He.DefD := ⟨("_law_alike", none), "_law_alike", "_law_alike", defArgs s_L_alike, defBody s_L_alike, defScope s_L_alike, [], []⟩
def d_L_asks : He.DefD := ⟨("_law_asks", none), "_law_asks", "_law_asks", defArgs s_L_asks, defBody s_L_asks, defScope s_L_asks, [], []⟩
def d_L_due : He.DefD := ⟨("_law_due", none), "_law_due", "_law_due", defArgs s_L_due, defBody s_L_due, defScope s_L_due, [], []⟩
def d_L_number : He.DefD := ⟨("_law_number", none), "_law_number", "_law_number", defArgs s_L_number, defBody s_L_number, defScope s_L_number, [], []⟩
def d_L_order : He.DefD := ⟨("_law_order", none), "_law_order", "_law_order", defArgs s_L_order, defBody s_L_order, defScope s_L_order, [], []⟩
def d_L_placed : He.DefD := ⟨("_law_placed", none), "_law_placed", "_law_placed", defArgs s_L_placed, defBody s_L_placed, defScope s_L_placed, [], []⟩
def d_L_plan : He.DefD := ⟨("_law_plan", none), "_law_plan", "_law_plan", defArgs s_L_plan, defBody s_L_plan, defScope s_L_plan, [], []⟩
def d_L_rules : He.DefD := ⟨("_law_rules", none), "_law_rules", "_law_rules", defArgs s_L_rules, defBody s_L_rules, defScope s_L_rules, [], []⟩
def d_L_spoilt : He.DefD := ⟨("_law_spoilt", none), "_law_spoilt", "_law_spoilt", defArgs s_L_spoilt, defBody s_L_spoilt, defScope s_L_spoilt, [], []⟩
def d_L_spot : He.DefD := ⟨("_law_spot", none), "_law_spot", "_law_spot", defArgs s_L_spot, defBody s_L_spot, defScope s_L_spot, [], []⟩
def d_L_taken : He.DefD := ⟨("_law_taken", none), "_law_taken", "_law_taken", defArgs s_L_taken, defBody s_L_taken, defScope s_L_taken, [], []⟩
def d_L_text : He.DefD := ⟨("_law_text", none), "_law_text", "_law_text", defArgs s_L_text, defBody s_L_text, defScope s_L_text, [], []⟩
def d_L_told : He.DefD := ⟨("_law_told", none), "_law_told", "_law_told", defArgs s_L_told, defBody s_L_told, defScope s_L_told, [], []⟩
def d_is_deed : He.DefD := ⟨("is_deed", none), "is_deed", "is_deed", defArgs s_is_deed, defBody s_is_deed, defScope s_is_deed, [], []⟩
def d_law : He.DefD := ⟨("law", none), "law", "law", defArgs s_law, defBody s_law, defScope s_law, [], []⟩
def d_need_plan : He.DefD := ⟨("need_plan", none), "need_plan", "need_plan", defArgs s_need_plan, defBody s_need_plan, defScope s_need_plan, [], []⟩
def d_number_of : He.DefD := ⟨("number_of", none), "number_of", "number_of", defArgs s_number_of, defBody s_number_of, defScope s_number_of, [], []⟩
def d_read : He.DefD := ⟨("read", none), "read", "read", defArgs s_read, defBody s_read, defScope s_read, [], []⟩
def fn : List He.DefD := [d_BadPlan_init, d_BadText_init, d_Rules_init, d_L_alike, d_L_asks, d_L_due, d_L_number, d_L_order, d_L_placed, d_L_plan, d_L_rules, d_L_spoilt, d_L_spot, d_L_taken, d_L_text, d_L_told, d_is_deed, d_law, d_need_plan, d_number_of, d_read]
def fa : List He.Fa := [.str "FIGURES" "0123456789", .int "MOST_BANKS" 4, .int "MOST_FIGURES" 5, .int "MOST_ROW" 99, .int "MOST_TIME" 9, .int "TIMES" 6, .cls "Rules", .glo "BadAsk", .glo "BadOrder", .glo "BadPlan", .glo "BadRules", .glo "BadText", .glo "BankError", .glo "LENGTHS", .glo "Rules", .glo "_law_alike", .glo "_law_asks", .glo "_law_due", .glo "_law_number", .glo "_law_order", .glo "_law_placed", .glo "_law_plan", .glo "_law_rules", .glo "_law_spoilt", .glo "_law_spot", .glo "_law_taken", .glo "_law_text", .glo "_law_told", .glo "is_deed", .glo "law", .glo "need_plan", .glo "number_of", .glo "read", .keep "BadRules", .keep "_law_alike", .keep "_law_asks", .keep "_law_due", .keep "_law_number", .keep "_law_order", .keep "_law_placed", .keep "_law_plan", .keep "_law_rules", .keep "_law_spoilt", .keep "_law_spot", .keep "_law_taken", .keep "_law_text", .keep "_law_told", .keep "is_deed", .keep "need_plan", .keep "number_of", .keep "read", .mkr "Rules", .free "ValueError", .free "abs", .free "bool", .free "int", .free "isinstance", .free "len", .free "list", .free "max", .free "range", .free "sorted", .free "str", .free "tuple", .noat "Rules" "gap", .noat "Rules" "hold", .noat "Rules" "keep", .noat "Rules" "many", .noat "Rules" "open_time", .noat "Rules" "rest", .noat "Rules" "told", .noat "Rules" "wire", .exc "BadRules", .exm "BadPlan" "BankError" true, .exm "BadText" "BankError" true]
def exs : List (PySem.W.Frag → Bool) := [(fun K => bkB K (He.ga K "BankError")), (fun K => decide (PySem.W.findIn K (.ref (He.ga K "BadPlan")) "__init__" = some (some (.ref (He.ma K (He.ga K "BadPlan") "__init__"))))), (fun K => decide (PySem.W.findIn K (.ref (He.ga K "BadText")) "__init__" = some (some (.ref (He.ma K (He.ga K "BadText") "__init__"))))), (fun K => decide (PySem.W.typeIn K (.ref (He.ma K (He.ga K "BadPlan") "__init__")) = some (.type "function"))), (fun K => decide (PySem.W.typeIn K (.ref (He.ma K (He.ga K "BadText") "__init__")) = some (.type "function"))), (fun K => decide (PySem.W.kitOne K (.ref (He.ga K "BadPlan")) (.ref (He.ga K "BadAsk")) = some false)), (fun K => decide (PySem.W.kitOne K (.ref (He.ga K "BadPlan")) (.ref (He.ga K "BadOrder")) = some false)), (fun K => decide (PySem.W.kitOne K (.ref (He.ga K "BadPlan")) (.ref (He.ga K "BadPlan")) = some true)), (fun K => decide (PySem.W.kitOne K (.ref (He.ga K "BadPlan")) (.ref (He.ga K "BadRules")) = some false)), (fun K => decide (PySem.W.kitOne K (.ref (He.ga K "BadPlan")) (.ref (He.ga K "BadText")) = some false)), (fun K => decide (PySem.W.kitOne K (.ref (He.ga K "BadPlan")) (.type "ValueError") = some true)), (fun K => decide (PySem.W.kitOne K (.ref (He.ga K "BadText")) (.ref (He.ga K "BadAsk")) = some false)), (fun K => decide (PySem.W.kitOne K (.ref (He.ga K "BadText")) (.ref (He.ga K "BadOrder")) = some false)), (fun K => decide (PySem.W.kitOne K (.ref (He.ga K "BadText")) (.ref (He.ga K "BadPlan")) = some false)), (fun K => decide (PySem.W.kitOne K (.ref (He.ga K "BadText")) (.ref (He.ga K "BadRules")) = some false)), (fun K => decide (PySem.W.kitOne K (.ref (He.ga K "BadText")) (.ref (He.ga K "BadText")) = some true)), (fun K => decide (PySem.W.kitOne K (.ref (He.ga K "BadText")) (.type "ValueError") = some true)), (fun K => decide (PySem.W.findIn K (.ref (He.ga K "BadPlan")) "number" = some none)), (fun K => decide (PySem.W.findIn K (.ref (He.ga K "BadText")) "row" = some none)), (fun K => oexB K (He.ga K "BadPlan")), (fun K => oexB K (He.ga K "BadText")), (fun K => xfB K (He.ga K "BadPlan")), (fun K => xfB K (He.ga K "BadText")), (fun K => xcB K (He.ga K "BadPlan")), (fun K => xcB K (He.ga K "BadText"))]
abbrev hk : PySem.W.Hook := hookY 4 fa exs fn
def ob (s : PySem.W.SharedT) : hk.α := obsYG 4 fa exs fn (HandSHeadRun.getT s)
theorem ob_eq (s : PySem.W.SharedT) : ob s = hk.obs s.abs := obsYG_eq (HandSHeadRun.getT_eq s)
def loose : List Str := ("BankError" : Str) :: ("BadRules" : Str) :: ("BadAsk" : Str) :: ("BadOrder" : Str) :: ("BadPlan" : Str) :: ("BadText" : Str) :: ("MOST_ROW" : Str) :: ("LENGTHS" : Str) :: ("is_deed" : Str) :: ("need_plan" : Str) :: ("FIGURES" : Str) :: ("MOST_FIGURES" : Str) :: ("number_of" : Str) :: ("read" : Str) :: ("MOST_BANKS" : Str) :: ("MOST_TIME" : Str) :: ("TIMES" : Str) :: ("Rules" : Str) :: ("_law_taken" : Str) :: ("_law_alike" : Str) :: ("_law_rules" : Str) :: ("_law_asks" : Str) :: ("_law_order" : Str) :: ("_law_spot" : Str) :: ("_law_placed" : Str) :: ("_law_plan" : Str) :: ("_law_text" : Str) :: ("_law_number" : Str) :: ("_law_due" : Str) :: ("_law_told" : Str) :: ("_law_spoilt" : Str) :: []
theorem runF (w : World) : HandSHeadRun.RunEq ORow (PySem.W.view ORow.prog [36]) hk ob 4000 loose (w.withFollow "special-get-raises" false) := by
  intro os
  kernel_rfl
theorem runT (w : World) : HandSHeadRun.RunEq ORow (PySem.W.view ORow.prog [36]) hk ob 4000 loose (w.withFollow "special-get-raises" true) := by
  intro os
  kernel_rfl
theorem run (w : World) : HandSHeadRun.RunEq ORow (PySem.W.view ORow.prog [36]) hk ob 4000 loose w := PySem.W.byRow2 "special-get-raises" runF runT w
end Bk.En


/-! A draw: any number below many, whatever the script. -/
namespace Bk
open PySem L2
def sp_L_taken (K : PySem.W.Frag) : Sp := fun vs H Q E => ∃ (r : Addr) (many : Int), vs = [.ref r, .int many] ∧ RowOk K H r ∧ 0 < many ∧ ∀ (v : Int) (H' : Hp), 0 ≤ v → v < many → Kp r H H' → RowOk K H' r → Q (.int v) H'
theorem c_taken {K : PySem.W.Frag} {H : Hp} {r : Addr} {many : Int} {Q : VK} {E : XK} (h : RowOk K H r) (hm : 0 < many) (q : ∀ (v : Int) (H' : Hp), 0 ≤ v → v < many → Kp r H H' → RowOk K H' r → Q (.int v) H') : kCall (sp_L_taken K) E Q [.ref r, .int many] H := ⟨r, many, rfl, h, hm, q⟩
theorem row_put {K : PySem.W.Frag} {H : Hp} {r s : Addr} {ns : List Int} {xs : List V} {i m : Int} (hr : H r = some (.lst xs)) (hs : Scr K H s ns) (hi : 0 ≤ i) (hm0 : 0 ≤ m) (hm : m < 2147483647) : RowOk K (upd H r (.lst [.ref s, .int i, .int m])) r := by
  refine ⟨s, ns, i, m, upd_same, ?_, hi, hm0, hm⟩
  rcases hs with ⟨ob, h⟩ | h
  · exact .inl ⟨ob, by rw [upd_ne (ne_of h hr (by intro z; cases z))]; exact h⟩
  · exact .inr h
theorem ok_L_taken {P : Program} {w : World} {K : PySem.W.Frag} {mg : Str → Option Value} {base : Heap} (T : Txt K mg w) : Ok P w K mg base CX0 1 (He.ga K "_law_taken") ["_law_row", "_law_many"] (sp_L_taken K) := by
  obtain ⟨fd, F⟩ := T.f_L_taken
  refine ⟨fd, F.ok sc_L_taken (fun vs H Q E h => ?len) (fun cdv A outer s H vs Q E hr h => ⟨_, PSs.nox
      (pss_cons (ps_asg (pe_op op_add (pe_ix (z_ixL (K := K) rfl) (pv 0) pe_int (fun _ _ => rfl)) pe_int) (pg_sub (pv 0) pe_int set_list))
      (pss_cons (ps_if (pt_cmpR op_gt (pe_ix (z_ixL (K := K) rfl) (pv 0) pe_int (fun _ _ => rfl)) (pe_callB (z_len (K := K) rfl) (by rfl) T.n_len (by decide +kernel) (pa_cons (pe_ix (z_ixL (K := K) rfl) (pv 0) pe_int (fun _ _ => rfl)) pa_nil)) (nomark _)) (pss_cons (ps_asg (pe_op op_mod (pe_op op_add (pe_op op_mul (pe_ix (z_ixL (K := K) rfl) (pv 0) pe_int (fun _ _ => rfl)) pe_int) pe_int) pe_int) (pg_sub (pv 0) pe_int set_list))
      (pss_one (ps_ret (pe_op op_mod (pe_op op_fdiv (pe_ix (z_ixL (K := K) rfl) (pv 0) pe_int (fun _ _ => rfl)) pe_int) (pv 1))))) pss_nil)
      (pss_cons (ps_set (i := 2) sc_L_taken.nd rfl (by first | exact Or.inl rfl | exact Or.inr rfl) (pe_ix (z_ixL (K := K) rfl) (pe_ix (z_ixL (K := K) rfl) (pv 0) pe_int (fun _ _ => rfl)) (pe_op op_sub (pe_ix (z_ixL (K := K) rfl) (pv 0) pe_int (fun _ _ => rfl)) pe_int) (fun _ _ => rfl)))
      (pss_cons (ps_asg (pe_op op_mod (pe_op op_add (pe_op op_add (pe_op op_mul (pe_ix (z_ixL (K := K) rfl) (pv 0) pe_int (fun _ _ => rfl)) pe_int) (pv 2)) pe_int) pe_int) (pg_sub (pv 0) pe_int set_list))
      (pss_one (ps_ret (pe_op op_mod (pv 2) (pv 1)))))))), ?read⟩), F.bindsN fun _ _ _ _ _ _ us hl => match us, hl with | [_, _], _ => rfl⟩
  case len =>
    obtain ⟨_, _, rfl, _⟩ := h
    rfl
  case read =>
    obtain ⟨r, many, rfl, ⟨s, ns, i, m, hr0, hs, hi, hm0, hm⟩, hmany, hQ⟩ := h
    refine w_start (σ' := [some _, some _, none]) rfl ?_
    have hs1 : ∀ xs, SqL K (upd H r (.lst xs)) s (ns.map V.int) := fun xs => by
      rcases hs with ⟨ob, h⟩ | h
      · exact .inl (.inr ⟨ob, by rw [upd_ne (ne_of h hr0 (by intro z; cases z))]; exact h⟩)
      · exact h _
    walk_at "ss"
    refine' b_lenL (hs1 _) ?_
    walk_at "ss"
    refine k_if2 (fun c => ?_) (fun c => ?_)
    · walk_at "ss"
      rw [upd_upd]
      exact hQ _ _ (Int.emod_nonneg _ (by omega)) (Int.emod_lt_of_pos _ hmany) Kp.set (row_put (i := i + 1) (m := (m * 48271 + 11) % 2147483647) hr0 hs (by omega) (Int.emod_nonneg _ (by omega)) (Int.emod_lt_of_pos _ (by omega)))
    · have c2 : i < ((ns.map V.int).length : Int) := by
        have := of_decide_eq_false c
        omega
      obtain ⟨z, hz⟩ := at_ints (ns := ns) (i := i + 1 - 1) (by omega) (by rw [List.length_map] at c2; omega)
      walk_at "ss"
      refine' r_ixL (hs1 _) hz ?_
      walk_at "ss"
      rw [upd_upd]
      exact hQ _ _ (Int.emod_nonneg _ (by omega)) (Int.emod_lt_of_pos _ hmany) Kp.set (row_put (i := i + 1) (m := (m * 48271 + z + 11) % 2147483647) hr0 hs (by omega) (Int.emod_nonneg _ (by omega)) (Int.emod_lt_of_pos _ (by omega)))
/-- the law: True at every script -/
def sp_law (K : PySem.W.Frag) : Sp := fun vs H Q E => ∃ (s : Addr) (ns : List Int), vs = [.ref s] ∧ Scr K H s ns ∧ ∀ H', Q (.bl true) H'
theorem scr_of {K : PySem.W.Frag} {H : Hp} {a : Addr} {ns : List Int} (o : Only H) (h : SqL K H a (ns.map V.int)) : Scr K H a ns := by
  rcases h with (h | ⟨ob, h⟩) | h
  · rcases o a with z | ⟨ob, xs, z⟩
    · rw [z] at h; cases h
    · rw [z] at h; cases h
  · exact .inl ⟨ob, h⟩
  · exact .inr fun G => .inr h
end Bk

/-! alike of the same data is True. -/
namespace Bk
open PySem L2
def spN_L_alike (K : PySem.W.Frag) (n : Nat) : Sp := fun vs H Q E => ∃ (x y : V) (d : PyData), vs = [x, y] ∧ Dp K H x d ∧ Dp K H y d ∧ okD d = true ∧ d.depth < n ∧ ∀ H', Same H H' → Q (.bl true) H'
def sp_L_alike (K : PySem.W.Frag) : Sp := spN_L_alike K 8
theorem sp0_L_alike {K : PySem.W.Frag} {vs : List V} {H : Hp} {Q : VK} {E : XK} (h : spN_L_alike K 0 vs H Q E) : False := by
  obtain ⟨_, _, _, _, _, _, _, h, _⟩ := h
  omega
theorem okN_L_alike {P : Program} {w : World} {K : PySem.W.Frag} {mg : Str → Option Value} {base : Heap} (T : Txt K mg w) (n : Nat) : Ok P w K mg base CX0 (n + 0) (He.ga K "_law_alike") ["_law_found", "_law_due_here"] (spN_L_alike K n) := by
  obtain ⟨fd, F⟩ := T.f_L_alike
  have bd : Binds K fd ["_law_found", "_law_due_here"] [] := F.bindsN fun _ _ _ _ _ _ us hl => match us, hl with | [_, _], _ => rfl
  refine ⟨fd, ?_, bd⟩
  induction n with
  | zero => exact ⟨fun vs H Q E h => (sp0_L_alike h).elim, fun _ _ _ _ _ _ _ _ _ _ _ _ _ h => (sp0_L_alike h).elim⟩
  | succ n ih =>
  have G_L_alike := ih
  have b_L_alike := bd
  have q : FnOk P w K mg base CX0 (n + 0 + 1) (He.ga K "_law_alike") fd ["_law_found", "_law_due_here"] (spN_L_alike K (n + 1)) := by
    refine F.ok sc_L_alike (fun vs H Q E h => ?len) (fun cdv A outer s H vs Q E hr h => ⟨_, PSs.nox
      (pss_cons (ps_if (PW.pt (pw_or (pt_val (pe_callB (z_isi (K := K) rfl) (by rfl) T.n_isinstance (by decide +kernel) (pa_cons (pv 1) (pa_cons (pe_bltn (v := .ty "tuple") (by rfl) T.n_tuple (by decide +kernel) rfl) pa_nil)))) (pw_or1 (pt_val (pe_callB (z_isi (K := K) rfl) (by rfl) T.n_isinstance (by decide +kernel) (pa_cons (pv 1) (pa_cons (pe_bltn (v := .ty "list") (by rfl) T.n_list (by decide +kernel) rfl) pa_nil))))))) (pss_cons (ps_if (PW.pt (pw_or (pt_cmpR op_ne (pe_callB (z_isi (K := K) rfl) (by rfl) T.n_isinstance (by decide +kernel) (pa_cons (pv 0) (pa_cons (pe_bltn (v := .ty "tuple") (by rfl) T.n_tuple (by decide +kernel) rfl) pa_nil))) (pe_callB (z_isi (K := K) rfl) (by rfl) T.n_isinstance (by decide +kernel) (pa_cons (pv 1) (pa_cons (pe_bltn (v := .ty "tuple") (by rfl) T.n_tuple (by decide +kernel) rfl) pa_nil))) (nomark _)) (pw_or1 (pt_not (pt_val (pe_callB (z_isiT (K := K) rfl) (by rfl) T.n_isinstance (by decide +kernel) (pa_cons (pv 0) (pa_cons (pe_tup (pa_cons (pe_bltn (v := .ty "tuple") (by rfl) T.n_tuple (by decide +kernel) rfl) (pa_cons (pe_bltn (v := .ty "list") (by rfl) T.n_list (by decide +kernel) rfl) pa_nil))) pa_nil)))))))) (pss_one (ps_ret pe_bl)) pss_nil)
      (pss_cons (ps_if (pt_cmpR op_ne (pe_callB (z_len (K := K) rfl) (by rfl) T.n_len (by decide +kernel) (pa_cons (pv 0) pa_nil)) (pe_callB (z_len (K := K) rfl) (by rfl) T.n_len (by decide +kernel) (pa_cons (pv 1) pa_nil)) (nomark _)) (pss_one (ps_ret pe_bl)) pss_nil)
      (pss_one (ps_ret (pe_cmpR (z_eqD (K := K) rfl hr.units) (pe_lc (own := [("_law_k", 2)]) (by rfl) sc_L_alike.nd (pi_range1 rfl T.n_range (pa_cons (pe_callB (z_len (K := K) rfl) (by rfl) T.n_len (by decide +kernel) (pa_cons (pv 1) pa_nil)) pa_nil)) (blkOk_by (own := [("_law_k", 2)]) (N := ["_law_found", "_law_due_here", "_law_k"]) (sc := defScope s_L_alike) (by decide +kernel)) (fun _ _ _ _ _ => (pg_name (i := 2) sc_L_alike.nd rfl (by first | exact Or.inl rfl | exact Or.inr rfl))) (fun _ _ _ _ _ => (pts_one (pt_not (pt_val (pe_call G_L_alike (hr.mono (by first | decide | omega)) rfl T.g__law_alike T.k__law_alike b_L_alike .nil pass0 (pa_cons (pe_ix (z_ixQ (K := K) rfl) (pv 0) (pv 2) (fun _ _ => rfl)) (pa_cons (pe_ix (z_ixQ (K := K) rfl) (pv 1) (pv 2) (fun _ _ => rfl)) pa_nil))))))) (fun _ _ _ _ _ => (pv 2))) (pe_lst pa_nil) (nomark _)))))) pss_nil)
      (pss_cons (ps_if (PW.pt (pw_or (pt_cmpR op_isNN (pv 1) pe_non (nomark _)) (pw_or1 (pt_cmpR op_isNN (pv 0) pe_non (nomark _))))) (pss_one (ps_ret (pe_and (pe_cmpR op_isNN (pv 1) pe_non (nomark _)) (pe_one (pe_cmpR op_isNN (pv 0) pe_non (nomark _)))))) pss_nil)
      (pss_cons (ps_if (PW.pt (pw_or (pt_val (pe_callB (z_isi (K := K) rfl) (by rfl) T.n_isinstance (by decide +kernel) (pa_cons (pv 1) (pa_cons (pe_bltn (v := .ty "bool") (by rfl) T.n_bool (by decide +kernel) rfl) pa_nil)))) (pw_or1 (pt_val (pe_callB (z_isi (K := K) rfl) (by rfl) T.n_isinstance (by decide +kernel) (pa_cons (pv 0) (pa_cons (pe_bltn (v := .ty "bool") (by rfl) T.n_bool (by decide +kernel) rfl) pa_nil))))))) (pss_one (ps_ret (pe_and (pe_callB (z_isi (K := K) rfl) (by rfl) T.n_isinstance (by decide +kernel) (pa_cons (pv 1) (pa_cons (pe_bltn (v := .ty "bool") (by rfl) T.n_bool (by decide +kernel) rfl) pa_nil))) (pe_and (pe_callB (z_isi (K := K) rfl) (by rfl) T.n_isinstance (by decide +kernel) (pa_cons (pv 0) (pa_cons (pe_bltn (v := .ty "bool") (by rfl) T.n_bool (by decide +kernel) rfl) pa_nil))) (pe_one (pe_cmpR op_eq (pv 0) (pv 1) (nomark _))))))) pss_nil)
      (pss_cons (ps_if (pt_val (pe_callB (z_isi (K := K) rfl) (by rfl) T.n_isinstance (by decide +kernel) (pa_cons (pv 1) (pa_cons (pe_bltn (v := .ty "str") (by rfl) T.n_str (by decide +kernel) rfl) pa_nil)))) (pss_one (ps_ret (pe_and (pe_callB (z_isi (K := K) rfl) (by rfl) T.n_isinstance (by decide +kernel) (pa_cons (pv 0) (pa_cons (pe_bltn (v := .ty "str") (by rfl) T.n_str (by decide +kernel) rfl) pa_nil))) (pe_one (pe_cmpR op_eq (pv 0) (pv 1) (nomark _)))))) pss_nil)
      (pss_one (ps_ret (pe_and (pe_callB (z_isi (K := K) rfl) (by rfl) T.n_isinstance (by decide +kernel) (pa_cons (pv 0) (pa_cons (pe_bltn (v := .ty "int") (by rfl) T.n_int (by decide +kernel) rfl) pa_nil))) (pe_one (pe_cmpR op_eq (pv 0) (pv 1) (nomark _)))))))))), ?read⟩)
    case len =>
      obtain ⟨_, _, _, rfl, _⟩ := h
      rfl
    case read =>
      obtain ⟨x, y, d, rfl, hx, hy, hok, hdep, hQ⟩ := h
      refine w_start (σ' := [some _, some _, none]) rfl ?_
      cases d with
      | none =>
        obtain rfl : x = .non := by cases hx; rfl
        obtain rfl : y = .non := by cases hy; rfl
        walk_at "ss"
        exact hQ _ (Same.refl _)
      | bool b =>
        obtain rfl : x = .bl b := by cases hx; rfl
        obtain rfl : y = .bl b := by cases hy; rfl
        walk_at "ss"
        rw [show (b == b) = true by simp]
        exact hQ _ (Same.refl _)
      | int i =>
        obtain rfl : x = .int i := by cases hx; rfl
        obtain rfl : y = .int i := by cases hy; rfl
        walk_at "ss"
        rw [show decide (i = i) = true by simp]
        exact hQ _ (Same.refl _)
      | str z =>
        obtain rfl : x = .str z := by cases hx; rfl
        obtain rfl : y = .str z := by cases hy; rfl
        walk_at "ss"
        rw [show decide (z = z) = true by simp]
        exact hQ _ (Same.refl _)
      | dict kvs => cases hx
      | list ds =>
        obtain ⟨a, xs, rfl, hxs, hxd⟩ : ∃ a xs, x = .ref a ∧ SqL K H a xs ∧ DpAll K H xs ds := by cases hx with | lst h1 h2 => exact ⟨_, _, rfl, h1, h2⟩
        obtain ⟨b, ys, rfl, hys, hyd⟩ : ∃ a xs, y = .ref a ∧ SqL K H a xs ∧ DpAll K H xs ds := by cases hy with | lst h1 h2 => exact ⟨_, _, rfl, h1, h2⟩
        have l1 := dps_len hxd
        have l2 := dps_len hyd
        have hl : ds.length ≤ 100000 ∧ okAll ds = true := by
          have h' : (decide (ds.length ≤ 100000) && okAll ds) = true := hok
          rw [Bool.and_eq_true] at h'
          exact ⟨of_decide_eq_true h'.1, h'.2⟩
        have hl1 := hl.1
        walk_at "ss"
        refine k_lcS (σ' := [some _, some _, none]) rfl walk_range (fun _ acc _ => acc = []) (fun _ _ => trivial) (fun _ _ => rfl) (fun D i x H1 H' acc nD hi S1 hD hA hY => ?_) (fun D H' acc nD S1 hD hA => ?_)
        · obtain ⟨rfl, rfl⟩ := hY
          obtain ⟨v, hv⟩ : ∃ v, xs[i]? = some v := ⟨xs[i]'(by omega), List.getElem?_eq_getElem (by omega)⟩
          obtain ⟨u, hu⟩ : ∃ u, ys[i]? = some u := ⟨ys[i]'(by omega), List.getElem?_eq_getElem (by omega)⟩
          have av : atI xs (0 + (i : Int)) = some v := by rw [Int.zero_add]; exact atI_nat hv
          have au : atI ys (0 + (i : Int)) = some u := by rw [Int.zero_add]; exact atI_nat hu
          obtain ⟨d1, e1, q1⟩ := dps_at hxd hv
          obtain ⟨d2, e2, q2⟩ := dps_at hyd hu
          rw [e1] at e2
          cases e2
          rename_i p np S
          have S2 : Same H H' := S.trans S1
          walk_at "ss"
          have m := List.mem_of_getElem? e1
          refine ⟨v, u, d1, rfl, same_dp S2 _ _ q1, same_dp S2 _ _ q2, okAll_at hl.2 m, ?_, fun H2 S3 => ?_⟩
          · have := depth_at m
            have e : (PyData.list ds).depth = PyData.depthAll ds + 1 := rfl
            omega
          · walk_at "ss"
            exact ⟨S1.trans S3, acc, S3 _ _ hD, hA⟩
        · subst hA
          rename_i p np S
          walk_at "ss"
          rename_i p2 np2 S2
          refine d_eq (d := .list []) (e := .list []) (.lst (SqL.of (S2 _ _ hD)) .nil) (.lst (SqL.of upd_same) .nil) rfl rfl ?_
          exact hQ _ ((S.trans S1).trans S2)
      | tuple ds =>
        obtain ⟨a, xs, rfl, hxs, hxd⟩ : ∃ a xs, x = .ref a ∧ SqT K H a xs ∧ DpAll K H xs ds := by cases hx with | tup h1 h2 => exact ⟨_, _, rfl, h1, h2⟩
        obtain ⟨b, ys, rfl, hys, hyd⟩ : ∃ a xs, y = .ref a ∧ SqT K H a xs ∧ DpAll K H xs ds := by cases hy with | tup h1 h2 => exact ⟨_, _, rfl, h1, h2⟩
        have l1 := dps_len hxd
        have l2 := dps_len hyd
        have hl : ds.length ≤ 100000 ∧ okAll ds = true := by
          have h' : (decide (ds.length ≤ 100000) && okAll ds) = true := hok
          rw [Bool.and_eq_true] at h'
          exact ⟨of_decide_eq_true h'.1, h'.2⟩
        have hl1 := hl.1
        walk_at "ss"
        refine k_lcS (σ' := [some _, some _, none]) rfl walk_range (fun _ acc _ => acc = []) (fun _ _ => trivial) (fun _ _ => rfl) (fun D i x H1 H' acc nD hi S1 hD hA hY => ?_) (fun D H' acc nD S1 hD hA => ?_)
        · obtain ⟨rfl, rfl⟩ := hY
          obtain ⟨v, hv⟩ : ∃ v, xs[i]? = some v := ⟨xs[i]'(by omega), List.getElem?_eq_getElem (by omega)⟩
          obtain ⟨u, hu⟩ : ∃ u, ys[i]? = some u := ⟨ys[i]'(by omega), List.getElem?_eq_getElem (by omega)⟩
          have av : atI xs (0 + (i : Int)) = some v := by rw [Int.zero_add]; exact atI_nat hv
          have au : atI ys (0 + (i : Int)) = some u := by rw [Int.zero_add]; exact atI_nat hu
          obtain ⟨d1, e1, q1⟩ := dps_at hxd hv
          obtain ⟨d2, e2, q2⟩ := dps_at hyd hu
          rw [e1] at e2
          cases e2
          rename_i p np S
          have S2 : Same H H' := S.trans S1
          walk_at "ss"
          have m := List.mem_of_getElem? e1
          refine ⟨v, u, d1, rfl, same_dp S2 _ _ q1, same_dp S2 _ _ q2, okAll_at hl.2 m, ?_, fun H2 S3 => ?_⟩
          · have := depth_at m
            have e : (PyData.tuple ds).depth = PyData.depthAll ds + 1 := rfl
            omega
          · walk_at "ss"
            exact ⟨S1.trans S3, acc, S3 _ _ hD, hA⟩
        · subst hA
          rename_i p np S
          walk_at "ss"
          rename_i p2 np2 S2
          refine d_eq (d := .list []) (e := .list []) (.lst (SqL.of (S2 _ _ hD)) .nil) (.lst (SqL.of upd_same) .nil) rfl rfl ?_
          exact hQ _ ((S.trans S1).trans S2)
  exact q
theorem ok_L_alike {P : Program} {w : World} {K : PySem.W.Frag} {mg : Str → Option Value} {base : Heap} (T : Txt K mg w) : Ok P w K mg base CX0 8 (He.ga K "_law_alike") ["_law_found", "_law_due_here"] (sp_L_alike K) := okN_L_alike T 8
end Bk

/-! Drawn rules: one to four banks, six times of one to nine. -/
namespace Bk
open PySem L2
/-- six times of one to nine -/
def TimesOk (ts : List Int) : Prop := ts.length = 6 ∧ ∀ z ∈ ts, 1 ≤ z ∧ z ≤ 9
def sp_L_rules (K : PySem.W.Frag) : Sp := fun vs H Q E => ∃ (r : Addr), vs = [.ref r] ∧ RowOk K H r ∧
  ∀ (b : Int) (ts : List Int) (t p : Addr) (H' : Hp), 1 ≤ b → b ≤ 4 → TimesOk ts → Kp r H H' → RowOk K H' r → H' t = some (.tup [.int b, .ref p]) → H' p = some (.tup (ts.map V.int)) → Q (.ref t) H'
theorem ok_L_rules {P : Program} {w : World} {K : PySem.W.Frag} {mg : Str → Option Value} {base : Heap} (T : Txt K mg w) : Ok P w K mg base CX0 2 (He.ga K "_law_rules") ["_law_row"] (sp_L_rules K) := by
  obtain ⟨fd, F⟩ := T.f_L_rules
  obtain ⟨fd_L_taken, G_L_taken, b_L_taken⟩ := ok_L_taken (P := P) (w := w) (base := base) T
  refine ⟨fd, F.ok sc_L_rules (fun vs H Q E h => ?len) (fun cdv A outer s H vs Q E hr h => ⟨_, PSs.nox
      (pss_cons (ps_set (i := 1) sc_L_rules.nd rfl (by first | exact Or.inl rfl | exact Or.inr rfl) (pe_ix (z_ixL (K := K) rfl) (pe_lst (pa_cons pe_int (pa_cons pe_int (pa_cons pe_int pa_nil)))) (pe_call G_L_taken (hr.mono (by first | decide | omega)) rfl T.g__law_taken T.k__law_taken b_L_taken .nil pass0 (pa_cons (pv 0) (pa_cons pe_int pa_nil))) (fun _ _ => rfl)))
      (pss_one (ps_ret (pe_tup (pa_cons (pe_op op_add pe_int (pe_call G_L_taken (hr.mono (by first | decide | omega)) rfl T.g__law_taken T.k__law_taken b_L_taken .nil pass0 (pa_cons (pv 0) (pa_cons pe_int pa_nil)))) (pa_cons (pe_callTy (z_tupOf (K := K) rfl) (by rfl) T.n_tuple (by decide +kernel) (pa_cons (pe_lc (own := [("_law_k", 2)]) (tt := tYes) (by rfl) sc_L_rules.nd (pi_range1 rfl T.n_range (pa_cons pe_int pa_nil)) (blkOk_by (own := [("_law_k", 2)]) (N := ["_law_row", "_law_wide", "_law_k"]) (sc := defScope s_L_rules) (by decide +kernel)) (fun _ _ _ _ _ => (pg_name (i := 2) sc_L_rules.nd rfl (by first | exact Or.inl rfl | exact Or.inr rfl))) (fun _ _ _ _ _ => pts_nil) (fun _ _ _ _ _ => (pe_op op_add pe_int (pe_call G_L_taken (hr.mono (by first | decide | omega)) rfl T.g__law_taken T.k__law_taken b_L_taken .nil pass0 (pa_cons (pv 0) (pa_cons (pv 1) pa_nil)))))) pa_nil)) pa_nil)))))), ?read⟩), F.bindsN fun _ _ _ _ _ _ us hl => match us, hl with | [_], _ => rfl⟩
  case len =>
    obtain ⟨_, rfl, _⟩ := h
    rfl
  case read =>
    obtain ⟨r, rfl, hrow, hQ⟩ := h
    refine w_start (σ' := [some _, none, none]) rfl ?_
    walk_at "ss"
    rename_i p0 np0 S0
    refine c_taken (row_same hrow S0) (by omega) (fun v H1 hv0 hv3 k1 r1 => ?_)
    have hp0 : H1 p0 = some (.lst [.int 2, .int 4, .int 9]) := k1 _ _ (ne_of_none' (row_at hrow) np0) upd_same
    obtain ⟨w, hw, hw1, hw2⟩ : ∃ w, atI [V.int 2, V.int 4, V.int 9] v = some (.int w) ∧ 1 ≤ w ∧ w ≤ 9 := by
      rcases (by omega : v = 0 ∨ v = 1 ∨ v = 2) with rfl | rfl | rfl
      · exact ⟨2, rfl, by omega, by omega⟩
      · exact ⟨4, rfl, by omega, by omega⟩
      · exact ⟨9, rfl, by omega, by omega⟩
    walk_at "ss"
    refine c_taken r1 (by omega) (fun b H2 hb0 hb4 k2 r2 => ?_)
    walk_at "ss"
    have k02 : Kp r H H2 := ((Kp.of S0).trans k1).trans k2
    refine k_lcR (σ' := [some _, some _, none]) rfl walk_range (fun H3 => Kp r H2 H3 ∧ RowOk K H3 r) (fun i acc _ => ∃ ts : List Int, acc = ts.map V.int ∧ ts.length = i ∧ ∀ z ∈ ts, 1 ≤ z ∧ z ≤ 9) (fun _ _ => trivial)
      (fun D nD => ⟨⟨Kp.of (Same.new nD), row_same r2 (Same.new nD)⟩, [], rfl, rfl, fun z hz => absurd hz (by simp)⟩) (fun D i x H3 H4 acc nD hi Rl hD hA hY => ?_) (fun D H3 acc nD Rl hD hA => ?_)
    · obtain ⟨rfl, rfl⟩ := hY
      obtain ⟨k3, r3⟩ := Rl
      obtain ⟨ts, rfl, hl, hts⟩ := hA
      walk_at "ss"
      refine c_taken r3 (by omega) (fun z H5 hz0 hz9 k5 r5 => ?_)
      have ne : D ≠ r := ne_of_none' (row_at r2) nD
      have hD5 := k5 _ _ ne hD
      have hlt : (ts.map V.int).length < sizeLine := by
        rw [List.length_map, hl]
        exact sz_lt (by omega)
      walk_at "ss"
      refine ⟨⟨(k3.trans k5).mut nD, row_mut r5 hD5 (fun _ _ z => by cases z) ne⟩, _, upd_same, ts ++ [1 + z], by simp, by simp [hl], fun y hy => ?_⟩
      rcases List.mem_append.mp hy with h | h
      · exact hts y h
      · simp at h
        omega
    · obtain ⟨k3, r3⟩ := Rl
      obtain ⟨ts, rfl, hl, hts⟩ := hA
      walk_at "ss"
      rename_i q nq Sq t nt St
      exact hQ (1 + b) ts t q _ (by omega) (by omega) ⟨hl, hts⟩ (((k02.trans k3).same Sq).same St) (row_same (row_same r3 Sq) St) upd_same (St _ _ upd_same)
theorem c_rules {K : PySem.W.Frag} {H : Hp} {r : Addr} {Q : VK} {E : XK} (h : RowOk K H r) (q : ∀ (b : Int) (ts : List Int) (t p : Addr) (H' : Hp), 1 ≤ b → b ≤ 4 → TimesOk ts → Kp r H H' → RowOk K H' r → H' t = some (.tup [.int b, .ref p]) → H' p = some (.tup (ts.map V.int)) → Q (.ref t) H') : kCall (sp_L_rules K) E Q [.ref r] H := ⟨r, rfl, h, q⟩
end Bk

/-! Rules: made of what the paper tells, else refused. -/
namespace Bk
open PySem L2
/-- a Rules's fields -/
def F_Rules (b : Int) (t : Addr) (z1 z2 z3 z4 z5 z6 : Int) : List (Str × V) := [("many", .int b), ("told", .ref t), ("open_time", .int z1), ("hold", .int z2), ("keep", .int z3), ("rest", .int z4), ("wire", .int z5), ("gap", .int z6)]
/-- a Rules of b banks stands at p; its times at t -/
def RulesAt (K : PySem.W.Frag) (H : Hp) (p : Addr) (b : Int) (ts : List Int) : Prop := ∃ (t dx : Addr) (z1 z2 z3 z4 z5 z6 : Int), ts = [z1, z2, z3, z4, z5, z6] ∧ H p = some (.ins (He.ga K "Rules") dx (F_Rules b t z1 z2 z3 z4 z5 z6)) ∧ SqT K H t (ts.map V.int)
def goodR (b : Int) (ts : List Int) : Prop := 1 ≤ b ∧ b ≤ 4 ∧ TimesOk ts
def sp_Rules_init (K : PySem.W.Frag) : Sp := fun vs H Q E => ∃ (p dx t : Addr) (b : Int) (ts : List Int), vs = [.ref p, .int b, .ref t] ∧ H p = some (.ins (He.ga K "Rules") dx []) ∧ SqT K H t (ts.map V.int) ∧ ts.length ≤ 1000 ∧
  (goodR b ts → ∀ H', RulesAt K H' p b ts → (∀ a o, a ≠ p → H a = some o → H' a = some o) → Q .non H') ∧ (¬ goodR b ts → ∀ H', Same H H' → E (.ref (He.ga K "BadRules")) none H')
theorem ok_Rules_init {P : Program} {w : World} {K : PySem.W.Frag} {mg : Str → Option Value} {base : Heap} (T : Txt K mg w) : Ok P w K mg base (L2.CX P w) 1 (He.ma K (He.ga K "Rules") "__init__") ["self", "banks", "times"] (sp_Rules_init K) := by
  obtain ⟨fd, F⟩ := T.f_Rules_init
  obtain ⟨t_MOST_BANKS, c_MOST_BANKS⟩ := T.c_MOST_BANKS
  obtain ⟨t_MOST_TIME, c_MOST_TIME⟩ := T.c_MOST_TIME
  obtain ⟨t_TIMES, c_TIMES⟩ := T.c_TIMES
  have q_cl_Rules := T.cl_Rules
  have q_na_Rules_gap := T.na_Rules_gap
  have q_na_Rules_hold := T.na_Rules_hold
  have q_na_Rules_keep := T.na_Rules_keep
  have q_na_Rules_many := T.na_Rules_many
  have q_na_Rules_open_time := T.na_Rules_open_time
  have q_na_Rules_rest := T.na_Rules_rest
  have q_na_Rules_told := T.na_Rules_told
  have q_na_Rules_wire := T.na_Rules_wire
  refine ⟨fd, F.ok sc_Rules_init (fun vs H Q E h => ?len) (fun cdv A outer s H vs Q E hr h => ⟨_, 
      (pss_cons (ps_set (i := 3) sc_Rules_init.nd rfl (by first | exact Or.inl rfl | exact Or.inr rfl) (pe_and (pe_chain op_le op_le pe_int (pv 1) (pe_glob (v := .int 4) rfl c_MOST_BANKS ⟨_, rfl⟩)) (pe_one (pe_cmpR op_eq (pe_callB (z_len (K := K) rfl) (by rfl) T.n_len (by decide +kernel) (pa_cons (pv 2) pa_nil)) (pe_glob (v := .int 6) rfl c_TIMES ⟨_, rfl⟩) (nomark _)))))
      (pss_cons (ps_if (PW.pt (pw_or (pt_not (pt_val (pv 3))) (pw_or1 (pt_cmpR (z_neD (K := K) rfl hr.units) (pe_lc (own := [("time", 4)]) (by rfl) sc_Rules_init.nd (z_iT (K := K) rfl (pv 2)) (blkOk_by (own := [("time", 4)]) (N := ["self", "banks", "times", "good", "time"]) (sc := defScope s_Rules_init) (by decide +kernel)) (fun _ _ _ _ _ => (pg_name (i := 4) sc_Rules_init.nd rfl (by first | exact Or.inl rfl | exact Or.inr rfl))) (fun _ _ _ _ _ => (pts_one (pt_not (pt_chain op_le op_le pe_int (pv 4) (pe_glob (v := .int 9) rfl c_MOST_TIME ⟨_, rfl⟩))))) (fun _ _ _ _ _ => (pv 4))) (pe_lst pa_nil) (nomark _))))) (pss_one (z_raise rfl (takes_of rfl rfl rfl rfl) T.xc_BadRules T.g_BadRules T.k_BadRules T.xb_BadRules T.xt_BadRules rfl)) pss_nil)
      (pss_cons (z_sfld (K := K) rfl (pv 0) (pv 1) rfl)
      (pss_cons (z_sfld (K := K) rfl (pv 0) (pe_callTy (z_tupOf (K := K) rfl) (by rfl) T.n_tuple (by decide +kernel) (pa_cons (pv 2) pa_nil)) rfl)
      (pss_one (ps_asg (z_fld (K := K) rfl (pv 0) rfl) (z_gtup (K := K) (n := 6) rfl (by rfl) (pgs_cons (z_gfld (K := K) rfl (pv 0)) (pgs_cons (z_gfld (K := K) rfl (pv 0)) (pgs_cons (z_gfld (K := K) rfl (pv 0)) (pgs_cons (z_gfld (K := K) rfl (pv 0)) (pgs_cons (z_gfld (K := K) rfl (pv 0)) (pgs_cons (z_gfld (K := K) rfl (pv 0)) pgs_nil))))))))))))), ?read⟩), F.bindsN fun _ _ _ _ _ _ us hl => match us, hl with | [_, _, _], _ => rfl⟩
  case len =>
    obtain ⟨_, _, _, _, _, rfl, _⟩ := h
    rfl
  case read =>
    obtain ⟨p, dx, t, b, ts, rfl, hp, ht, hl, hgood, hbad⟩ := h
    refine w_start (σ' := [some _, some _, some _, none, none]) rfl ?_
    by_cases h1 : 1 ≤ b
    · by_cases h2 : b ≤ 4
      · by_cases h3 : ts.length = 6
        · have h3' : ((ts.map V.int).length : Int) = 6 := by rw [List.length_map]; omega
          walk_at "ss"
          refine k_lcS (σ' := [some _, some _, some _, some _, none]) rfl walk_tup (fun i acc _ => acc = ((ts.take i).filter fun z => !(decide (1 ≤ z) && decide (z ≤ 9))).map V.int) (fun H1 S => same_t S ht) (fun _ _ => rfl)
            (fun D i x H1 H' acc nD hi S1 hD hA hY => ?_) (fun D H' acc nD S1 hD hA => ?_)
          · obtain ⟨rfl, hx⟩ := hY
            obtain ⟨z, hz, rfl⟩ := map_at hx
            subst hA
            have hlen : ((ts.take i).filter fun z => !(decide (1 ≤ z) && decide (z ≤ 9))).length ≤ 6 := by
              have q1 := List.length_filter_le (fun z => !(decide (1 ≤ z) && decide (z ≤ 9))) (ts.take i)
              have q2 := List.length_take_le i ts
              have q3 : (ts.take i).length ≤ ts.length := by rw [List.length_take]; omega
              omega
            have e := filter_take (p := fun z => !(decide (1 ≤ z) && decide (z ≤ 9))) hz
            by_cases c1 : 1 ≤ z
            · by_cases c2 : z ≤ 9
              · walk_at "ss"
                refine ⟨S1, _, hD, ?_⟩
                rw [e, decide_eq_true c1, decide_eq_true c2]
                simp
              · walk_at "ss"
                refine ⟨Same.mut S1 nD, _, upd_same, ?_⟩
                rw [e, decide_eq_true c1, decide_eq_false c2]
                simp
            · walk_at "ss"
              refine ⟨Same.mut S1 nD, _, upd_same, ?_⟩
              rw [e, decide_eq_false c1]
              simp
          · subst hA
            walk_at "ss"
            rename_i p2 np2 S2
            rw [List.length_map, List.take_length] at hD
            refine d_ne (d := .list (((ts.filter fun z => !(decide (1 ≤ z) && decide (z ≤ 9)))).map PyData.int)) (e := .list []) (.lst (SqL.of (S2 _ _ hD)) (dps_ints _)) (.lst (SqL.of upd_same) .nil) (shaped_ints _) rfl ?_
            rw [eqv_nil]
            by_cases hall : ∀ z ∈ ts, 1 ≤ z ∧ z ≤ 9
            · have ef : (ts.filter fun z => !(decide (1 ≤ z) && decide (z ≤ 9))) = [] := by
                rw [List.filter_eq_nil_iff]
                intro z hz
                have := hall z hz
                simp [this.1, this.2]
              rw [ef]
              obtain ⟨z1, z2, z3, z4, z5, z6, rfl⟩ : ∃ z1 z2 z3 z4 z5 z6, ts = [z1, z2, z3, z4, z5, z6] := match ts, h3 with
                | [z1, z2, z3, z4, z5, z6], _ => ⟨z1, z2, z3, z4, z5, z6, rfl⟩
              have S3 := S1.trans S2
              have hp2 := S3 _ _ hp
              have ht2 : SqT K _ t [.int z1, .int z2, .int z3, .int z4, .int z5, .int z6] := same_t S3 ht
              walk_at "ss"
              have tt : ∀ G : Hp, SqT K G t [.int z1, .int z2, .int z3, .int z4, .int z5, .int z6] → SqT K G t (([z1, z2, z3, z4, z5, z6] : List Int).map V.int) := fun _ h => h
              refine hgood ⟨h1, h2, rfl, hall⟩ _ ⟨t, dx, z1, z2, z3, z4, z5, z6, rfl, upd_same, tt _ (by walk_at "seqT")⟩ fun a o ne ha => ?_
              repeat rw [upd_ne ne]
              exact S3 _ _ ha
            · have ef : (ts.filter fun z => !(decide (1 ≤ z) && decide (z ≤ 9))).isEmpty = false := by
                rw [List.isEmpty_eq_false_iff]
                intro q
                rw [List.filter_eq_nil_iff] at q
                refine hall fun z hz => ?_
                have := q z hz
                simp at this
                exact this
              rw [List.isEmpty_map, ef]
              walk_at "ss"
              exact hbad (fun g => hall g.2.2.2) _ (S1.trans S2)
        · have h3' : ¬ ((ts.map V.int).length : Int) = 6 := by rw [List.length_map]; omega
          walk_at "ss"
          exact hbad (fun g => h3 g.2.2.1) _ (Same.refl _)
      · walk_at "ss"
        exact hbad (fun g => h2 g.2.1) _ (Same.refl _)
    · walk_at "ss"
      exact hbad (fun g => h1 g.1) _ (Same.refl _)
end Bk

/-! Banks as objects. -/
namespace Bk
open PySem L2
/-! the objects -/
def oV : Option Int → V
  | none => .non
  | some i => .int i
theorem r_o {K : PySem.W.Frag} {A : Addr → Prop} {H : Hp} (o : Option Int) : R K A H (oD o) (oV o) := by cases o <;> rfl
def F_Bank (a b c d : Option Int) : List (Str × V) := [("row", oV a), ("opened", oV b), ("touched", oV c), ("shut_at", oV d)]
def BankAt (K : PySem.W.Frag) (H : Hp) (p : Addr) (s : BankS) : Prop := ∃ dx, H p = some (.ins (He.ga K "Bank") dx (F_Bank s.row s.opened s.touched s.shut))
/-- banks stand at bas, each at its own place -/
def BanksAt (K : PySem.W.Frag) (H : Hp) (bas : List Addr) (bs : List BankS) : Prop := bas.Nodup ∧ bas.length = bs.length ∧ ∀ (i : Nat) (p : Addr) (s : BankS), bas[i]? = some p → bs[i]? = some s → BankAt K H p s
theorem RL.iff2 {K : PySem.W.Frag} {A : Addr → Prop} {H : Hp} {α : Type} {f : α → D} {xs : List α} {vs : List V} (hl : vs.length = xs.length) (h : ∀ (i : Nat) (x : α) (v : V), xs[i]? = some x → vs[i]? = some v → R K A H (f x) v) : RL K A H (xs.map f) vs := by
  refine (RL.iff _ _).mpr ⟨by rw [List.length_map]; exact hl, fun i d v hd hv => ?_⟩
  obtain ⟨x, hx, rfl⟩ := map_at hd
  exact h i x v hx hv
theorem BankAt.rr {K : PySem.W.Frag} {H : Hp} {p : Addr} {s : BankS} (h : BankAt K H p s) : R K (fun _ => True) H (bankD s) (.ref p) := by
  obtain ⟨dx, h⟩ := h
  exact ⟨p, dx, _, rfl, trivial, h, _, _, rfl, r_o _, _, _, rfl, r_o _, _, _, rfl, r_o _, _, _, rfl, r_o _, rfl⟩
theorem rules_ins {K : PySem.W.Frag} {A : Addr → Prop} {H : Hp} {R0 : RulesS} {v : V} (h : R K A H (rulesD R0) v) : ∃ rp dx t, v = .ref rp ∧ H rp = some (.ins (He.ga K "Rules") dx (F_Rules R0.b t R0.o R0.h R0.k R0.r R0.w R0.g)) ∧ SqT K H t (R0.ts.map V.int) := by
  obtain ⟨rp, dx, gs, rfl, _, hi, h⟩ := h
  obtain ⟨v1, _, rfl, rfl, h⟩ := h
  obtain ⟨v2, _, rfl, ⟨t, vs, rfl, ht, h2⟩, h⟩ := h
  obtain ⟨v3, _, rfl, rfl, h⟩ := h
  obtain ⟨v4, _, rfl, rfl, h⟩ := h
  obtain ⟨v5, _, rfl, rfl, h⟩ := h
  obtain ⟨v6, _, rfl, rfl, h⟩ := h
  obtain ⟨v7, _, rfl, rfl, h⟩ := h
  obtain ⟨v8, _, rfl, rfl, h⟩ := h
  obtain rfl := h
  exact ⟨rp, dx, t, rfl, hi, by rw [← ints_of (ns := R0.ts) h2]; exact ht⟩
theorem of_rules {K : PySem.W.Frag} {A : Addr → Prop} {H : Hp} {R0 : RulesS} {rp : Addr} (ha : A rp) (h : RulesAt K H rp R0.b R0.ts) : R K A H (rulesD R0) (.ref rp) := by
  obtain ⟨t, dx, z1, z2, z3, z4, z5, z6, e, h1, h2⟩ := h
  unfold RulesS.ts at e
  simp only [List.cons.injEq, and_true] at e
  obtain ⟨rfl, rfl, rfl, rfl, rfl, rfl⟩ := e
  exact ⟨rp, dx, _, rfl, ha, h1, _, _, rfl, rfl, _, _, rfl, ⟨t, _, rfl, h2, of_ints (ns := R0.ts)⟩, _, _, rfl, rfl, _, _, rfl, rfl, _, _, rfl, rfl, _, _, rfl, rfl, _, _, rfl, rfl, _, _, rfl, rfl, rfl⟩
def bank0 : BankS := ⟨none, none, none, none⟩
theorem BanksAt.go {K : PySem.W.Frag} {H H' : Hp} {bas : List Addr} {bs : List BankS} (h : BanksAt K H bas bs) (k : ∀ p ∈ bas, ∀ o, H p = some o → H' p = some o) : BanksAt K H' bas bs :=
  ⟨h.1, h.2.1, fun i p s hp hs => by
    obtain ⟨dx, q⟩ := h.2.2 i p s hp hs
    exact ⟨dx, k p (List.mem_of_getElem? hp) _ q⟩⟩
theorem BanksAt.mem {K : PySem.W.Frag} {H : Hp} {bas : List Addr} {bs : List BankS} (h : BanksAt K H bas bs) {p : Addr} (hp : p ∈ bas) : ∃ s : BankS, BankAt K H p s := by
  obtain ⟨i, hi, e⟩ := List.getElem_of_mem hp
  have hl := h.2.1
  exact ⟨bs[i]'(by omega), h.2.2 i p _ (by rw [← e]; exact List.getElem?_eq_getElem hi) (List.getElem?_eq_getElem (by omega))⟩
theorem BanksAt.snoc {K : PySem.W.Frag} {H : Hp} {bas : List Addr} {bs : List BankS} {q : Addr} {s : BankS} (h : BanksAt K H bas bs) (hq : q ∉ bas) (hb : BankAt K H q s) : BanksAt K H (bas ++ [q]) (bs ++ [s]) := by
  refine ⟨List.nodup_append.mpr ⟨h.1, List.pairwise_singleton _ _, fun a ha b hb' e => hq (by rw [List.mem_singleton.mp hb'] at e; rw [← e]; exact ha)⟩, by simp [h.2.1], fun i p s' hp hs => ?_⟩
  by_cases c : i < bas.length
  · rw [List.getElem?_append_left c] at hp
    rw [List.getElem?_append_left (by rw [← h.2.1]; exact c)] at hs
    exact h.2.2 i p s' hp hs
  · rw [List.getElem?_append_right (by omega)] at hp
    rw [List.getElem?_append_right (by rw [← h.2.1]; omega), ← h.2.1] at hs
    have e : i - bas.length = 0 := by
      have := (List.getElem?_eq_some_iff.mp hp).1
      simp at this
      omega
    rw [e] at hp hs
    cases hp
    cases hs
    exact hb
/-- a promise by data, used by hand -/
theorem use_D {K : PySem.W.Frag} {n : Nat} {F : List D → (D → Prop) → Prop} {vs : List V} {H : Hp} {Q : VK} {E : XK} (ds : List D) (P : D → Prop) (hl : vs.length = n) (hr : RL K (fun _ => True) H ds vs) (hF : F ds P) (hQ : ∀ d v H', P d → Same H H' → R K (fun a => H a = none) H' d v → Q v H') : kCall (spD K n F) E Q vs H :=
  ⟨ds, fun _ => False, P, hl, hr, hF, hQ, fun _ _ _ _ z => z.elim⟩
end Bk

/-! BadPlan's own __init__. -/
namespace Bk
open PySem L2
def sp_BadPlan_init (K : PySem.W.Frag) : Sp := fun vs H Q E => ∃ (a : Addr) (n : V), vs = [.ref a, n] ∧ H a = some (exo a (He.ga K "BadPlan") none) ∧ ∀ dx, H dx = none → dx ≠ a → Q .non (upd (upd H dx (exd dx [("number", n)])) a (exo a (He.ga K "BadPlan") (some dx)))
theorem ok_BadPlan_init {P : Program} {w : World} {K : PySem.W.Frag} {mg : Str → Option Value} {base : Heap} (T : Txt K mg w) : Ok P w K mg base CX0 1 (He.ma K (He.ga K "BadPlan") "__init__") ["self", "number"] (sp_BadPlan_init K) := by
  obtain ⟨fd, F⟩ := T.f_BadPlan_init
  refine ⟨fd, F.ok sc_BadPlan_init (fun vs H Q E h => ?len) (fun cdv A outer s H vs Q E hr h => ⟨_, PSs.nox
      (pss_cons (ps_expr (z_bkinit (K := K) rfl T.bk_BankError rfl T.g_BankError (pa_cons (pv 0) (pa_cons (pv 1) pa_nil))))
      (pss_one (z_ost (K := K) rfl (pv 0) (pv 1)))), ?read⟩), F.bindsN fun _ _ _ _ _ _ us hl => match us, hl with | [_, _], _ => rfl⟩
  case len =>
    obtain ⟨_, _, rfl, _⟩ := h
    rfl
  case read =>
    obtain ⟨a, n, rfl, ha, hQ⟩ := h
    refine w_start (σ' := [some _, some _]) rfl ?_
    walk_at "ss"
    refine k_vei T.ox_BadPlan ha ?_
    walk_at "ss"
    refine k_ost T.ox_BadPlan T.nf_BadPlan_number ha (fun dx nx ne => ?_)
    exact hQ dx nx ne
theorem num_BadPlan {K : PySem.W.Frag} : sp_BadPlan_init K = spNum K (He.ga K "BadPlan") "number" := rfl
end Bk

/-! BadText's own __init__. -/
namespace Bk
open PySem L2
def sp_BadText_init (K : PySem.W.Frag) : Sp := fun vs H Q E => ∃ (a : Addr) (n : V), vs = [.ref a, n] ∧ H a = some (exo a (He.ga K "BadText") none) ∧ ∀ dx, H dx = none → dx ≠ a → Q .non (upd (upd H dx (exd dx [("row", n)])) a (exo a (He.ga K "BadText") (some dx)))
theorem ok_BadText_init {P : Program} {w : World} {K : PySem.W.Frag} {mg : Str → Option Value} {base : Heap} (T : Txt K mg w) : Ok P w K mg base CX0 1 (He.ma K (He.ga K "BadText") "__init__") ["self", "row"] (sp_BadText_init K) := by
  obtain ⟨fd, F⟩ := T.f_BadText_init
  refine ⟨fd, F.ok sc_BadText_init (fun vs H Q E h => ?len) (fun cdv A outer s H vs Q E hr h => ⟨_, PSs.nox
      (pss_cons (ps_expr (z_bkinit (K := K) rfl T.bk_BankError rfl T.g_BankError (pa_cons (pv 0) (pa_cons (pv 1) pa_nil))))
      (pss_one (z_ost (K := K) rfl (pv 0) (pv 1)))), ?read⟩), F.bindsN fun _ _ _ _ _ _ us hl => match us, hl with | [_, _], _ => rfl⟩
  case len =>
    obtain ⟨_, _, rfl, _⟩ := h
    rfl
  case read =>
    obtain ⟨a, n, rfl, ha, hQ⟩ := h
    refine w_start (σ' := [some _, some _]) rfl ?_
    walk_at "ss"
    refine k_vei T.ox_BadText ha ?_
    walk_at "ss"
    refine k_ost T.ox_BadText T.nf_BadText_row ha (fun dx nx ne => ?_)
    exact hQ dx nx ne
instance {K : PySem.W.Frag} : IsNum K (sp_BadText_init K) "BadText" "row" := ⟨rfl⟩
end Bk

/-! What a deed is; plans looked over. -/
namespace Bk
open PySem L2
/-- things of a plan: a word and its numbers, or nothing -/
inductive Deed where
  | nil
  | mk (word : Str) (ns : List Int)
  deriving DecidableEq
def Deed.vs : Deed → List V
  | .nil => []
  | .mk z ns => .str z :: ns.map V.int
/-- a deed of one of b banks -/
def okDeed (b : Int) : Deed → Bool
  | .nil => false
  | .mk z ns => (match lenOf z with
    | none => false
    | some n => decide (((ns.length : Int) + 1) = n) && (match ns with
      | k :: r => decide (0 ≤ k) && decide (k < b) && (match r with
        | row :: _ => decide (0 ≤ row) && decide (row ≤ 99)
        | [] => true)
      | [] => true))
theorem lenOf_cases {z : Str} {n : Int} (h : lenOf z = some n) : (z = "open" ∧ n = 3) ∨ (z ≠ "open" ∧ (z = "shut" ∨ z = "touch") ∧ n = 2) := by
  unfold lenOf at h
  by_cases c1 : z = "open"
  · rw [if_pos c1] at h
    exact .inl ⟨c1, (Option.some.inj h).symm⟩
  · rw [if_neg c1] at h
    by_cases c2 : z = "shut"
    · rw [if_pos c2] at h
      exact .inr ⟨c1, .inl c2, (Option.some.inj h).symm⟩
    · rw [if_neg c2] at h
      by_cases c3 : z = "touch"
      · rw [if_pos c3] at h
        exact .inr ⟨c1, .inr c3, (Option.some.inj h).symm⟩
      · rw [if_neg c3] at h
        cases h
def sp_is_deed (K : PySem.W.Frag) : Sp := fun vs H Q E => ∃ (p t : Addr) (b : Int) (ts : List Int) (d : Deed), vs = [.ref p, .ref t] ∧ RulesAt K H p b ts ∧ SqT K H t d.vs ∧ d.vs.length ≤ 1000 ∧ Q (.bl (okDeed b d)) H
theorem ok_is_deed {P : Program} {w : World} {K : PySem.W.Frag} {mg : Str → Option Value} {base : Heap} (T : Txt K mg w) : Ok P w K mg base CX0 1 (He.ga K "is_deed") ["rules", "deed"] (sp_is_deed K) := by
  obtain ⟨fd, F⟩ := T.f_is_deed
  obtain ⟨t_MOST_ROW, c_MOST_ROW⟩ := T.c_MOST_ROW
  have q_cl_Rules := T.cl_Rules
  have q_na_Rules_many := T.na_Rules_many
  refine ⟨fd, F.ok sc_is_deed (fun vs H Q E h => ?len) (fun cdv A outer s H vs Q E hr h => ⟨_, PSs.nox
      (pss_cons (ps_if (PW.pt (pw_or (pt_cmpR op_eq (pe_callB (z_len (K := K) rfl) (by rfl) T.n_len (by decide +kernel) (pa_cons (pv 1) pa_nil)) pe_int (nomark _)) (pw_or (pt_cmpR (z_notInLen (K := K) (w := w) rfl rfl T.lens) (pe_ix (z_ixT (K := K) rfl) (pv 1) pe_int (fun _ _ => rfl)) (pe_glob (v := .ref (He.ga K "LENGTHS")) rfl T.g_LENGTHS rfl) (by rfl)) (pw_or1 (pt_cmpR op_ne (pe_callB (z_len (K := K) rfl) (by rfl) T.n_len (by decide +kernel) (pa_cons (pv 1) pa_nil)) (pe_ix (z_ixLen (K := K) (w := w) rfl rfl T.lens) (pe_glob (v := .ref (He.ga K "LENGTHS")) rfl T.g_LENGTHS rfl) (pe_ix (z_ixT (K := K) rfl) (pv 1) pe_int (fun _ _ => rfl)) (fun _ _ => rfl)) (nomark _)))))) (pss_one (ps_ret pe_bl)) pss_nil)
      (pss_one (ps_ret (pe_and (pe_chain op_le op_lt pe_int (pe_ix (z_ixT (K := K) rfl) (pv 1) pe_int (fun _ _ => rfl)) (z_fld (K := K) rfl (pv 0) rfl)) (pe_one (pe_or (pe_cmpR op_ne (pe_ix (z_ixT (K := K) rfl) (pv 1) pe_int (fun _ _ => rfl)) pe_str (nomark _)) (pe_one (pe_chain op_le op_le pe_int (pe_ix (z_ixT (K := K) rfl) (pv 1) pe_int (fun _ _ => rfl)) (pe_glob (v := .int 99) rfl c_MOST_ROW ⟨_, rfl⟩))))))))), ?read⟩), F.bindsN fun _ _ _ _ _ _ us hl => match us, hl with | [_, _], _ => rfl⟩
  case len =>
    obtain ⟨_, _, _, _, _, rfl, _⟩ := h
    rfl
  case read =>
    obtain ⟨p, t, b, ts, d, rfl, ⟨rt, dx, z1, z2, z3, z4, z5, z6, rfl, hp, hrt⟩, ht, hl, hQ⟩ := h
    refine w_start (σ' := [some _, some _]) rfl ?_
    cases d with
    | nil =>
      walk_at "ss"
      exact hQ
    | mk z ns =>
      have ht2 : SqT K H t (.str z :: ns.map V.int) := ht
      have hne : ¬ ((V.str z :: ns.map V.int).length : Int) = 0 := by simp only [List.length_cons]; omega
      have a0 : atI (V.str z :: ns.map V.int) 0 = some (.str z) := at_of (j := 0) rfl rfl
      have el : ((V.str z :: ns.map V.int).length : Int) = (ns.length : Int) + 1 := by simp
      cases hz : lenOf z with
      | none =>
        have e0 : (lenOf z).isSome = false := by rw [hz]; rfl
        have e1 : (!(lenOf z).isSome) = true := by rw [e0]; rfl
        have q : okDeed b (.mk z ns) = false := by simp only [okDeed, hz]
        rw [q] at hQ
        walk_at "ss"
        exact hQ
      | some n =>
        have e0 : (lenOf z).isSome = true := by rw [hz]; rfl
        have e1 : (!(lenOf z).isSome) = false := by rw [e0]; rfl
        by_cases hn : (ns.length : Int) + 1 = n
        · rcases lenOf_cases hz with ⟨ho, rfl⟩ | ⟨ho, _, rfl⟩
          · match ns, hn, a0, el, ht2, hQ with
            | [k, row], _, a0, el, ht2, hQ =>
              have q : okDeed b (.mk z [k, row]) = (decide (0 ≤ k) && decide (k < b) && (decide (0 ≤ row) && decide (row ≤ 99))) := by simp only [okDeed, hz]; simp
              rw [q] at hQ
              have ht3 : SqT K H t [.str z, .int k, .int row] := ht2
              have n3 : ¬ (([V.str z, .int k, .int row] : List V).length : Int) = 0 := by simp
              have l3 : (([V.str z, .int k, .int row] : List V).length : Int) = 3 := by simp
              have a3 : atI ([V.str z, .int k, .int row] : List V) 0 = some (.str z) := rfl
              clear ht2 ht a0 el
              have hzo : decide (z = "open") = true := decide_eq_true ho
              have hzn : (!decide (z = "open")) = false := by rw [hzo]; rfl
              by_cases c1 : 0 ≤ k
              · by_cases c2 : k < b
                · by_cases c3 : 0 ≤ row
                  · rw [decide_eq_true c1, decide_eq_true c2, decide_eq_true c3] at hQ
                    walk_at "ss"
                    exact hQ
                  · rw [decide_eq_true c1, decide_eq_true c2, decide_eq_false c3] at hQ
                    walk_at "ss"
                    exact hQ
                · rw [decide_eq_true c1, decide_eq_false c2] at hQ
                  walk_at "ss"
                  exact hQ
              · rw [decide_eq_false c1] at hQ
                walk_at "ss"
                exact hQ
            | [], hn, _, _, _, _ => simp at hn
            | [_], hn, _, _, _, _ => simp at hn
            | _ :: _ :: _ :: r, hn, _, _, _, _ => simp at hn; omega
          · match ns, hn, a0, el, ht2, hQ with
            | [k], _, a0, el, ht2, hQ =>
              have q : okDeed b (.mk z [k]) = (decide (0 ≤ k) && decide (k < b)) := by simp only [okDeed, hz]; simp
              rw [q] at hQ
              have ht3 : SqT K H t [.str z, .int k] := ht2
              have n3 : ¬ (([V.str z, .int k] : List V).length : Int) = 0 := by simp
              have l3 : (([V.str z, .int k] : List V).length : Int) = 2 := by simp
              have a3 : atI ([V.str z, .int k] : List V) 0 = some (.str z) := rfl
              clear ht2 ht a0 el
              have hzo : decide (z = "open") = false := decide_eq_false ho
              have hzn : (!decide (z = "open")) = true := by rw [hzo]; rfl
              by_cases c1 : 0 ≤ k
              · by_cases c2 : k < b
                · rw [decide_eq_true c1, decide_eq_true c2] at hQ
                  walk_at "ss"
                  exact hQ
                · rw [decide_eq_true c1, decide_eq_false c2] at hQ
                  walk_at "ss"
                  exact hQ
              · rw [decide_eq_false c1] at hQ
                walk_at "ss"
                exact hQ
            | [], hn, _, _, _, _ => simp at hn
            | _ :: _ :: r, hn, _, _, _, _ => simp at hn; omega
        · have q : okDeed b (.mk z ns) = false := by simp only [okDeed, hz, decide_eq_false hn, Bool.false_and]
          rw [q] at hQ
          walk_at "ss"
          exact hQ
end Bk

/-! need_plan: refuses the first thing that is no deed. -/
namespace Bk
open PySem L2
/-- a thing of a plan: a tuple of its beat and its deed -/
def ItemAt (K : PySem.W.Frag) (H : Hp) (v : V) (x : Int × Deed) : Prop := ∃ t dt, v = .ref t ∧ SqT K H t [.int x.1, .ref dt] ∧ SqT K H dt x.2.vs
/-- a plan stands at a -/
def PlanAt (K : PySem.W.Frag) (H : Hp) (a : Addr) (pl : List (Int × Deed)) : Prop := ∃ vs, SqL K H a vs ∧ vs.length = pl.length ∧ ∀ (i : Nat) (x : Int × Deed), pl[i]? = some x → ∃ v, vs[i]? = some v ∧ ItemAt K H v x
def PlanSz (pl : List (Int × Deed)) : Prop := pl.length ≤ 1000 ∧ ∀ x ∈ pl, x.2.vs.length ≤ 1000
theorem same_item {K : PySem.W.Frag} {H H' : Hp} {v : V} {x : Int × Deed} (e : Same H H') (h : ItemAt K H v x) : ItemAt K H' v x := by
  obtain ⟨t, dt, h1, h2, h3⟩ := h
  exact ⟨t, dt, h1, same_t e h2, same_t e h3⟩
theorem same_plan {K : PySem.W.Frag} {H H' : Hp} {a : Addr} {pl : List (Int × Deed)} (e : Same H H') (h : PlanAt K H a pl) : PlanAt K H' a pl := by
  obtain ⟨vs, h1, h2, h3⟩ := h
  refine ⟨vs, same_l e h1, h2, fun i x hx => ?_⟩
  obtain ⟨v, hv, hi⟩ := h3 i x hx
  exact ⟨v, hv, same_item e hi⟩
theorem same_rules {K : PySem.W.Frag} {H H' : Hp} {p : Addr} {b : Int} {ts : List Int} (e : Same H H') (h : RulesAt K H p b ts) : RulesAt K H' p b ts := by
  obtain ⟨t, dx, z1, z2, z3, z4, z5, z6, h1, h2, h3⟩ := h
  exact ⟨t, dx, z1, z2, z3, z4, z5, z6, h1, e _ _ h2, same_t e h3⟩
def sp_need_plan (K : PySem.W.Frag) : Sp := fun vs H Q E => ∃ (p a : Addr) (b : Int) (ts : List Int) (pl : List (Int × Deed)), vs = [.ref p, .ref a] ∧ RulesAt K H p b ts ∧ PlanAt K H a pl ∧ PlanSz pl ∧
  ((∀ x ∈ pl, okDeed b x.2 = true) → Q .non H) ∧ (∀ (i : Nat) (x : Int × Deed), pl[i]? = some x → okDeed b x.2 = false → (∀ (j : Nat) (y : Int × Deed), j < i → pl[j]? = some y → okDeed b y.2 = true) → ∀ d H', Same H H' → H' d = some (.xd [("number", .int i)]) → E (.ref (He.ga K "BadPlan")) (some d) H')
theorem ok_need_plan {P : Program} {w : World} {K : PySem.W.Frag} {mg : Str → Option Value} {base : Heap} (T : Txt K mg w) : Ok P w K mg base (L2.CX P w) 3 (He.ga K "need_plan") ["rules", "plan"] (sp_need_plan K) := by
  obtain ⟨fd, F⟩ := T.f_need_plan
  obtain ⟨fd_is_deed, G_is_deed, b_is_deed⟩ := ok_is_deed (P := P) (w := w) (base := base) T
  obtain ⟨fd_BadPlan_init, G_BadPlan_init, b_BadPlan_init⟩ := ok_BadPlan_init (P := P) (w := w) (base := base) T
  refine ⟨fd, F.ok sc_need_plan (fun vs H Q E h => ?len) (fun cdv A outer s H vs Q E hr h => ⟨_, 
      (pss_one (ps_for (passes_of rfl) rfl (pi_range1 rfl T.n_range (pa_cons (pe_callB (z_len (K := K) rfl) (by rfl) T.n_len (by decide +kernel) (pa_cons (pv 1) pa_nil)) pa_nil)) (pg_name (i := 2) sc_need_plan.nd rfl (by first | exact Or.inl rfl | exact Or.inr rfl)) (pss_one (ps_if (pt_not (pt_val (pe_call G_is_deed (hr.mono (by first | decide | omega)) rfl T.g_is_deed T.k_is_deed b_is_deed .nil pass0 (pa_cons (pv 0) (pa_cons (pe_ix (z_ixT (K := K) rfl) (pe_ix (z_ixL (K := K) rfl) (pv 1) (pv 2) (fun _ _ => rfl)) pe_int (fun _ _ => rfl)) pa_nil))))) (pss_one (z_raiseO (K := K) rfl rfl (takes_of rfl rfl rfl rfl) T.ox_BadPlan T.ii_BadPlan T.it_BadPlan G_BadPlan_init (hr.mono (by first | decide | omega)) b_BadPlan_init pass0 rfl T.g_BadPlan (pa_cons (pv 2) pa_nil))) pss_nil)))), ?read⟩), F.bindsN fun _ _ _ _ _ _ us hl => match us, hl with | [_, _], _ => rfl⟩
  case len =>
    obtain ⟨_, _, _, _, _, rfl, _⟩ := h
    rfl
  case read =>
    obtain ⟨p, a, b, ts, pl, rfl, hR, ⟨ws, hws, hwl, hwi⟩, ⟨hz, hz2⟩, hgood, hbad⟩ := h
    refine w_start (σ' := [some _, some _, none]) rfl ?_
    have hl2 : ((ws.length : Nat) : Int) < 2 ^ 62 := by omega
    walk_at "ss"
    refine k_for walk_range (fun i σ H1 => H1 = H ∧ (∃ o, σ = [some (.ref p), some (.ref a), o]) ∧ ∀ (j : Nat) (y : Int × Deed), j < i → pl[j]? = some y → okDeed b y.2 = true) ⟨rfl, ⟨_, rfl⟩, fun j _ hj => absurd hj (Nat.not_lt_zero _)⟩ (fun _ _ _ _ _ => trivial) (fun i x σ H1 H1' hi hP hY => ?_) (fun σ H1 hP => ?_)
    · obtain ⟨rfl, ⟨o, rfl⟩, hj⟩ := hP
      obtain ⟨rfl, rfl⟩ := hY
      have hi' : i < pl.length := by rw [← hwl]; have := hi; omega
      obtain ⟨v, hv, t, dt, rfl, h1, h2⟩ := hwi i _ (List.getElem?_eq_getElem hi')
      have av : atI ws (0 + (i : Int)) = some (.ref t) := by rw [Int.zero_add]; exact atI_nat hv
      walk_at "ss"
      refine ⟨p, dt, b, ts, _, rfl, hR, h2, hz2 _ (List.getElem_mem hi'), ?_⟩
      walk_at "ss"
      have hx := List.getElem?_eq_getElem hi'
      generalize pl[i] = x at hx h1 h2
      cases c : okDeed b x.2 with
      | true =>
        walk_at "ss"
        refine ⟨rfl, ⟨_, rfl⟩, fun j y hji hy => ?_⟩
        by_cases e : j = i
        · rw [e, hx] at hy
          cases hy
          exact c
        · exact hj j y (by omega) hy
      | false =>
        walk_at "ss"
        refine k_raiseO (f := "number") (K := K) fun d H2 S hd => ?_
        refine hbad i x hx c hj d H2 S ?_
        rw [show ((i : Nat) : Int) = 0 + (i : Int) by omega]
        exact hd
    · obtain ⟨rfl, ⟨o, rfl⟩, hj⟩ := hP
      walk_at "ss"
      refine hgood fun x hx => ?_
      obtain ⟨j, hj1, hj2⟩ := List.getElem_of_mem hx
      refine hj j x ?_ (by rw [← hj2]; exact List.getElem?_eq_getElem hj1)
      omega
end Bk

/-! need_plan by data. -/
namespace Bk
open PySem L2
def Dx.deed (x : Dx) : Deed := .mk x.w.s (x.k :: x.r)
/-- a deed of one of b banks -/
def Dx.ok (b : Int) (x : Dx) : Prop := 0 ≤ x.k ∧ x.k < b ∧ (x.w = .op → ∃ row, x.r = [row] ∧ 0 ≤ row ∧ row ≤ 99) ∧ (x.w ≠ .op → x.r = [])
def toG (x : Int × Dx) : Int × Deed := (x.1, x.2.deed)
def Deed.dd : Deed → D
  | .nil => .tup []
  | .mk z ns => .tup (.str z :: ns.map D.int)
def itG (x : Int × Deed) : D := .tup [.int x.1, x.2.dd]
def planG (pl : List (Int × Deed)) : D := .lst (pl.map itG)
/-- what stands ahead of the first thing that is no deed -/
def FirstBad (b : Int) (pl : List (Int × Deed)) (i : Nat) : Prop := (∃ x, pl[i]? = some x ∧ okDeed b x.2 = false) ∧ ∀ (j : Nat) (y : Int × Deed), j < i → pl[j]? = some y → okDeed b y.2 = true
def F_need_plan (ds : List D) (er : Err → Prop) (P : D → Prop) : Prop := ∃ (R : RulesS) (pl : List (Int × Deed)), ds = [rulesD R, planG pl] ∧ PlanSz pl ∧ ((∀ x ∈ pl, okDeed R.b x.2 = true) → P .non) ∧ ∀ i, FirstBad R.b pl i → er (.num "BadPlan" "number" i)
theorem planAt_of {K : PySem.W.Frag} {A : Addr → Prop} {H : Hp} {pl : List (Int × Deed)} {v : V} (h : R K A H (planG pl) v) : ∃ a, v = .ref a ∧ PlanAt K H a pl := by
  obtain ⟨a, vs, rfl, _, h3, h4⟩ := h
  refine ⟨a, rfl, vs, SqL.of h3, by rw [h4.len, List.length_map], fun i x hx => ?_⟩
  obtain ⟨v, hv, t, ws, rfl, ht, q⟩ := h4.at (i := i) (d := itG x) (by rw [List.getElem?_map, hx]; rfl)
  obtain ⟨v1, _, rfl, rfl, v2, _, rfl, hd, rfl⟩ := q
  refine ⟨_, hv, t, ?_⟩
  obtain ⟨b, d⟩ := x
  cases d with
  | nil =>
    obtain ⟨dt, us, rfl, hdt, e⟩ := hd
    cases e
    exact ⟨dt, rfl, ht, hdt⟩
  | mk z ns =>
    obtain ⟨dt, us, rfl, hdt, u1, _, rfl, rfl, e⟩ := hd
    rw [ints_of e] at hdt
    exact ⟨dt, rfl, ht, hdt⟩
instance {K : PySem.W.Frag} : SpX K (sp_need_plan K) F_need_plan := ⟨fun {ds P er vs H Q E} hr hF hQ hE => by
  obtain ⟨R0, pl, rfl, hz, hg, hb⟩ := hF
  obtain ⟨v1, _, rfl, h1, v2, _, rfl, h2, rfl⟩ := hr
  obtain ⟨rp, dx, t, rfl, hi, ht⟩ := rules_ins h1
  obtain ⟨a, rfl, hp⟩ := planAt_of h2
  exact ⟨rp, a, R0.b, R0.ts, pl, rfl, ⟨t, dx, _, _, _, _, _, _, rfl, hi, ht⟩, hp, hz, fun c => hQ .non .non H (hg c) (Same.refl _) rfl, fun i x hx hbad hj d H' S hd => hE _ _ _ _ (hb i ⟨⟨x, hx, hbad⟩, hj⟩) S ⟨rfl, d, rfl, hd⟩⟩⟩
end Bk

/-! Draws by data. -/
namespace Bk
open PySem L2
section
variable {K : PySem.W.Frag} {XE : XK} {tr : TA} {dr : DA}
instance : SpR K (sp_L_taken K) F_L_taken := ⟨fun {r ds P vs H Q E} hr rl hF hQ => by
  obtain ⟨k, rfl, hk, hP⟩ := hF
  obtain ⟨v, _, rfl, rfl, rfl⟩ := rl
  exact ⟨r, k, rfl, hr, hk, fun v H' h1 h2 kp hr' => hQ _ _ _ (hP v h1 h2) kp hr' rfl⟩⟩
instance : SpR K (sp_L_rules K) F_L_rules := ⟨fun {r ds P vs H Q E} hr rl hF hQ => by
  obtain ⟨rfl, hP⟩ := hF
  obtain rfl : vs = [] := rl
  refine ⟨r, rfl, hr, fun b ts t p H' h1 h2 h3 kp hr' ht hp => ?_⟩
  obtain ⟨hl, hz⟩ := h3
  match ts, hl, hz, hp with
  | [o, h, k, q, w, g], _, hz, hp => exact hQ _ _ _ (hP ⟨b, o, h, k, q, w, g⟩ ⟨h1, h2, hz⟩) kp hr' ⟨t, _, rfl, SqT.of ht, _, _, rfl, rfl, _, _, rfl, ⟨p, _, rfl, SqT.of hp, of_ints (ns := [o, h, k, q, w, g])⟩, rfl⟩⟩
instance {E : XK} [h : OkA K XE tr dr] : OkE K XE (tMake (He.ga K "Rules") (sp_Rules_init K) [] E tr) (dRules dr) := ⟨fun g env xo hd fin => by
  refine w_make (h.ok g env xo hd fun ds vs H' hP e r => ?_)
  obtain ⟨R0, e1, hok, hP⟩ := hP
  intro x dx nx ndx nex
  have g' := g.ext e
  have rl := r.w g'
  rw [e1] at rl
  obtain ⟨v1, _, rfl, rfl, v2, _, rfl, ⟨t, us, rfl, ht, hu⟩, rfl⟩ := rl
  have S : Same H' (upd (upd H' dx (.own x)) x (.ins (He.ga K "Rules") dx [])) := (Same.new ndx).trans (Same.new (by rw [upd_ne (Ne.symm nex)]; exact nx))
  rw [ints_of hu] at ht
  refine ⟨x, dx, t, R0.b, R0.ts, rfl, upd_same, same_t S ht, by show 6 ≤ 1000; decide, fun _ H2 hR hk => ⟨rfl, ?_⟩, fun c => absurd ⟨hok.1, hok.2.1, rfl, hok.2.2⟩ c⟩
  have S2 : Same H' H2 := fun a o ha => hk a o (ne_of_none ha nx) (S a o ha)
  exact fin _ true _ _ hP (e.trans (Ext.of S2)) (of_rules (g'.nw _ nx) hR)⟩
end
end Bk

/-! The law's asks and orders. -/
namespace Bk
open PySem L2
def F_L_asks (ds : List D) (P : D → Prop) : Prop := ∃ (b most : Int), ds = [.int b, .int most] ∧ 1 ≤ b ∧ b ≤ 4 ∧ 0 ≤ most ∧ most ≤ 100 ∧ ∀ as : List AskS, as.length ≤ most.toNat → (∀ a ∈ as, askOk b a = true) → P (asksD as)
/-- draws, one after the other -/
theorem dLc_draws {di : DI} {dg : DG} {dt : DT} {de : DE} {ws : List Nat} {ρ : List Sl} {m : Md} {er : Err → Prop} {P : D → Bool → Prop} (n : Nat) (C : Int → Prop) (hn : n ≤ 100000)
    (hdi : ∀ P : List D → Bool → Prop, P (rngD 0 n) true → di ρ m er P)
    (hx : ∀ (i : Nat) (Y : D → Bool → Prop) (N : Prop), (∀ v, C v → Y (.int v) true) → lcTurn dg dt de ws ρ m er (.int (0 + (i : Int))) (true || flat (.int (0 + (i : Int)))) Y N)
    (hP : ∀ rs : List Int, rs.length = n → (∀ z ∈ rs, C z) → P (.lst (rs.map D.int)) true) : dLc di dg dt de ws ρ m er P := by
  refine dLc_inv (rngD 0 n) true (fun i acc => ∃ rs : List Int, acc = rs.map D.int ∧ rs.length = i ∧ ∀ z ∈ rs, C z) (by rw [rng_len]; exact hn) hdi ⟨[], rfl, rfl, by simp⟩ (fun i x acc Y N hx' hI hY hN => ?_) (fun acc hI => ?_)
  · obtain ⟨rs, rfl, hl, hc⟩ := hI
    obtain ⟨rfl, hi⟩ := rng_at hx'
    refine hx i Y N fun v hv => hY _ ⟨rs ++ [v], by simp, by simp [hl], fun z hz => ?_⟩
    rcases List.mem_append.mp hz with hz | hz
    · exact hc z hz
    · rw [List.mem_singleton.mp hz]; exact hv
  · obtain ⟨rs, rfl, hl, hc⟩ := hI
    rw [rng_len] at hl
    exact hP rs hl hc
abbrev sp_L_asks (K : PySem.W.Frag) : Sp := spR K 3 F_L_asks
theorem ok_L_asks {P : Program} {w : World} {K : PySem.W.Frag} {mg : Str → Option Value} {base : Heap} (T : Txt K mg w) : Ok P w K mg base CX0 3 (He.ga K "_law_asks") ["_law_row", "_law_banks", "_law_most"] (sp_L_asks K) := by
  obtain ⟨fd, F⟩ := T.f_L_asks
  obtain ⟨fd_L_taken, G_L_taken, b_L_taken⟩ := ok_L_taken (P := P) (w := w) (base := base) T
  refine ⟨fd, F.ok sc_L_asks (fun vs H Q E h => len_R h) (fun cdv A outer s H vs Q E hr h => ⟨_, PSs.nox
      (pss_cons (ps_set (i := 3) sc_L_asks.nd rfl (by first | exact Or.inl rfl | exact Or.inr rfl) (pe_op op_cat (pe_lc (own := [("_law_k", 4)]) (tt := tYes) (by rfl) sc_L_asks.nd (pi_range1 rfl T.n_range (pa_cons pe_int pa_nil)) (blkOk_by (own := [("_law_k", 4)]) (N := ["_law_row", "_law_banks", "_law_most", "_law_rows", "_law_k", "_law_few", "_law_late", "_law_found"]) (sc := defScope s_L_asks) (by decide +kernel)) (fun _ _ _ _ _ => (pg_name (i := 4) sc_L_asks.nd rfl (by first | exact Or.inl rfl | exact Or.inr rfl))) (fun _ _ _ _ _ => pts_nil) (fun _ _ _ _ _ => (pe_call G_L_taken (hr.mono (by first | decide | omega)) rfl T.g__law_taken T.k__law_taken b_L_taken .nil pass0 (pa_cons (pv 0) (pa_cons pe_int pa_nil))))) (pe_lst (pa_cons pe_int (pa_cons pe_int pa_nil)))))
      (pss_cons (ps_set (i := 5) sc_L_asks.nd rfl (by first | exact Or.inl rfl | exact Or.inr rfl) (pe_op op_add pe_int (pe_call G_L_taken (hr.mono (by first | decide | omega)) rfl T.g__law_taken T.k__law_taken b_L_taken .nil pass0 (pa_cons (pv 0) (pa_cons pe_int pa_nil)))))
      (pss_cons (ps_set (i := 6) sc_L_asks.nd rfl (by first | exact Or.inl rfl | exact Or.inr rfl) (pe_ix (z_ixL (K := K) rfl) (pe_lst (pa_cons pe_int (pa_cons pe_int (pa_cons pe_int pa_nil)))) (pe_call G_L_taken (hr.mono (by first | decide | omega)) rfl T.g__law_taken T.k__law_taken b_L_taken .nil pass0 (pa_cons (pv 0) (pa_cons pe_int pa_nil))) (fun _ _ => rfl)))
      (pss_cons (ps_set (i := 7) sc_L_asks.nd rfl (by first | exact Or.inl rfl | exact Or.inr rfl) (pe_lst pa_nil))
      (pss_cons (ps_for PassesOwn.never rfl (pi_range1 rfl T.n_range (pa_cons (pe_call G_L_taken (hr.mono (by first | decide | omega)) rfl T.g__law_taken T.k__law_taken b_L_taken .nil pass0 (pa_cons (pv 0) (pa_cons (pe_op op_add (pv 2) pe_int) pa_nil))) pa_nil)) (pg_name (i := 4) sc_L_asks.nd rfl (by first | exact Or.inl rfl | exact Or.inr rfl)) (pss_one (ps_expr (z_bm (K := K) rfl PySem.F.plainAttrs_list PySem.F.slot_list_append PySem.F.type_list_append mt_append (pv 7) (pa_cons (pe_tup (pa_cons (pe_call G_L_taken (hr.mono (by first | decide | omega)) rfl T.g__law_taken T.k__law_taken b_L_taken .nil pass0 (pa_cons (pv 0) (pa_cons (pv 1) pa_nil))) (pa_cons (pe_ix (z_ixL (K := K) rfl) (pv 3) (pe_call G_L_taken (hr.mono (by first | decide | omega)) rfl T.g__law_taken T.k__law_taken b_L_taken .nil pass0 (pa_cons (pv 0) (pa_cons (pv 5) pa_nil))) (fun _ _ => rfl)) (pa_cons (pe_call G_L_taken (hr.mono (by first | decide | omega)) rfl T.g__law_taken T.k__law_taken b_L_taken .nil pass0 (pa_cons (pv 0) (pa_cons (pv 6) pa_nil))) pa_nil)))) pa_nil)))))
      (pss_one (ps_ret (pv 7)))))))), ?read⟩), F.bindsN fun _ _ _ _ _ _ us hl => match us, hl with | [_, _, _], _ => rfl⟩
  case read =>
    refine run_R (K := K) (XE := E0) 5 (fun i => if i = 7 then .ow else .fr) _ h (match vs, len_R h with | [_, _, _], _ => rfl) rfl rfl ?_
    clear h
    rintro xs P ⟨b, most, rfl, hb1, hb4, h0, h1, hP⟩
    walk_at "dd"
    refine dLc_draws 2 (fun v => 0 ≤ v ∧ v < 100) (by decide) (fun P hP => by walk_at "dd"; exact ⟨by decide, by decide, hP⟩) (fun i Y N hY => by walk_at "dd"; exact fun v h0 h1 => hY v ⟨h0, h1⟩) (fun rs hrl hrc => ?_)
    refine ⟨_, rfl, by rw [List.length_map]; omega, rfl, fun few hf0 hf1 la hl0 hl1 => ?_⟩
    obtain ⟨late, hlate, hla0, hla1⟩ : ∃ late : Int, atI [D.int 1, D.int 12, D.int 1000] la = some (.int late) ∧ 0 < late ∧ late ≤ 1000 := by
      rcases (by omega : la = 0 ∨ la = 1 ∨ la = 2) with rfl | rfl | rfl
      · exact ⟨1, rfl, by omega, by omega⟩
      · exact ⟨12, rfl, by omega, by omega⟩
      · exact ⟨1000, rfl, by omega, by omega⟩
    refine ⟨_, hlate, ?_⟩
    have hrows : rs.map D.int ++ [D.int 0, D.int 99] = (rs ++ [0, 99]).map D.int := by rw [List.map_append]; rfl
    rw [hrows]
    refine dFor_w .sh (.inl rfl) (fun xs => ∃ v : Nat, v ≤ most.toNat ∧ xs = rngD 0 v) (fun P hP => ?_) ?_
    · walk_at "dd"
      exact ⟨by omega, fun v h2 h3 => ⟨by omega, by omega, hP _ ⟨v.toNat, by omega, rfl⟩⟩⟩
    rintro _ ⟨v, hv, rfl⟩
    refine ⟨fun i ρ' => ∃ (as : List AskS) (s4 : Sl), ρ' = [.row, .sh (.int b), .sh (.int most), .fr (.lst ((rs ++ [0, 99]).map D.int)), s4, .fr (.int (1 + few)), .fr (.int late), .ow (asksD as)] ∧ as.length ≤ i ∧ ∀ a ∈ as, askOk b a = true, ⟨[], _, rfl, Nat.zero_le _, by simp⟩, ?_, ?_⟩
    · rintro i x ρ' hx ⟨as, s4, rfl, hl, has⟩
      obtain ⟨rfl, hi⟩ := rng_at hx
      walk_at "dd"
      refine ⟨by omega, fun k hk0 hk1 => ⟨by omega, fun j hj0 hj1 => ?_⟩⟩
      have hjl : j.toNat < (rs ++ [(0 : Int), 99]).length := by simp [hrl]; omega
      have hjr := List.getElem?_eq_getElem hjl
      have hmem := List.getElem_mem hjl
      generalize (rs ++ [(0 : Int), 99])[j.toNat] = row at hjr hmem
      have hrow : 0 ≤ row ∧ row ≤ 99 := by
        rcases List.mem_append.mp hmem with h | h
        · have := hrc row h; omega
        · simp at h; omega
      rw [atI_i hj0 hjr]
      refine ⟨_, rfl, hla0, fun t ht0 ht1 => ⟨by rw [List.length_map]; omega, as ++ [⟨k, row, t⟩], by rw [List.map_append]; rfl, by rw [List.length_append]; simp; omega, fun a ha => ?_⟩⟩
      rcases List.mem_append.mp ha with ha | ha
      · exact has a ha
      · rw [List.mem_singleton.mp ha]
        exact askOk_iff.mpr ⟨hk0, hk1, hrow.1, hrow.2, ht0, by show t ≤ 999; omega⟩
    · rintro ρ' ⟨as, s4, rfl, hl, has⟩
      rw [rng_len] at hl
      walk_at "dd"
      exact hP as (by omega) has
end Bk

/-! The law's orders. -/
namespace Bk
open PySem L2
def F_L_order (ds : List D) (P : D → Prop) : Prop := ∃ n : Int, ds = [.int n] ∧ 0 ≤ n ∧ n ≤ 1000 ∧ ∀ os : List Nat, os.Perm (List.range n.toNat) → P (ordD os)
theorem perm_move {xs ys : List Nat} {n : Nat} {x : Nat} (h : xs[n]? = some x) : (ys ++ [x] ++ xs.eraseIdx n).Perm (ys ++ xs) := by
  rw [List.append_assoc]
  refine List.Perm.append_left _ ?_
  rw [List.singleton_append]
  clear ys
  induction xs generalizing n with
  | nil => simp at h
  | cons y xs ih =>
    cases n with
    | zero => cases h; exact List.Perm.refl _
    | succ n => exact (List.Perm.swap _ _ _).trans ((ih (by simpa using h)).cons y)
theorem map_erase {α β : Type} (f : α → β) : ∀ {xs : List α} (n : Nat), (xs.map f).eraseIdx n = (xs.eraseIdx n).map f := by
  intro xs
  induction xs with
  | nil => intro n; rfl
  | cons x xs ih =>
    intro n
    cases n with
    | zero => rfl
    | succ n => exact congrArg (f x :: ·) (ih n)
abbrev sp_L_order (K : PySem.W.Frag) : Sp := spR K 2 F_L_order
theorem ok_L_order {P : Program} {w : World} {K : PySem.W.Frag} {mg : Str → Option Value} {base : Heap} (T : Txt K mg w) : Ok P w K mg base CX0 3 (He.ga K "_law_order") ["_law_row", "_law_many"] (sp_L_order K) := by
  obtain ⟨fd, F⟩ := T.f_L_order
  obtain ⟨fd_L_taken, G_L_taken, b_L_taken⟩ := ok_L_taken (P := P) (w := w) (base := base) T
  refine ⟨fd, F.ok sc_L_order (fun vs H Q E h => len_R h) (fun cdv A outer s H vs Q E hr h => ⟨_, PSs.nox
      (pss_cons (ps_set (i := 2) sc_L_order.nd rfl (by first | exact Or.inl rfl | exact Or.inr rfl) (pe_listRg rfl (by rfl) T.n_list (prg_1 (by rfl) T.n_range (pv 1))))
      (pss_cons (ps_set (i := 3) sc_L_order.nd rfl (by first | exact Or.inl rfl | exact Or.inr rfl) (pe_lst pa_nil))
      (pss_cons (ps_while PassesOwn.never (pt_cmpR (z_neD (K := K) rfl hr.units) (pv 2) (pe_lst pa_nil) (nomark _)) (pss_one (ps_expr (z_bm (K := K) rfl PySem.F.plainAttrs_list PySem.F.slot_list_append PySem.F.type_list_append mt_append (pv 3) (pa_cons (z_bm (K := K) rfl PySem.F.plainAttrs_list PySem.F.slot_list_pop PySem.F.type_list_pop mt_popAt (pv 2) (pa_cons (pe_call G_L_taken (hr.mono (by first | decide | omega)) rfl T.g__law_taken T.k__law_taken b_L_taken .nil pass0 (pa_cons (pv 0) (pa_cons (pe_callB (z_len (K := K) rfl) (by rfl) T.n_len (by decide +kernel) (pa_cons (pv 2) pa_nil)) pa_nil))) pa_nil)) pa_nil)))))
      (pss_one (ps_ret (pv 3)))))), ?read⟩), F.bindsN fun _ _ _ _ _ _ us hl => match us, hl with | [_, _], _ => rfl⟩
  case read =>
    refine run_R (K := K) (XE := E0) 2 (fun i => if i = 3 then .ow else if i = 2 then .ow else .fr) _ h (match vs, len_R h with | [_, _], _ => rfl) rfl rfl ?_
    clear h
    rintro xs P ⟨n, rfl, h0, h1, hP⟩
    walk_at "dd"
    rw [rng_ord]
    refine ⟨h0, by omega, flats_ord _, ?_⟩
    refine dWhile_of (fun k ρ' => ∃ left found : List Nat, ρ' = [.row, .sh (.int n), .ow (ordD left), .ow (ordD found)] ∧ left.length = k ∧ (found ++ left).Perm (List.range n.toNat)) n.toNat ⟨List.range n.toNat, [], rfl, by simp, List.Perm.refl _⟩ ?_
    rintro k ρ' ⟨left, found, rfl, hk, hp⟩
    have hlen := hp.length_eq
    rw [List.length_append, List.length_range] at hlen
    walk_at "dd"
    cases left with
    | nil =>
      rw [if_neg (by decide)]
      rw [List.append_nil] at hp
      exact hP found hp
    | cons z zs =>
      rw [if_pos (show (z :: zs).isEmpty = false from rfl), List.length_map]
      refine ⟨by rw [List.length_cons]; omega, fun v hv0 hv1 => ?_⟩
      rw [List.length_cons] at hv1 hlen
      have hvl : v.toNat < (z :: zs).length := by rw [List.length_cons]; omega
      have hx := List.getElem?_eq_getElem hvl
      generalize (z :: zs)[v.toNat] = x at hx
      refine ⟨hv0, by omega, by rw [List.length_map]; omega, .int x, by rw [List.getElem?_map, hx]; rfl, zs.length, by rw [← hk, List.length_cons]; omega, (z :: zs).eraseIdx v.toNat, map_erase _ _, found ++ [x], by rw [List.map_append]; rfl, ?_, (perm_move hx).trans hp⟩
      rw [List.length_eraseIdx, if_pos hvl, List.length_cons]
      omega
end Bk

/-! How a law is run by data. -/
namespace Bk
open PySem L2
/-- the law's own things, told by data; the row of draws at r -/
theorem run_L {K : PySem.W.Frag} {t : TS} {ds : DS} {H : Hp} {Q : VK} {σ : L2.St} {r : Addr} (kd : Nat → Kd) (N : Ends) (ρ : List Sl) (hr : RowOk K H r) (hrt : N.rt = Q) (hQ : ∀ H', Q (.bl true) H') (he : EnvS K (some r) H (fun a => if a = r then some 0 else none) H 0 σ ρ) [b : OkS K E0 t ds]
    (h : ds ⟨kd, fun _ => False, fun d => d = .bl true, fun _ => False, fun _ => False, fun _ => False⟩ ρ) : t N σ H := by
  obtain ⟨xs, hx⟩ := row_at hr
  refine b.ok (ro := some r) (H0 := H) (γ := []) (w := fun a => if a = r then some 0 else none) ⟨fun a n c => ?_, fun a n c => ?_, fun r' c => ?_, Ext.refl, he, fun p hp => absurd hp (by simp)⟩ ⟨fun _ _ _ _ _ z => False.elim z, fun _ _ _ _ _ z => False.elim z, fun _ _ _ _ _ z => False.elim z, fun d v H' hp x r' => ?_, fun _ _ _ _ z => False.elim z⟩ h
  · by_cases e : a = r
    · rw [e, hx]; intro c; cases c
    · rw [if_neg e] at c; cases c
  · by_cases e : a = r
    · rw [if_pos e] at c; cases c
    · rw [if_neg e] at c; cases c
  · cases c
    exact ⟨if_pos rfl, hr, by rw [hx]; intro c; cases c⟩
  · subst hp
    obtain rfl := r'
    rw [hrt]
    exact hQ H'
theorem law_start {K : PySem.W.Frag} {t : TS} {N : Ends} {s0 : Addr} {ns : List Int} {l : L2.St} {H : Hp} (hs : Scr K H s0 ns) (h : ∀ r H', RowOk K H' r → t N (some (.ref s0) :: some (.ref r) :: l) H') : tSeq (tAsg (tLst (tCons (tVar 0) (tCons (tC (.int 0)) (tCons (tC (.int 0)) tNil)))) (gName 1)) t N (some (.ref s0) :: none :: l) H := by
  refine ⟨.ref s0, rfl, sz_of (show 3 ≤ 100000 by decide), fun r nr => h r _ ⟨s0, ns, 0, 0, upd_same, ?_, by omega, by omega, by omega⟩⟩
  rcases hs with ⟨ob, h⟩ | h
  · exact .inl ⟨ob, Same.new nr _ _ h⟩
  · exact .inr h
end Bk

/-! alike, by data. -/
namespace Bk
open PySem L2
def F_L_alike (ds : List D) (P : D → Prop) : Prop := ∃ x, ds = [x, x] ∧ plainD x = true ∧ okD (toP x) = true ∧ (toP x).depth < 8 ∧ P (.bl true)
instance {K : PySem.W.Frag} : SpD K (sp_L_alike K) F_L_alike := ⟨fun {ds P vs H Q E} hr hF hQ => by
  obtain ⟨x, rfl, h1, h2, h3, hP⟩ := hF
  obtain ⟨v1, _, rfl, r1, v2, _, rfl, r2, rfl⟩ := hr
  exact ⟨v1, v2, toP x, rfl, R.dp _ _ h1 r1, R.dp _ _ h1 r2, h2, h3, fun H' S => hQ _ _ _ hP S rfl⟩⟩
end Bk

/-! Plain words of the table. -/
namespace Bk
open PySem L2
theorem W3.s_eq (a b : W3) : (a.s = b.s) = (a = b) := propext ⟨W3.inj, fun h => by rw [h]⟩
theorem filter_isEmpty {α : Type} (p : α → Bool) (l : List α) : (l.filter p).isEmpty = !l.any p := by
  induction l with
  | nil => rfl
  | cons x l ih =>
    rw [List.any_cons]
    by_cases c : p x = true
    · rw [List.filter_cons_of_pos c, c]; rfl
    · rw [List.filter_cons_of_neg c, ih, (by simpa using c : p x = false)]; rfl
theorem selA_snoc {as : List AskS} {os : List Nat} {o : Nat} {a : AskS} (h : as[o]? = some a) : selA as (os ++ [o]) = selA as os ++ [a] := by
  unfold selA
  rw [List.filterMap_append]
  simp [h]
theorem selA_len {as : List AskS} : ∀ {os : List Nat}, (∀ o ∈ os, o < as.length) → (selA as os).length = os.length
  | [], _ => rfl
  | o :: os, h => by
    have ho := List.getElem?_eq_getElem (h o List.mem_cons_self)
    show (List.filterMap _ (o :: os)).length = _
    rw [List.filterMap_cons_some ho, List.length_cons, List.length_cons]
    exact congrArg (· + 1) (selA_len fun x hx => h x (List.mem_cons_of_mem _ hx))
theorem RulesS.ok.times {R : RulesS} (h : R.ok) : RTimes R := ⟨h.1, h.2.1, by have := h.2.2 R.g (by simp [RulesS.ts]); omega, by have := h.2.2 R.w (by simp [RulesS.ts]); omega⟩
end Bk

/-! The law's own spot. -/
namespace Bk
open PySem L2
/-- deeds by their beats -/
def dicPl (pl : List (Int × Dx)) : List (Key × D) := pl.map fun y => (Sum.inl y.1, y.2.d)
theorem look_pl (pl : List (Int × Dx)) (b : Int) : (lookD (dicPl pl) (.inl b)).isSome = busyB pl b := by
  induction pl with
  | nil => rfl
  | cons y pl ih =>
    show (if (Sum.inl y.1 : Key) = .inl b then some y.2.d else lookD (dicPl pl) (.inl b)).isSome = (decide (y.1 = b) || busyB pl b)
    by_cases c : y.1 = b
    · rw [if_pos (by rw [c]), decide_eq_true c]; rfl
    · rw [if_neg (fun z => c (Sum.inl.inj z)), decide_eq_false c, ih]; rfl
def F_L_spot (ds : List D) (P : D → Prop) : Prop := ∃ (pl : List (Int × Dx)) (beat time : Int) (w : W3), ds = [.dic (dicPl pl), .int beat, .str w.s, .int time] ∧ (pl.map (·.1)).Nodup ∧ pl.length ≤ 1000 ∧ 0 ≤ time ∧ P (.int (firstAt pl beat w time))
abbrev sp_L_spot (K : PySem.W.Frag) : Sp := spD K 4 F_L_spot
theorem ok_L_spot {P : Program} {w : World} {K : PySem.W.Frag} {mg : Str → Option Value} {base : Heap} (T : Txt K mg w) : Ok P w K mg base CX0 1 (He.ga K "_law_spot") ["_law_deeds", "_law_beat", "_law_word", "_law_time"] (sp_L_spot K) := by
  obtain ⟨fd, F⟩ := T.f_L_spot
  refine ⟨fd, F.ok sc_L_spot (fun vs H Q E h => len_D h) (fun cdv A outer s H vs Q E hr h => ⟨_, PSs.nox
      (pss_cons (ps_lock (ps_setLc (i := 4) (own := [("_law_one", 5)]) (by rfl) sc_L_spot.nd rfl rfl (sw_true rfl rfl rfl (by decide +kernel)) (pi_keys (pv 0)) (blkOk_by (own := [("_law_one", 5)]) (N := ["_law_deeds", "_law_beat", "_law_word", "_law_time", "_law_near", "_law_one"]) (sc := defScope s_L_spot) (by decide +kernel)) (fun _ _ _ _ _ => (pg_name (i := 5) sc_L_spot.nd rfl (by first | exact Or.inl rfl | exact Or.inr rfl))) (fun _ _ _ _ _ => (pts_one (pt_cmpR op_eq (pe_ix (z_ixT (K := K) rfl) (pe_dget (hu_of hr) (pv 0) (pv 5) (fun _ _ => rfl)) pe_int (fun _ _ => rfl)) (pv 2) (nomark _)))) (fun _ _ _ _ _ => (pv 5))))
      (pss_cons (ps_while PassesOwn.never (PW.pt (pw_or (pt_cmp (pc_din (hu_of hr) (pv 1) (pv 0))) (pw_or1 (pt_cmpR (z_neD (K := K) rfl hr.units) (pe_lc (own := [("_law_one", 5)]) (by rfl) sc_L_spot.nd (z_iL (K := K) rfl (pv 4)) (blkOk_by (own := [("_law_one", 5)]) (N := ["_law_deeds", "_law_beat", "_law_word", "_law_time", "_law_near", "_law_one"]) (sc := defScope s_L_spot) (by decide +kernel)) (fun _ _ _ _ _ => (pg_name (i := 5) sc_L_spot.nd rfl (by first | exact Or.inl rfl | exact Or.inr rfl))) (fun _ _ _ _ _ => (pts_one (pt_cmpR op_lt (pe_callB call_absN (by rfl) T.n_abs (by decide +kernel) (pa_cons (pe_op op_sub (pv 5) (pv 1)) pa_nil)) (pv 3) (nomark _)))) (fun _ _ _ _ _ => (pv 5))) (pe_lst pa_nil) (nomark _))))) (pss_one (ps_set (i := 1) sc_L_spot.nd rfl (by first | exact Or.inl rfl | exact Or.inr rfl) (pe_op op_add (pv 1) pe_int))))
      (pss_one (ps_ret (pv 1))))), ?read⟩), F.bindsN fun _ _ _ _ _ _ us hl => match us, hl with | [_, _, _, _], _ => rfl⟩
  case read =>
    refine run_D (K := K) (XE := E0) 2 (fun i => .fr) _ h (match vs, len_D h with | [_, _, _, _], _ => rfl) rfl rfl ?_
    clear h
    rintro xs P ⟨pl, beat, time, w, rfl, hnd, hl, ht, hP⟩
    walk_at "dd"
    refine ⟨pl.map fun y => (y.1, y.2.w.s, D.int y.2.k :: y.2.r.map D.int), by unfold dicPl; rw [List.map_map]; rfl, by rw [List.length_map]; exact hl, by rw [List.map_map]; exact hnd, ?_⟩
    obtain ⟨near, hnr⟩ : ∃ near : List Int, near = (pl.filter fun y => decide (y.2.w = w)).map (·.1) := ⟨_, rfl⟩
    have hn : List.map (fun e => D.int e.1) (List.filter (fun e => decide (e.2.1 = w.s)) (pl.map fun y => (y.1, y.2.w.s, D.int y.2.k :: y.2.r.map D.int))) = near.map D.int := by
      rw [hnr, List.filter_map, List.map_map, List.map_map]
      have : ((fun e : Int × Str × List D => decide (e.2.1 = w.s)) ∘ fun y : Int × Dx => (y.1, y.2.w.s, D.int y.2.k :: y.2.r.map D.int)) = fun y => decide (y.2.w = w) := by
        funext y
        show decide (y.2.w.s = w.s) = _
        rw [Bool.eq_iff_iff, decide_eq_true_iff, decide_eq_true_iff, W3.s_eq]
      rw [this]
      rfl
    rw [hn]
    have hnear : ∀ v, (near.any fun c => decide (absI (c - v) < time)) = nearB pl v w time := fun v => by
      rw [hnr, List.any_map, List.any_filter]
      rfl
    have hnl : near.length ≤ 1000 := by
      rw [hnr, List.length_map]
      exact Nat.le_trans (List.length_filter_le _ _) hl
    clear hnr hn
    obtain ⟨f1, f2, f3⟩ := firstAt_is (pl := pl) (b := beat) (w := w) ht
    generalize firstAt pl beat w time = V at hP f1 f2 f3
    refine dWhile_of (fun n ρ' => ∃ (v : Int) (s1 s5 : Sl), ρ' = [.sh (.dic (dicPl pl)), s1, .sh (.str w.s), .sh (.int time), .fr (.lst (near.map D.int)), s5] ∧ (s1 = .sh (.int v) ∨ s1 = .fr (.int v)) ∧ beat ≤ v ∧ v ≤ V ∧ n = (V - v).toNat) (V - beat).toNat ⟨beat, _, _, rfl, .inl rfl, Int.le_refl _, f1, rfl⟩ ?_
    rintro n ρ' ⟨v, s1, s5, rfl, hs1, hv0, hv1, rfl⟩
    have nxt : freeB pl v w time = false → ∃ k, k < (V - v).toNat ∧ beat ≤ v + 1 ∧ v + 1 ≤ V ∧ k = (V - (v + 1)).toNat := fun c => by
      have ne : v ≠ V := fun e => by rw [e, f2] at c; cases c
      exact ⟨_, by omega, by omega, by omega, rfl⟩
    rcases hs1 with rfl | rfl
    · walk_at "dd"
      rw [look_pl]
      by_cases c1 : busyB pl v = true
      · rw [if_pos c1]
        exact nxt (by unfold freeB; rw [c1]; rfl)
      · rw [if_neg c1]
        refine dLc_of near D.int true (fun c => decide (absI (c - v) < time)) D.int (by omega) (fun P hP => by walk_at "dd" <;> exact hP) (fun a _ Y N hY => ?_) ?_
        · walk_at "dd"
          by_cases c2 : absI (a - v) < time
          · rw [if_pos (show (if a - v < 0 then -(a - v) else a - v) < time from c2)]
            rw [decide_eq_true c2] at hY
            exact hY
          · rw [if_neg (show ¬ (if a - v < 0 then -(a - v) else a - v) < time from c2)]
            rw [decide_eq_false c2] at hY
            exact hY
        · refine ⟨shp_ints _, ?_⟩
          rw [eqv_nilD, List.isEmpty_map, filter_isEmpty, hnear v]
          have c1' : busyB pl v = false := (Bool.not_eq_true _).mp c1
          by_cases c2 : nearB pl v w time = true
          · rw [if_pos (by rw [c2]; rfl)]
            exact nxt (by unfold freeB; rw [c2, Bool.and_comm]; rfl)
          · rw [if_neg (by rw [(Bool.not_eq_true _).mp c2]; decide)]
            have c2' : nearB pl v w time = false := (Bool.not_eq_true _).mp c2
            have fr : freeB pl v w time = true := by unfold freeB; rw [c1', c2']; rfl
            by_cases e : v = V
            · rw [e]; exact hP
            · have := f3 v hv0 (by omega)
              rw [fr] at this; cases this
    · walk_at "dd"
      rw [look_pl]
      by_cases c1 : busyB pl v = true
      · rw [if_pos c1]
        exact nxt (by unfold freeB; rw [c1]; rfl)
      · rw [if_neg c1]
        refine dLc_of near D.int true (fun c => decide (absI (c - v) < time)) D.int (by omega) (fun P hP => by walk_at "dd" <;> exact hP) (fun a _ Y N hY => ?_) ?_
        · walk_at "dd"
          by_cases c2 : absI (a - v) < time
          · rw [if_pos (show (if a - v < 0 then -(a - v) else a - v) < time from c2)]
            rw [decide_eq_true c2] at hY
            exact hY
          · rw [if_neg (show ¬ (if a - v < 0 then -(a - v) else a - v) < time from c2)]
            rw [decide_eq_false c2] at hY
            exact hY
        · refine ⟨shp_ints _, ?_⟩
          rw [eqv_nilD, List.isEmpty_map, filter_isEmpty, hnear v]
          have c1' : busyB pl v = false := (Bool.not_eq_true _).mp c1
          by_cases c2 : nearB pl v w time = true
          · rw [if_pos (by rw [c2]; rfl)]
            exact nxt (by unfold freeB; rw [c2, Bool.and_comm]; rfl)
          · rw [if_neg (by rw [(Bool.not_eq_true _).mp c2]; decide)]
            have c2' : nearB pl v w time = false := (Bool.not_eq_true _).mp c2
            have fr : freeB pl v w time = true := by unfold freeB; rw [c1', c2']; rfl
            by_cases e : v = V
            · rw [e]; exact hP
            · have := f3 v hv0 (by omega)
              rw [fr] at this; cases this
end Bk

/-! The law's own placing. -/
namespace Bk
open PySem L2
theorem look_drop (es : List (Key × D)) (k k' : Key) : lookD (dropD es k) k' = if k = k' then none else lookD es k' := by
  induction es with
  | nil => show none = _; split <;> rfl
  | cons e es ih =>
    obtain ⟨q, d⟩ := e
    show lookD (if q = k then dropD es k else (q, d) :: dropD es k) k' = _
    by_cases c : q = k
    · rw [if_pos c, ih]
      by_cases e : k = k'
      · rw [if_pos e, if_pos e]
      · rw [if_neg e, if_neg e]
        show _ = if q = k' then some d else lookD es k'
        rw [if_neg (by rw [c]; exact e)]
    · rw [if_neg c]
      show (if q = k' then some d else lookD (dropD es k) k') = if k = k' then none else if q = k' then some d else lookD es k'
      rw [ih]
      by_cases e : q = k'
      · rw [if_pos e, if_pos e, if_neg (fun z => c (by rw [e, z]))]
      · rw [if_neg e, if_neg e]
theorem drop_len (es : List (Key × D)) (k : Key) : (dropD es k).length ≤ es.length := by
  induction es with
  | nil => exact Nat.le_refl _
  | cons e es ih =>
    obtain ⟨q, d⟩ := e
    show (if q = k then dropD es k else (q, d) :: dropD es k).length ≤ _
    split
    · rw [List.length_cons]; omega
    · rw [List.length_cons, List.length_cons]; omega
theorem put_pl {pl : List (Int × Dx)} {b : Int} (h : b ∉ pl.map (·.1)) (x : Dx) : putD (dicPl pl) (.inl b) x.d = dicPl (pl ++ [(b, x)]) := by
  induction pl with
  | nil => rfl
  | cons y pl ih =>
    have h1 : ¬ (Sum.inl y.1 : Key) = .inl b := fun c => h (by rw [← Sum.inl.inj c]; exact List.mem_cons_self)
    show (if (Sum.inl y.1 : Key) = .inl b then _ else _) = _
    rw [if_neg h1]
    have := ih (fun c => h (List.mem_cons_of_mem _ c))
    unfold dicPl at this
    rw [this]
    rfl
def F_L_placed (ds : List D) (P : D → Prop) : Prop := ∃ (R : RulesS) (as : List AskS) (os : List Nat) (xo : D), ds = [rulesT R.b R.ts, asksD as, xo] ∧ (xo = ordD os ∨ xo = tupD os) ∧ R.ok ∧ (∀ a ∈ as, askOk R.b a = true) ∧ (∀ o ∈ os, o < as.length) ∧ as.length ≤ 100 ∧ os.length ≤ 100 ∧ P (.tup [.dic (dicPl (tabOf R (selA as os)).pl), .lst ((tabOf R (selA as os)).es.map D.int)])
/-- a bank's row as the law keeps it -/
def rowD (y : BankS) : Option D := match y.row with
  | none => none
  | some r => some (.tup [.int r, .int (y.opened.getD 0), .int (y.touched.getD 0)])
structure StD (s : TabS) (es sh : List (Key × D)) : Prop where
  st : ∀ (k : Nat) (y : BankS), s.bs[k]? = some y → lookD es (.inl (k : Int)) = rowD y
  sh : ∀ (k : Nat) (y : BankS), s.bs[k]? = some y → lookD sh (.inl (k : Int)) = y.shut.map D.int
theorem StD.step {s : TabS} {es sh es' sh' : List (Key × D)} (h : StD s es sh) {n : Nat} {y' : BankS} {pl : List (Int × Dx)} {ee : List Int} (h1 : lookD es' (.inl (n : Int)) = rowD y') (h2 : lookD sh' (.inl (n : Int)) = y'.shut.map D.int) (h3 : ∀ k : Int, k ≠ n → lookD es' (.inl k) = lookD es (.inl k)) (h4 : ∀ k : Int, k ≠ n → lookD sh' (.inl k) = lookD sh (.inl k)) : StD ⟨s.bs.set n y', pl, ee⟩ es' sh' := by
  have key : ∀ (k : Nat) (y : BankS), (s.bs.set n y')[k]? = some y → (k = n ∧ y = y') ∨ (k ≠ n ∧ s.bs[k]? = some y) := fun k y hy => by
    by_cases c : n = k
    · subst c
      have hl := (List.getElem?_eq_some_iff.mp hy).1
      rw [List.length_set] at hl
      rw [List.getElem?_set_self hl] at hy
      cases hy
      exact .inl ⟨rfl, rfl⟩
    · rw [List.getElem?_set_ne c] at hy
      exact .inr ⟨Ne.symm c, hy⟩
  refine ⟨fun k y hy => ?_, fun k y hy => ?_⟩
  · rcases key k y hy with ⟨rfl, rfl⟩ | ⟨c, hy⟩
    · exact h1
    · rw [h3 _ (by omega)]; exact h.st k y hy
  · rcases key k y hy with ⟨rfl, rfl⟩ | ⟨c, hy⟩
    · exact h2
    · rw [h4 _ (by omega)]; exact h.sh k y hy
/-- the touch, by the law -/
theorem touch_part {R : RulesS} {s : TabS} {a : AskS} {y : BankS} {s1 : PB} {o1 T0 : Int} {es sh es1 sh1 : List (Key × D)} {i : Nat} (hs1 : s1 = placeRow R a (s.pl, y)) (ho : s1.2.opened = some o1) (hT : T0 = s1.2.touched.getD 0) (hk : 0 ≤ a.k) (h0 : 0 ≤ a.t) (hw : 0 ≤ R.w) (hnd : (s1.1.map (·.1)).Nodup) (hl : s1.1.length ≤ 900) (hel : s.es.length ≤ 900)
    (hS : StD s es sh) (f1 : ∀ k : Int, k ≠ a.k → lookD es1 (.inl k) = lookD es (.inl k)) (f2 : ∀ k : Int, k ≠ a.k → lookD sh1 (.inl k) = lookD sh (.inl k)) (f3 : lookD sh1 (.inl a.k) = s1.2.shut.map D.int) (l1 : es1.length ≤ 2 * i + 1) (l2 : sh1.length ≤ i + 1) (hi : i ≤ 100) :
    F_L_spot [D.dic (dicPl s1.1), D.int (if o1 + R.o > a.t then o1 + R.o else a.t), D.str "touch", D.int R.w] fun d => ∃ k, d = keyD k ∧ (dicPl s1.1).length < 100000 ∧ ∃ i_1, d = D.int i_1 ∧ es1.length < 100000 ∧ (List.map D.int s.es).length < 100000 ∧
      putD (dicPl s1.1) k (D.tup [D.str "touch", D.int a.k]) = dicPl (placeB R a (s.pl, y)).fst ∧ List.map D.int s.es ++ [d] = List.map D.int (s.es ++ [endB R a (s.pl, y)]) ∧
      StD { bs := s.bs.set a.k.toNat (placeB R a (s.pl, y)).snd, pl := (placeB R a (s.pl, y)).fst, es := s.es ++ [endB R a (s.pl, y)] } (putD es1 (Sum.inl a.k) (D.tup [D.int a.row, D.int o1, D.int (if T0 > i_1 then T0 else i_1)])) sh1 ∧
      (putD es1 (Sum.inl a.k) (D.tup [D.int a.row, D.int o1, D.int (if T0 > i_1 then T0 else i_1)])).length ≤ 2 * (i + 1) ∧ sh1.length ≤ i + 1 := by
  rw [show (if o1 + R.o > a.t then o1 + R.o else a.t) = max a.t (o1 + R.o) by split <;> omega]
  have hB : firstAt s1.1 (max a.t (o1 + R.o)) .to R.w = touchBeat R s1.1 s1.2 a.t := by unfold touchBeat; rw [ho]; rfl
  have hge : a.t ≤ touchBeat R s1.1 s1.2 a.t := by
    have := (firstAt_is (pl := s1.1) (b := max a.t (o1 + R.o)) (w := .to) hw).1
    rw [hB] at this
    omega
  have hnew := first_new (pl := s1.1) (b := max a.t (o1 + R.o)) (w := .to) hw
  rw [hB] at hnew
  refine ⟨s1.1, max a.t (o1 + R.o), R.w, .to, rfl, hnd, by omega, hw, ?_⟩
  rw [hB]
  have hend : endB R a (s.pl, y) = touchBeat R s1.1 s1.2 a.t := by unfold endB; rw [← hs1]
  have hpb : placeB R a (s.pl, y) = (s1.1 ++ [(touchBeat R s1.1 s1.2 a.t, ⟨.to, a.k, []⟩)], ⟨s1.2.row, s1.2.opened, some (maxO (touchBeat R s1.1 s1.2 a.t) s1.2.touched), s1.2.shut⟩) := by unfold placeB placeTouch; rw [← hs1]
  have hrow : s1.2.row = some a.row := by rw [hs1]; exact placeRow_row R a _
  refine ⟨.inl _, rfl, by unfold dicPl; rw [List.length_map]; omega, _, rfl, by omega, by rw [List.length_map]; omega, ?_, by rw [hend, List.map_append]; rfl, ?_, ?_, l2⟩
  · rw [hpb, show D.tup [D.str "touch", D.int a.k] = (⟨.to, a.k, []⟩ : Dx).d from rfl, put_pl hnew]
  · have hk' : ((a.k.toNat : Nat) : Int) = a.k := by omega
    refine hS.step ?_ ?_ (fun k hk2 => ?_) (fun k hk2 => ?_)
    · rw [hk', look_put, if_pos rfl, hpb]
      unfold rowD
      dsimp only
      rw [hrow, ho]
      dsimp only
      have ht : (if T0 > touchBeat R s1.1 s1.2 a.t then T0 else touchBeat R s1.1 s1.2 a.t) = maxO (touchBeat R s1.1 s1.2 a.t) s1.2.touched := by
        rw [hT]
        cases s1.2.touched with
        | none => show (if (0 : Int) > _ then (0 : Int) else _) = _; rw [if_neg (by omega)]; rfl
        | some t => show (if t > _ then t else _) = max _ t; split <;> omega
      rw [ht]
      rfl
    · rw [hk', f3, hpb]
    · rw [hk'] at hk2
      rw [look_put, if_neg (fun c => hk2 (Sum.inl.inj c).symm), f1 k hk2]
    · rw [hk'] at hk2
      exact f2 k hk2
  · have := put_len es1 (.inl a.k) (D.tup [D.int a.row, D.int o1, D.int (if T0 > touchBeat R s1.1 s1.2 a.t then T0 else touchBeat R s1.1 s1.2 a.t)])
    omega
abbrev sp_L_placed (K : PySem.W.Frag) : Sp := spD K 3 F_L_placed
theorem ok_L_placed {P : Program} {w : World} {K : PySem.W.Frag} {mg : Str → Option Value} {base : Heap} (T : Txt K mg w) : Ok P w K mg base CX0 2 (He.ga K "_law_placed") ["_law_rules_here", "_law_asks_here", "_law_order_here"] (sp_L_placed K) := by
  obtain ⟨fd, F⟩ := T.f_L_placed
  obtain ⟨fd_L_spot, G_L_spot, b_L_spot⟩ := ok_L_spot (P := P) (w := w) (base := base) T
  refine ⟨fd, F.ok sc_L_placed (fun vs H Q E h => len_D h) (fun cdv A outer s H vs Q E hr h => ⟨_, PSs.nox
      (pss_cons (ps_asg (pe_ix (z_ixT (K := K) rfl) (pv 0) pe_int (fun _ _ => rfl)) (z_gtup (K := K) (n := 6) rfl (by rfl) (pgs_cons (pg_name (i := 3) sc_L_placed.nd rfl (by first | exact Or.inl rfl | exact Or.inr rfl)) (pgs_cons (pg_name (i := 4) sc_L_placed.nd rfl (by first | exact Or.inl rfl | exact Or.inr rfl)) (pgs_cons (pg_name (i := 5) sc_L_placed.nd rfl (by first | exact Or.inl rfl | exact Or.inr rfl)) (pgs_cons (pg_name (i := 6) sc_L_placed.nd rfl (by first | exact Or.inl rfl | exact Or.inr rfl)) (pgs_cons (pg_name (i := 7) sc_L_placed.nd rfl (by first | exact Or.inl rfl | exact Or.inr rfl)) (pgs_cons (pg_name (i := 8) sc_L_placed.nd rfl (by first | exact Or.inl rfl | exact Or.inr rfl)) pgs_nil))))))))
      (pss_cons (ps_set (i := 9) sc_L_placed.nd rfl (by first | exact Or.inl rfl | exact Or.inr rfl) pe_dnewK)
      (pss_cons (ps_set (i := 10) sc_L_placed.nd rfl (by first | exact Or.inl rfl | exact Or.inr rfl) pe_dnewK)
      (pss_cons (ps_set (i := 11) sc_L_placed.nd rfl (by first | exact Or.inl rfl | exact Or.inr rfl) pe_dnewK)
      (pss_cons (ps_set (i := 12) sc_L_placed.nd rfl (by first | exact Or.inl rfl | exact Or.inr rfl) (pe_lst pa_nil))
      (pss_cons (ps_for PassesOwn.never rfl (z_iLT (K := K) rfl (pv 2)) (pg_name (i := 13) sc_L_placed.nd rfl (by first | exact Or.inl rfl | exact Or.inr rfl)) (pss_cons (ps_asg (pe_ix (z_ixL (K := K) rfl) (pv 1) (pv 13) (fun _ _ => rfl)) (z_gtup (K := K) (n := 3) rfl (by rfl) (pgs_cons (pg_name (i := 14) sc_L_placed.nd rfl (by first | exact Or.inl rfl | exact Or.inr rfl)) (pgs_cons (pg_name (i := 15) sc_L_placed.nd rfl (by first | exact Or.inl rfl | exact Or.inr rfl)) (pgs_cons (pg_name (i := 16) sc_L_placed.nd rfl (by first | exact Or.inl rfl | exact Or.inr rfl)) pgs_nil)))))
      (pss_cons (ps_if (PW.pt (pw_and (pt_cmp (pc_din (hu_of hr) (pv 14) (pv 10))) (pw_and1 (pt_cmpR op_ne (pe_ix (z_ixT (K := K) rfl) (pe_dget (hu_of hr) (pv 10) (pv 14) (fun _ _ => rfl)) pe_int (fun _ _ => rfl)) (pv 15) (nomark _))))) (pss_cons (ps_asg (pe_dpop1 (pv 10) (pv 14) ⟨rfl, rfl, rfl, rfl⟩) (z_gtup (K := K) (n := 3) rfl (by rfl) (pgs_cons (pg_name (i := 17) sc_L_placed.nd rfl (by first | exact Or.inl rfl | exact Or.inr rfl)) (pgs_cons (pg_name (i := 18) sc_L_placed.nd rfl (by first | exact Or.inl rfl | exact Or.inr rfl)) (pgs_cons (pg_name (i := 19) sc_L_placed.nd rfl (by first | exact Or.inl rfl | exact Or.inr rfl)) pgs_nil)))))
      (pss_cons (ps_dput (hu_of hr) (pv 11) (pv 14) (pe_call G_L_spot (hr.mono (by first | decide | omega)) rfl T.g__law_spot T.k__law_spot b_L_spot .nil pass0 (pa_cons (pv 9) (pa_cons (pe_callB (call_max3I rfl) (by rfl) T.n_max (by decide +kernel) (pa_cons (pv 16) (pa_cons (pe_op op_add (pv 18) (pv 5)) (pa_cons (pe_op op_add (pv 19) (pv 4)) pa_nil)))) (pa_cons pe_str (pa_cons pe_int pa_nil))))) rfl)
      (pss_one (ps_dput (hu_of hr) (pv 9) (pe_dget (hu_of hr) (pv 11) (pv 14) (fun _ _ => rfl)) (pe_tup (pa_cons pe_str (pa_cons (pv 14) pa_nil))) rfl)))) pss_nil)
      (pss_cons (ps_if (pt_cmp (pc_dnotin (hu_of hr) (pv 14) (pv 10))) (pss_cons (ps_set (i := 18) sc_L_placed.nd rfl (by first | exact Or.inl rfl | exact Or.inr rfl) (pe_call G_L_spot (hr.mono (by first | decide | omega)) rfl T.g__law_spot T.k__law_spot b_L_spot .nil pass0 (pa_cons (pv 9) (pa_cons (pe_callB (call_max2N rfl) (by rfl) T.n_max (by decide +kernel) (pa_cons (pv 16) (pa_cons (pe_op op_add (pe_dget2 (hu_of hr) (pv 11) (pv 14) (pe_op op_sub pe_int pe_int) ⟨rfl, rfl, rfl, rfl⟩) (pv 6)) pa_nil))) (pa_cons pe_str (pa_cons (pv 8) pa_nil))))))
      (pss_cons (ps_dput (hu_of hr) (pv 9) (pv 18) (pe_tup (pa_cons pe_str (pa_cons (pv 14) (pa_cons (pv 15) pa_nil)))) rfl)
      (pss_one (ps_dput (hu_of hr) (pv 10) (pv 14) (pe_tup (pa_cons (pv 15) (pa_cons (pv 18) (pa_cons pe_int pa_nil)))) rfl)))) pss_nil)
      (pss_cons (ps_asg (pe_dget (hu_of hr) (pv 10) (pv 14) (fun _ _ => rfl)) (z_gtup (K := K) (n := 3) rfl (by rfl) (pgs_cons (pg_name (i := 17) sc_L_placed.nd rfl (by first | exact Or.inl rfl | exact Or.inr rfl)) (pgs_cons (pg_name (i := 18) sc_L_placed.nd rfl (by first | exact Or.inl rfl | exact Or.inr rfl)) (pgs_cons (pg_name (i := 19) sc_L_placed.nd rfl (by first | exact Or.inl rfl | exact Or.inr rfl)) pgs_nil)))))
      (pss_cons (ps_set (i := 20) sc_L_placed.nd rfl (by first | exact Or.inl rfl | exact Or.inr rfl) (pe_call G_L_spot (hr.mono (by first | decide | omega)) rfl T.g__law_spot T.k__law_spot b_L_spot .nil pass0 (pa_cons (pv 9) (pa_cons (pe_callB (call_max2N rfl) (by rfl) T.n_max (by decide +kernel) (pa_cons (pv 16) (pa_cons (pe_op op_add (pv 18) (pv 3)) pa_nil))) (pa_cons pe_str (pa_cons (pv 7) pa_nil))))))
      (pss_cons (ps_dput (hu_of hr) (pv 9) (pv 20) (pe_tup (pa_cons pe_str (pa_cons (pv 14) pa_nil))) rfl)
      (pss_cons (ps_dput (hu_of hr) (pv 10) (pv 14) (pe_tup (pa_cons (pv 15) (pa_cons (pv 18) (pa_cons (pe_callB (call_max2N rfl) (by rfl) T.n_max (by decide +kernel) (pa_cons (pv 20) (pa_cons (pv 19) pa_nil))) pa_nil)))) rfl)
      (pss_one (ps_expr (z_bm (K := K) rfl PySem.F.plainAttrs_list PySem.F.slot_list_append PySem.F.type_list_append mt_append (pv 12) (pa_cons (pv 20) pa_nil))))))))))))
      (pss_one (ps_ret (pe_tup (pa_cons (pv 9) (pa_cons (pv 12) pa_nil))))))))))), ?read⟩), F.bindsN fun _ _ _ _ _ _ us hl => match us, hl with | [_, _, _], _ => rfl⟩
  case read =>
    refine run_D (K := K) (XE := E0) 18 (fun i => if i = 12 then .ow else if i = 11 then .ow else if i = 10 then .ow else if i = 9 then .ow else .fr) _ h (match vs, len_D h with | [_, _, _], _ => rfl) rfl rfl ?_
    clear h
    rintro xs P ⟨R, as, os, xo, rfl, hxo, hok, has, hos, hal, hol, hP⟩
    walk_at "dd"
    have htm := hok.times
    have hts := hok.2.2
    refine dFor_of .sh (.inl rfl) (os.map fun (o : Nat) => D.int o) (fun P hP => by walk_at "dd"; rcases hxo with q | q <;> rw [q]; exact .inl ⟨_, rfl, hP⟩; exact .inr ⟨_, rfl, hP⟩) (fun i ρ' => ∃ (es sh : List (Key × D)) (s13 s14 s15 s16 s17 s18 s19 s20 : Sl), ρ' = [.sh (.tup [.int R.b, .tup [.int R.o, .int R.h, .int R.k, .int R.r, .int R.w, .int R.g]]), .sh (asksD as), .sh xo, .fr (.int R.o), .fr (.int R.h), .fr (.int R.k), .fr (.int R.r), .fr (.int R.w), .fr (.int R.g), .ow (.dic (dicPl (tabOf R (selA as (os.take i))).pl)), .ow (.dic es), .ow (.dic sh), .ow (.lst ((tabOf R (selA as (os.take i))).es.map D.int)), s13, s14, s15, s16, s17, s18, s19, s20] ∧ StD (tabOf R (selA as (os.take i))) es sh ∧ es.length ≤ 2 * i ∧ sh.length ≤ i) ⟨[], [], _, _, _, _, _, _, _, _, rfl, ⟨fun k y hy => ?_, fun k y hy => ?_⟩, Nat.le_refl _, Nat.le_refl _⟩ ?_ ?_
    · have e := List.eq_of_mem_replicate (List.mem_of_getElem? hy)
      subst e
      rfl
    · have e := List.eq_of_mem_replicate (List.mem_of_getElem? hy)
      subst e
      rfl
    · rintro i x ρ' hx ⟨es, sh, s13, s14, s15, s16, s17, s18, s19, s20, rfl, hS, hel, hsl⟩
      obtain ⟨o, ho, rfl⟩ := map_at hx
      have hlt := hos o (List.mem_of_getElem? ho)
      have hao := List.getElem?_eq_getElem hlt
      have haok := has _ (List.getElem_mem hlt)
      generalize as[o] = a at hao haok
      have hi' : i < os.length := (List.getElem?_eq_some_iff.mp ho).1
      have hsel : selA as (os.take (i + 1)) = selA as (os.take i) ++ [a] := by rw [List.take_add_one, ho]; exact selA_snoc hao
      obtain ⟨h1, h2, h3, h4, h5, h6⟩ := askOk_iff.mp haok
      obtain ⟨y, hy, hyok, hpl⟩ := place_bank (tabOf_ok R (selA as (os.take i))) haok
      have hnd := (tabOf_nd htm.2.2.1 htm.2.2.2 (selA as (os.take i))).nd
      have hlen := tabOf_len R (selA as (os.take i))
      have hsl2 : (selA as (os.take i)).length ≤ 100 := by
        rw [selA_len (fun x hx => hos x (List.mem_of_mem_take hx)), List.length_take]
        omega
      have hes := hS.st _ _ hy
      have hsh := hS.sh _ _ hy
      rw [show ((a.k.toNat : Nat) : Int) = a.k by omega] at hes hsh
      rw [hsel, tabOf_snoc, hpl]
      generalize tabOf R (selA as (os.take i)) = s at *
      have hat : atI as (o : Int) = some a := atI_nat hao
      walk_at "dd"
      rw [hat]
      walk_at "dd"
      rw [hes]
      cases hyr : y.row with
      | none =>
        have hr : rowD y = none := by unfold rowD; rw [hyr]
        rw [hr, if_neg (show ¬ (none : Option D).isSome = true by decide), if_pos (show (none : Option D).isSome = false from rfl)]
        refine ⟨⟨_, rfl⟩, y.shut.getD (-9), by rw [hsh]; cases y.shut <;> rfl, ?_⟩
        rw [show (if y.shut.getD (-9) + R.r > a.t then y.shut.getD (-9) + R.r else a.t) = openFrom R y a.t by
          have := hts R.r (by simp [RulesS.ts])
          unfold openFrom
          cases y.shut with
          | none => show (if (-9 : Int) + R.r > a.t then _ else _) = a.t; rw [if_neg (by omega)]
          | some i => show (if i + R.r > a.t then i + R.r else a.t) = max a.t (i + R.r); split <;> omega]
        refine ⟨s.pl, openFrom R y a.t, R.g, .op, rfl, hnd, by omega, htm.2.2.1, .inl _, rfl, by unfold dicPl; rw [List.length_map]; omega, by omega, ?_⟩
        rw [look_put, if_pos rfl]
        refine ⟨_, rfl, _, rfl, rfl, ?_⟩
        have hob := first_new (pl := s.pl) (b := openFrom R y a.t) (w := .op) htm.2.2.1
        rw [show D.tup [D.str "open", D.int a.k, D.int a.row] = (⟨.op, a.k, [a.row]⟩ : Dx).d from rfl, put_pl hob]
        have hnd1 := nd_snoc (y := (firstAt s.pl (openFrom R y a.t) .op R.g, (⟨.op, a.k, [a.row]⟩ : Dx))) hnd hob
        walk_at "dd"
        refine touch_part (s1 := placeOpen R a.k a.row a.t (s.pl, y)) (es := es) (sh := sh) ?_ rfl rfl h1 h5 htm.2.2.2 hnd1 ?_ (by omega) hS (fun k hk => by rw [look_put, if_neg (fun c => hk (Sum.inl.inj c).symm)]) (fun _ _ => rfl) hsh ?_ (by omega) (by omega)
        · unfold placeRow
          rw [if_neg (by show ¬ y.row = some a.row; rw [hyr]; intro c; cases c)]
          congr 1
          rw [if_neg (by show ¬ y.row.isSome = true; rw [hyr]; decide)]
        · show (s.pl ++ [_]).length ≤ 900
          rw [List.length_append]
          simp only [List.length_cons, List.length_nil]
          omega
        · have := put_len es (.inl a.k) (D.tup [D.int a.row, D.int (firstAt s.pl (openFrom R y a.t) .op R.g), D.int 0])
          omega
      | some r =>
        have hyk := hyok (by rw [hyr]; rfl)
        obtain ⟨o1, ho1⟩ := Option.isSome_iff_exists.mp hyk.1
        obtain ⟨T1, hT1⟩ := Option.isSome_iff_exists.mp hyk.2
        have hr : rowD y = some (.tup [.int r, .int o1, .int T1]) := by unfold rowD; rw [hyr, ho1, hT1]; rfl
        by_cases c : r = a.row
        · rw [hr, if_pos (show (some (D.tup [.int r, .int o1, .int T1])).isSome = true from rfl)]
          refine ⟨_, rfl, _, rfl, _, atI_0 _ _, _, rfl, ?_⟩
          rw [decide_eq_true c, if_neg (by decide)]
          rw [if_neg (show ¬ (some (D.tup [.int r, .int o1, .int T1])).isSome = false from fun z => by cases z)]
          refine ⟨_, rfl, _, rfl, rfl, ?_⟩
          walk_at "dd"
          refine touch_part (s1 := (s.pl, y)) (es := es) (sh := sh) ?_ ho1 (by rw [hT1]; rfl) h1 h5 htm.2.2.2 hnd (by show s.pl.length ≤ 900; omega) (by omega) hS (fun _ _ => rfl) (fun _ _ => rfl) hsh (by omega) (by omega) (by omega)
          unfold placeRow
          rw [if_pos (by show y.row = some a.row; rw [hyr, c])]
        · rw [hr, if_pos (show (some (D.tup [.int r, .int o1, .int T1])).isSome = true from rfl)]
          refine ⟨_, rfl, _, rfl, _, atI_0 _ _, _, rfl, ?_⟩
          rw [decide_eq_false c, if_pos rfl]
          refine ⟨_, rfl, rfl, _, rfl, rfl, ?_⟩
          walk_at "dd"
          have hSB : firstAt s.pl (max (max a.t (o1 + R.k)) (T1 + R.h)) .sh 0 = shutBeat R s.pl y a.t := by unfold shutBeat; rw [ho1, hT1]; rfl
          have hsb := first_new (pl := s.pl) (b := max (max a.t (o1 + R.k)) (T1 + R.h)) (w := .sh) (Int.le_refl 0)
          refine ⟨s.pl, _, 0, .sh, rfl, hnd, by omega, Int.le_refl _, by omega, ?_⟩
          rw [look_put, if_pos rfl]
          refine ⟨_, rfl, .inl _, rfl, by unfold dicPl; rw [List.length_map]; omega, ?_⟩
          rw [look_drop, if_pos rfl, if_pos (show (none : Option D).isSome = false from rfl)]
          refine ⟨⟨_, rfl⟩, firstAt s.pl (max (max a.t (o1 + R.k)) (T1 + R.h)) .sh 0, rfl, ?_⟩
          rw [show D.tup [D.str "shut", D.int a.k] = (⟨.sh, a.k, []⟩ : Dx).d from rfl, put_pl hsb]
          have hnd0 := nd_snoc (y := (firstAt s.pl (max (max a.t (o1 + R.k)) (T1 + R.h)) .sh 0, (⟨.sh, a.k, []⟩ : Dx))) hnd hsb
          rw [hSB] at hnd0 ⊢
          have hof : (if shutBeat R s.pl y a.t + R.r > a.t then shutBeat R s.pl y a.t + R.r else a.t) = openFrom R (placeShut R a.k a.t (s.pl, y)).2 a.t := by
            show _ = max a.t (shutBeat R s.pl y a.t + R.r)
            split <;> omega
          rw [hof]
          have hl0 : (s.pl ++ [(shutBeat R s.pl y a.t, (⟨.sh, a.k, []⟩ : Dx))]).length = s.pl.length + 1 := by rw [List.length_append]; rfl
          have hdl := drop_len es (.inl a.k)
          refine ⟨s.pl ++ [(shutBeat R s.pl y a.t, ⟨.sh, a.k, []⟩)], _, R.g, .op, rfl, hnd0, by omega, htm.2.2.1, .inl _, rfl, by unfold dicPl; rw [List.length_map]; omega, by omega, ?_⟩
          rw [look_put, if_pos rfl]
          refine ⟨_, rfl, _, rfl, rfl, ?_⟩
          have hob := first_new (pl := s.pl ++ [(shutBeat R s.pl y a.t, (⟨.sh, a.k, []⟩ : Dx))]) (b := openFrom R (placeShut R a.k a.t (s.pl, y)).2 a.t) (w := .op) htm.2.2.1
          rw [show D.tup [D.str "open", D.int a.k, D.int a.row] = (⟨.op, a.k, [a.row]⟩ : Dx).d from rfl, put_pl hob]
          have hnd1 := nd_snoc (y := (firstAt (s.pl ++ [(shutBeat R s.pl y a.t, (⟨.sh, a.k, []⟩ : Dx))]) (openFrom R (placeShut R a.k a.t (s.pl, y)).2 a.t) .op R.g, (⟨.op, a.k, [a.row]⟩ : Dx))) hnd0 hob
          walk_at "dd"
          refine touch_part (s1 := placeOpen R a.k a.row a.t (placeShut R a.k a.t (s.pl, y))) (es := es) (sh := sh) ?_ rfl rfl h1 h5 htm.2.2.2 hnd1 ?_ (by omega) hS (fun k hk => by rw [look_put, if_neg (fun c => hk (Sum.inl.inj c).symm), look_drop, if_neg (fun c => hk (Sum.inl.inj c).symm)]) (fun k hk => by rw [look_put, if_neg (fun c => hk (Sum.inl.inj c).symm)]) (by rw [look_put, if_pos rfl]; rfl) ?_ ?_ (by omega)
          · unfold placeRow
            rw [if_neg (by show ¬ y.row = some a.row; rw [hyr]; exact fun z => c (Option.some.inj z))]
            congr 1
            rw [if_pos (by show y.row.isSome = true; rw [hyr]; rfl)]
          · show ((s.pl ++ [_]) ++ [_]).length ≤ 900
            rw [List.length_append, List.length_append]
            simp only [List.length_cons, List.length_nil]
            omega
          · have := put_len (dropD es (.inl a.k)) (.inl a.k) (D.tup [D.int a.row, D.int (firstAt (s.pl ++ [(shutBeat R s.pl y a.t, (⟨.sh, a.k, []⟩ : Dx))]) (openFrom R (placeShut R a.k a.t (s.pl, y)).2 a.t) .op R.g), D.int 0])
            omega
          · have := put_len sh (.inl a.k) (.int (shutBeat R s.pl y a.t))
            omega
    · rintro ρ' ⟨es, sh, s13, s14, s15, s16, s17, s18, s19, s20, rfl, hS, hel, hsl⟩
      rw [List.length_map, List.take_length]
      walk_at "dd"
      exact hP
end Bk

/-! The deeds of a placed plan are such as rows can tell. -/
namespace Bk
open PySem L2 TL
def Sm (y : Int × Dx) : Prop := 0 ≤ y.1 ∧ Small y.2.k ∧ (∀ r ∈ y.2.r, Small r) ∧ y.2.r.length ≤ 1
theorem placeB_sm {R : RulesS} {a : AskS} (hr : RTimes R) (ha : askOk R.b a = true) {s : PB} (h : ∀ y ∈ s.1, Sm y) : ∀ y ∈ (placeB R a s).1, Sm y := by
  obtain ⟨k0, k1, r0, r1, t0, t1⟩ := askOk_iff.mp ha
  obtain ⟨_, hb, hg, hw⟩ := hr
  have sk : Small a.k := ⟨k0, by omega⟩
  have sr : Small a.row := ⟨r0, by omega⟩
  have sh : ∀ s : PB, 0 ≤ shutBeat R s.1 s.2 a.t := fun s => by
    have := (firstAt_is (pl := s.1) (b := max (max a.t (s.2.opened.getD 0 + R.k)) (s.2.touched.getD 0 + R.h)) (w := .sh) (Int.le_refl 0)).1
    unfold shutBeat
    omega
  have op : ∀ s : PB, 0 ≤ openBeat R s.1 s.2 a.t := fun s => by
    have := (firstAt_is (pl := s.1) (b := openFrom R s.2 a.t) (w := .op) hg).1
    have h2 : 0 ≤ openFrom R s.2 a.t := by
      unfold openFrom
      split <;> omega
    unfold openBeat
    omega
  have to : ∀ s : PB, 0 ≤ touchBeat R s.1 s.2 a.t := fun s => by
    have := (firstAt_is (pl := s.1) (b := max a.t (s.2.opened.getD 0 + R.o)) (w := .to) hw).1
    unfold touchBeat
    omega
  have put : ∀ (pl : List (Int × Dx)) (z : Int × Dx), (∀ y ∈ pl, Sm y) → Sm z → ∀ y ∈ pl ++ [z], Sm y := fun pl z h hz y hy => by
    rcases List.mem_append.mp hy with q | q
    · exact h y q
    · rw [List.mem_singleton.mp q]; exact hz
  have hrow : ∀ y ∈ (placeRow R a s).1, Sm y := by
    have one : ∀ r ∈ [a.row], Small r := fun r hm => by rw [List.mem_singleton.mp hm]; exact sr
    unfold placeRow
    split
    · exact h
    · split
      · exact put _ _ (put _ _ h ⟨sh s, sk, (fun r hm => by cases hm), Nat.zero_le _⟩) ⟨op _, sk, one, Nat.le_refl _⟩
      · exact put _ _ h ⟨op _, sk, one, Nat.le_refl _⟩
  exact put _ _ hrow ⟨to _, sk, (fun r hm => by cases hm), Nat.zero_le _⟩
theorem tabOf_sm {R : RulesS} (hr : RTimes R) (as : List AskS) (has : ∀ a ∈ as, askOk R.b a = true) : ∀ y ∈ (tabOf R as).pl, Sm y := by
  refine tab_ind (C := fun _ s => ∀ y ∈ s.pl, Sm y) (fun y h => by cases h) (fun as a s hx ok ih => ?_) as has
  have ha := hx a (by simp)
  obtain ⟨y, _, _, e⟩ := place_bank ok ha
  rw [e]
  exact placeB_sm hr ha (s := (s.pl, y)) ih
theorem selA_in {as : List AskS} {os : List Nat} {a : AskS} (h : a ∈ selA as os) : a ∈ as := by
  obtain ⟨o, _, q⟩ := List.mem_filterMap.mp h
  exact List.mem_of_getElem? q
theorem plan_rows {R : RulesS} (hok : R.ok) {as : List AskS} (has : ∀ a ∈ as, askOk R.b a = true) {os : List Nat} (ho : ∀ o ∈ os, o < as.length) (hol : os.length ≤ 5) : (∀ y ∈ sortPl (tabOf R (selA as os)).pl, RowOk10 y) ∧ (sortPl (tabOf R (selA as os)).pl).length ≤ 15 := by
  have hsel : ∀ a ∈ selA as os, askOk R.b a = true := fun a ha => has a (selA_in ha)
  have hsl := selA_len ho
  have hbd := tab_bd hok (selA as os) hsel
  have hsm := tabOf_sm hok.times (selA as os) hsel
  have hln := (tabOf_len R (selA as os)).1
  rw [hsl] at hbd hln
  refine ⟨fun y hy => ?_, by rw [(sortPl_perm _).length_eq]; omega⟩
  have hy' := (sortPl_perm _).mem_iff.mp hy
  obtain ⟨h1, h2, h3, h4⟩ := hsm y hy'
  exact ⟨⟨h1, by have := hbd.pl y hy'; omega⟩, h2, h3, h4⟩
end Bk

/-! The law's own plan. -/
namespace Bk
open PySem L2
theorem look_mem {pl : List (Int × Dx)} (hnd : (pl.map (·.1)).Nodup) {y : Int × Dx} (hy : y ∈ pl) : lookD (dicPl pl) (.inl y.1) = some y.2.d := by
  induction pl with
  | nil => cases hy
  | cons x pl ih =>
    obtain ⟨h1, h2⟩ := List.nodup_cons.mp hnd
    show (if (Sum.inl x.1 : Key) = .inl y.1 then some x.2.d else lookD (dicPl pl) (.inl y.1)) = _
    rcases List.mem_cons.mp hy with q | q
    · rw [q, if_pos rfl]
    · rw [if_neg (fun c => h1 (List.mem_map.mpr ⟨y, q, (Sum.inl.inj c).symm⟩))]
      exact ih h2 q
def F_L_plan (ds : List D) (P : D → Prop) : Prop := ∃ (R : RulesS) (as : List AskS) (os : List Nat), ds = [rulesT R.b R.ts, asksD as, ordD os] ∧ R.ok ∧ (∀ a ∈ as, askOk R.b a = true) ∧ (∀ o ∈ os, o < as.length) ∧ as.length ≤ 10 ∧ os.length ≤ 10 ∧ P (planD (sortPl (tabOf R (selA as os)).pl))
abbrev sp_L_plan (K : PySem.W.Frag) : Sp := spD K 3 F_L_plan
theorem ok_L_plan {P : Program} {w : World} {K : PySem.W.Frag} {mg : Str → Option Value} {base : Heap} (T : Txt K mg w) : Ok P w K mg base CX0 3 (He.ga K "_law_plan") ["_law_rules_here", "_law_asks_here", "_law_order_here"] (sp_L_plan K) := by
  obtain ⟨fd, F⟩ := T.f_L_plan
  obtain ⟨fd_L_placed, G_L_placed, b_L_placed⟩ := ok_L_placed (P := P) (w := w) (base := base) T
  refine ⟨fd, F.ok sc_L_plan (fun vs H Q E h => len_D h) (fun cdv A outer s H vs Q E hr h => ⟨_, PSs.nox
      (pss_cons (ps_set (i := 3) sc_L_plan.nd rfl (by first | exact Or.inl rfl | exact Or.inr rfl) (pe_ix (z_ixT (K := K) rfl) (pe_call G_L_placed (hr.mono (by first | decide | omega)) rfl T.g__law_placed T.k__law_placed b_L_placed .nil pass0 (pa_cons (pv 0) (pa_cons (pv 1) (pa_cons (pv 2) pa_nil)))) pe_int (fun _ _ => rfl)))
      (pss_one (ps_ret (pe_lc (own := [("_law_beat", 4)]) (tt := tYes) (by rfl) sc_L_plan.nd (z_iL (K := K) rfl (pe_callB (z_sortedD rfl) (by rfl) T.n_sorted (by decide +kernel) (pa_cons (pv 3) pa_nil))) (blkOk_by (own := [("_law_beat", 4)]) (N := ["_law_rules_here", "_law_asks_here", "_law_order_here", "_law_deeds", "_law_beat"]) (sc := defScope s_L_plan) (by decide +kernel)) (fun _ _ _ _ _ => (pg_name (i := 4) sc_L_plan.nd rfl (by first | exact Or.inl rfl | exact Or.inr rfl))) (fun _ _ _ _ _ => pts_nil) (fun _ _ _ _ _ => (pe_tup (pa_cons (pv 4) (pa_cons (pe_dget (hu_of hr) (pv 3) (pv 4) (fun _ _ => rfl)) pa_nil)))))))), ?read⟩), F.bindsN fun _ _ _ _ _ _ us hl => match us, hl with | [_, _, _], _ => rfl⟩
  case read =>
    refine run_D (K := K) (XE := E0) 2 (fun i => .fr) _ h (match vs, len_D h with | [_, _, _], _ => rfl) rfl rfl ?_
    clear h
    rintro xs P ⟨R, as, os, rfl, hok, has, hos, hal, hol, hP⟩
    walk_at "dd"
    have htm := hok.times
    have hnd := (tabOf_nd htm.2.2.1 htm.2.2.2 (selA as os)).nd
    have hln := (tabOf_len R (selA as os)).1
    rw [selA_len hos] at hln
    refine ⟨R, as, os, _, rfl, .inl rfl, hok, has, hos, by omega, by omega, _, rfl, _, atI_0 _ _, ?_⟩
    generalize (tabOf R (selA as os)).es = es
    generalize (tabOf R (selA as os)).pl = pl at *
    have hsl : (sortPl pl).length = pl.length := (sortPl_perm pl).length_eq
    refine dLc_map (sortPl pl) (fun y => D.int y.1) true itD (by omega) (fun P hP => ?_) (fun y hy Y N hY => ?_) ?_
    · walk_at "dd"
      refine ⟨pl.map (·.1), by unfold dicPl; rw [List.map_map, List.map_map]; rfl, by rw [List.length_map]; omega, fun ys hp hs => ?_⟩
      have e : ys = (sortPl pl).map (·.1) := sorted_uniq (hp.trans ((sortPl_perm pl).map _).symm) hs (List.pairwise_map.mpr (sortPl_le pl))
      rw [e, List.map_map]
      exact hP
    · walk_at "dd"
      rw [look_mem hnd ((sortPl_perm pl).mem_iff.mp hy)]
      exact ⟨_, rfl, hY⟩
    · exact ⟨rfl, hP⟩
end Bk

/-! written, and the law's own text. -/
namespace Bk
open PySem L2 TL
theorem numS_e (i : Int) : Str.ofString (toString i) = numS i := rfl
theorem cat_row (y : Int × Dx) : numS y.1 ++ Str.ofString " " ++ Txt.join " " (y.2.w.s :: numS y.2.k :: y.2.r.map numS) = rowT y := by
  unfold rowT wordsT
  rw [join_eq, join_eq]
  show _ = numS y.1 ++ " " ++ Str.join " " (y.2.w.s :: numS y.2.k :: y.2.r.map numS)
  rfl
theorem sum_le {ws : List Str} {m : Nat} (h : ∀ z ∈ ws, z.length ≤ m) : (ws.map (·.length)).sum ≤ ws.length * m := by
  induction ws with
  | nil => exact Nat.zero_le _
  | cons w ws ih =>
    rw [List.map_cons, List.sum_cons, List.length_cons, Nat.succ_mul]
    have h1 := h w List.mem_cons_self
    have h2 := ih fun z hz => h z (List.mem_cons_of_mem _ hz)
    omega
def F_L_text (ds : List D) (P : D → Prop) : Prop := ∃ pl : List (Int × Dx), ds = [planD pl] ∧ (∀ y ∈ pl, RowOk10 y) ∧ pl.length ≤ 1000 ∧ P (.str (textOf pl))
abbrev sp_L_text (K : PySem.W.Frag) : Sp := spD K 1 F_L_text
theorem ok_L_text {P : Program} {w : World} {K : PySem.W.Frag} {mg : Str → Option Value} {base : Heap} (T : Txt K mg w) : Ok P w K mg base CX0 1 (He.ga K "_law_text") ["_law_plan_here"] (sp_L_text K) := by
  obtain ⟨fd, F⟩ := T.f_L_text
  refine ⟨fd, F.ok sc_L_text (fun vs H Q E h => len_D h) (fun cdv A outer s H vs Q E hr h => ⟨_, PSs.nox
      (pss_cons (ps_set (i := 1) sc_L_text.nd rfl (by first | exact Or.inl rfl | exact Or.inr rfl) (pe_lst pa_nil))
      (pss_cons (ps_for PassesOwn.never rfl (z_iL (K := K) rfl (pv 0)) (z_gtup (K := K) (n := 2) rfl (by rfl) (pgs_cons (pg_name (i := 2) sc_L_text.nd rfl (by first | exact Or.inl rfl | exact Or.inr rfl)) (pgs_cons (pg_name (i := 3) sc_L_text.nd rfl (by first | exact Or.inl rfl | exact Or.inr rfl)) pgs_nil))) (pss_one (ps_expr (z_bm (K := K) rfl PySem.F.plainAttrs_list PySem.F.slot_list_append PySem.F.type_list_append mt_append (pv 1) (pa_cons (pe_op op_addSN (pe_op op_addSN (pe_callTy call_strN (by rfl) T.n_str (by decide +kernel) (pa_cons (pv 2) pa_nil)) pe_str) (z_join (K := K) rfl pe_str (pe_op op_cat (pe_lst (pa_cons (pe_ix (z_ixT (K := K) rfl) (pv 3) pe_int (fun _ _ => rfl)) pa_nil)) (pe_lc (own := [("_law_number_here", 4)]) (tt := tYes) (by rfl) sc_L_text.nd (z_iT (K := K) rfl (pe_slice (z_slT (K := K) rfl) (pv 3) (po_some pe_int) po_none)) (blkOk_by (own := [("_law_number_here", 4)]) (N := ["_law_plan_here", "_law_rows", "_law_beat", "_law_deed", "_law_number_here"]) (sc := defScope s_L_text) (by decide +kernel)) (fun _ _ _ _ _ => (pg_name (i := 4) sc_L_text.nd rfl (by first | exact Or.inl rfl | exact Or.inr rfl))) (fun _ _ _ _ _ => pts_nil) (fun _ _ _ _ _ => (pe_callTy call_strN (by rfl) T.n_str (by decide +kernel) (pa_cons (pv 4) pa_nil))))))) pa_nil)))))
      (pss_one (ps_ret (z_join (K := K) rfl pe_str (pv 1)))))), ?read⟩), F.bindsN fun _ _ _ _ _ _ us hl => match us, hl with | [_], _ => rfl⟩
  case read =>
    refine run_D (K := K) (XE := E0) 4 (fun i => if i = 1 then .ow else .fr) _ h (match vs, len_D h with | [_], _ => rfl) rfl rfl ?_
    clear h
    rintro xs P ⟨pl, rfl, hrow, hpl, hP⟩
    walk_at "dd"
    refine dFor_of .sh (.inl rfl) (pl.map itD) (fun P hP => by walk_at "dd"; exact hP) (fun j ρ' => ∃ s2 s3 s4, ρ' = [.sh (planD pl), .ow (.lst (((pl.take j).map rowT).map D.str)), s2, s3, s4]) ⟨_, _, _, rfl⟩ ?_ ?_
    · rintro j x ρ' hx ⟨s2, s3, s4, rfl⟩
      obtain ⟨y, hj, rfl⟩ := map_at hx
      have hy := hrow y (List.mem_of_getElem? hj)
      have hwo := words_ok hy
      have hjl := (List.getElem?_eq_some_iff.mp hj).1
      walk_at "dd"
      refine ⟨num_log hy.1, by have := (num_len hy.1).2; show (numS y.1).length + 1 ≤ 100000; omega, ?_⟩
      refine dLc_map (y.2.k :: y.2.r) D.int true (fun n => D.str (numS n)) (by have := hy.2.2.2; rw [List.length_cons]; omega) (fun P hP => ?_) (fun n hn Y N hY => ?_) ?_
      · walk_at "dd"
        rw [cutFrom _ (show (0 : Int) ≤ 1 by decide)]
        exact hP
      · have hs : Small n := by
          rcases List.mem_cons.mp hn with q | q
          · rw [q]; exact hy.2.1
          · exact hy.2.2.1 n q
        walk_at "dd"
        exact ⟨num_log hs, hY⟩
      · have hlen : (y.2.w.s :: numS y.2.k :: y.2.r.map numS).length ≤ 3 := by
          rw [List.length_cons, List.length_cons, List.length_map]
          have := hy.2.2.2
          omega
        have hm5 : ∀ z ∈ y.2.w.s :: numS y.2.k :: y.2.r.map numS, z.length ≤ 5 := fun z hz => (hwo z (List.mem_cons_of_mem _ hz)).2
        have hsum := sum_le hm5
        have hs15 : (y.2.w.s :: numS y.2.k :: y.2.r.map numS).length * 5 ≤ 15 := by omega
        have hrl := row_len hy
        rw [← cat_row, len_tl, tl_append, List.length_append, ← len_tl, ← len_tl] at hrl
        have hjn : (Str.ofString " ").length = 1 := rfl
        refine ⟨_, rfl, by rw [List.length_map, List.length_cons]; have := hy.2.2.2; omega, y.2.w.s :: numS y.2.k :: y.2.r.map numS, by rw [List.map_cons, List.map_cons, List.map_cons, List.map_map, ]; rfl, by rw [hjn]; omega, ?_, ?_, ?_, _, rfl⟩
        · show (numS y.1 ++ Str.ofString " ").length + _ ≤ 100000
          omega
        · rw [List.length_map, List.length_map, List.length_take]
          omega
        · rw [List.take_add_one, hj, List.map_append, List.map_append]
          show _ = _ ++ [D.str (rowT y)]
          rw [← cat_row]
          rfl
    · rintro ρ' ⟨s2, s3, s4, rfl⟩
      rw [List.length_map, List.take_length]
      walk_at "dd"
      have hm : ∀ z ∈ pl.map rowT, z.length ≤ 24 := fun z hz => by
        obtain ⟨y, hy, rfl⟩ := List.mem_map.mp hz
        exact row_len (hrow y hy)
      have hsum := sum_le hm
      rw [List.length_map] at hsum
      have hjn : (Str.ofString "\n").length = 1 := rfl
      exact ⟨pl.map rowT, rfl, by rw [hjn, List.length_map]; omega, hP⟩
end Bk

/-! Texts and what they tell, in plain words. -/
namespace Bk
open PySem L2 TL
def digs : List Nat := (Str.ofString "0123456789").cps.toList
theorem digs_iff (c : Nat) : c ∈ digs ↔ 48 ≤ c ∧ c ≤ 57 := by
  have e : digs = [48, 49, 50, 51, 52, 53, 54, 55, 56, 57] := by decide +kernel
  rw [e]
  simp only [List.mem_cons, List.not_mem_nil, or_false]
  omega
/-- a word that tells a number -/
def numOk (z : Str) : Bool := decide (1 ≤ z.length) && (decide (z.length ≤ 5) && (((tl z).all fun c => decide (c ∈ digs)) && !(decide ((tl z)[0]? = some 48) && decide (1 < z.length))))
def numV (z : Str) : Int := (PySem.intText? z).getD 0
theorem num_v {z : Str} (h : numOk z = true) : PySem.intText? z = some (numV z) ∧ 0 ≤ numV z := by
  unfold numOk at h
  rw [Bool.and_eq_true, Bool.and_eq_true, Bool.and_eq_true, decide_eq_true_iff, decide_eq_true_iff, List.all_eq_true] at h
  obtain ⟨h1, h2, h3, _⟩ := h
  have e := intText_digits (x := z) (fun c hc => (digs_iff c).mp (of_decide_eq_true (h3 c hc))) (fun c => by have := len_tl z; rw [show tl z = [] from c] at this; have h0 : z.length = 0 := this; omega) (by omega)
  unfold numV
  rw [e]
  exact ⟨rfl, Int.natCast_nonneg _⟩
/-- the words of a row that tells a deed -/
def rowOk : List Str → Bool
  | a :: w :: r => (match lenOf w with | some v => decide ((r.length : Int) + 1 = v) | none => false) && (numOk a && r.all numOk)
  | _ => false
theorem row_none {a w : Str} {r : List Str} (h : lenOf w = none) : rowOk (a :: w :: r) = false := by
  show ((match lenOf w with | some v => decide ((r.length : Int) + 1 = v) | none => false) && (numOk a && r.all numOk)) = false
  rw [h]
  rfl
theorem row_some {a w : Str} {r : List Str} {v : Int} (h : lenOf w = some v) : rowOk (a :: w :: r) = (decide ((r.length : Int) + 1 = v) && (numOk a && r.all numOk)) := by
  show ((match lenOf w with | some v => decide ((r.length : Int) + 1 = v) | none => false) && (numOk a && r.all numOk)) = _
  rw [h]
/-- what a good row is -/
theorem row_shape {ws : List Str} (h : rowOk ws = true) : ∃ a w k : Str, numOk k = true ∧ ((w ≠ "open" ∧ lenOf w = some 2 ∧ ws = [a, w, k]) ∨ ∃ r : Str, numOk r = true ∧ w = "open" ∧ ws = [a, w, k, r]) := by
  rcases ws with _ | ⟨a, _ | ⟨w, r⟩⟩
  · cases h
  · cases h
  · cases hl : lenOf w with
    | none => rw [row_none hl] at h; cases h
    | some v =>
      rw [row_some hl, Bool.and_eq_true, Bool.and_eq_true, decide_eq_true_iff] at h
      obtain ⟨h1, h2, h3⟩ := h
      rw [List.all_eq_true] at h3
      rcases lenOf_cases hl with ⟨rfl, rfl⟩ | ⟨ho, _, rfl⟩
      · match r, h1, h3 with
        | [k, q], _, h3 => exact ⟨a, _, k, h3 k List.mem_cons_self, .inr ⟨q, h3 q (by simp), rfl, rfl⟩⟩
        | [], h1, _ => simp at h1
        | [_], h1, _ => simp at h1
        | _ :: _ :: _ :: t, h1, _ => simp only [List.length_cons] at h1; omega
      · match r, h1, h3 with
        | [k], _, h3 => exact ⟨a, w, k, h3 k List.mem_cons_self, .inl ⟨ho, hl, rfl⟩⟩
        | [], h1, _ => simp at h1
        | _ :: _ :: t, h1, _ => simp only [List.length_cons] at h1; omega
def rowG : List Str → Int × Deed
  | a :: w :: r => (numV a, .mk w (r.map numV))
  | _ => (0, .nil)
def rowsOf (z : Str) : List (List Str) := if z = "" then [] else (Txt.split z "\n").map fun y => Txt.split y " "
/-- the first that is not so -/
def fstNo {α : Type} (p : α → Bool) : List α → Nat → Option Nat
  | [], _ => none
  | a :: l, n => if p a = true then fstNo p l (n + 1) else some n
theorem fst_none {α : Type} {p : α → Bool} : ∀ {l : List α} {n : Nat}, (∀ a ∈ l, p a = true) → fstNo p l n = none
  | [], _, _ => rfl
  | a :: l, n, h => by
    unfold fstNo
    rw [if_pos (h a List.mem_cons_self)]
    exact fst_none fun x hx => h x (List.mem_cons_of_mem _ hx)
theorem fst_at {α : Type} {p : α → Bool} : ∀ {l : List α} {n i : Nat} {a : α}, l[i]? = some a → p a = false → (∀ j b, j < i → l[j]? = some b → p b = true) → fstNo p l n = some (n + i)
  | [], _, _, _, h, _, _ => by cases h
  | x :: l, n, 0, a, h, ha, _ => by
    cases h
    unfold fstNo
    rw [if_neg (by rw [ha]; decide)]
    rfl
  | x :: l, n, i + 1, a, h, ha, hb => by
    unfold fstNo
    rw [if_pos (hb 0 x (Nat.succ_pos i) rfl), fst_at (i := i) (a := a) (n := n + 1) h ha fun j b hj hx => hb (j + 1) b (by omega) hx]
    congr 1
    omega
inductive Out where
  | text (i : Nat)
  | plan (i : Nat)
  | ok (pl : List (Int × Deed))
def outOf (b : Int) (rows : List (List Str)) : Out := match fstNo rowOk rows 0 with
  | some i => .text i
  | none => match fstNo (fun x => okDeed b x.2) (rows.map rowG) 0 with
    | some i => .plan i
    | none => .ok (rows.map rowG)
theorem out_text {b : Int} {rows : List (List Str)} {i : Nat} {ws : List Str} (h : rows[i]? = some ws) (hw : rowOk ws = false) (hb : ∀ j ws, j < i → rows[j]? = some ws → rowOk ws = true) : outOf b rows = .text i := by
  unfold outOf
  rw [fst_at h hw hb, Nat.zero_add]
theorem out_plan {b : Int} {rows : List (List Str)} {i : Nat} {x : Int × Deed} (hr : ∀ ws ∈ rows, rowOk ws = true) (h : (rows.map rowG)[i]? = some x) (hw : okDeed b x.2 = false) (hb : ∀ j y, j < i → (rows.map rowG)[j]? = some y → okDeed b y.2 = true) : outOf b rows = .plan i := by
  unfold outOf
  rw [fst_none hr]
  dsimp only
  rw [fst_at (p := fun x : Int × Deed => okDeed b x.2) h hw hb, Nat.zero_add]
theorem out_ok {b : Int} {rows : List (List Str)} (hr : ∀ ws ∈ rows, rowOk ws = true) (h : ∀ x ∈ rows.map rowG, okDeed b x.2 = true) : outOf b rows = .ok (rows.map rowG) := by
  unfold outOf
  rw [fst_none hr]
  dsimp only
  rw [fst_none (p := fun x : Int × Deed => okDeed b x.2) h]
def outD : Out → D
  | .text i => .tup [.str "text", .int i]
  | .plan i => .tup [.str "plan", .int i]
  | .ok pl => planG pl
/-! how long the parts of a text are -/
theorem spl_sum {s : Nat} : ∀ (l acc : List Nat), ((spl [s] 0 acc l).map (·.length)).sum + (spl [s] 0 acc l).length = acc.length + l.length + 1
  | [], acc => by rw [spl_nil]; rfl
  | c :: r, acc => by
    cases h : pre [s] (c :: r) with
    | true =>
      rw [spl_hit h]
      have ih := spl_sum (s := s) r []
      rw [show [s].length - 1 = 0 from rfl, List.map_cons, List.sum_cons, List.length_cons, List.length_cons]
      have e : ([] : List Nat).length = 0 := rfl
      omega
    | false =>
      rw [spl_miss h]
      have ih := spl_sum (s := s) r (acc ++ [c])
      rw [List.length_append] at ih
      rw [List.length_cons]
      have e : [c].length = 1 := rfl
      omega
theorem split_sum {z y : Str} {s : Nat} (ey : tl y = [s]) (hs : s < 256) : ((Txt.split z y).map (·.length)).sum + (Txt.split z y).length = z.length + 1 := by
  have h := split_spl z y (by rw [ey]; intro c; cases c) (kind_ok (by
    have : y.cps = #[s] := by rw [← Array.toArray_toList (xs := y.cps), show y.cps.toList = [s] from ey]
    rw [this]
    simp [hs]))
  rw [ey] at h
  have q := spl_sum (s := s) (tl z) []
  rw [← h, List.length_map, List.map_map, ← len_tl] at q
  have e : ((Txt.split z y).map ((·.length) ∘ tl)) = (Txt.split z y).map (·.length) := List.map_congr_left fun x _ => (len_tl x).symm
  rw [e] at q
  have e0 : ([] : List Nat).length = 0 := rfl
  omega
theorem split_ne {z y : Str} {s : Nat} (ey : tl y = [s]) (hs : s < 256) : 0 < (Txt.split z y).length := by
  rcases Nat.eq_zero_or_pos (Txt.split z y).length with q | q
  · have h := split_sum (z := z) ey hs
    rw [List.length_eq_zero_iff.mp q] at h
    have e : ((([] : List Str).map (·.length)).sum + ([] : List Str).length) = 0 := rfl
    omega
  · exact q
theorem le_sum {α : Type} {f : α → Nat} {l : List α} {a : α} (h : a ∈ l) : f a ≤ (l.map f).sum := by
  induction l with
  | nil => cases h
  | cons x l ih =>
    rw [List.map_cons, List.sum_cons]
    rcases List.mem_cons.mp h with rfl | h
    · omega
    · have := ih h
      omega
theorem split_part {z y p : Str} {s : Nat} (ey : tl y = [s]) (hs : s < 256) (h : p ∈ Txt.split z y) : p.length ≤ z.length := by
  have h1 := split_sum (z := z) ey hs
  have h2 := split_ne (z := z) ey hs
  have h3 := le_sum (f := fun x : Str => x.length) h
  omega
theorem join_len (y : Str) (parts : List Str) : (Txt.join y parts).length ≤ (parts.map (·.length)).sum + parts.length * y.length := by
  rw [join_eq, len_tl, tl_join]
  have key : ∀ ps : List (List Nat), (joinL (tl y) ps).length ≤ (ps.map (·.length)).sum + ps.length * y.length := by
    intro ps
    induction ps with
    | nil => exact Nat.zero_le _
    | cons p ps ih =>
      cases ps with
      | nil => show p.length ≤ _; rw [List.map_cons, List.sum_cons]; omega
      | cons q r =>
        show (p ++ (tl y ++ joinL (tl y) (q :: r))).length ≤ _
        rw [List.length_append, List.length_append, List.map_cons, List.sum_cons, List.length_cons, Nat.succ_mul, ← len_tl]
        omega
  have h := key (parts.map tl)
  rw [List.length_map, List.map_map] at h
  have e : (parts.map ((·.length) ∘ tl)) = parts.map (·.length) := List.map_congr_left fun x _ => (len_tl x).symm
  rwa [e] at h
theorem sum_ge {ls : List Str} {m : Nat} (h : ∀ y ∈ ls, m ≤ y.length) : m * ls.length ≤ (ls.map (·.length)).sum := by
  induction ls with
  | nil => exact Nat.le_refl _
  | cons y ls ih =>
    rw [List.map_cons, List.sum_cons, List.length_cons, Nat.mul_succ]
    have h1 := h y List.mem_cons_self
    have h2 := ih fun x hx => h x (List.mem_cons_of_mem _ hx)
    omega
theorem tl_nl : tl ("\n" : Str) = [10] := by decide +kernel
theorem tl_sp : tl (" " : Str) = [32] := by decide +kernel
end Bk

/-! A word's number. -/
namespace Bk
open PySem L2 TL
/-- a comprehension whose element raises for the first thing that is not good -/
theorem dLc_err {α : Type} {di : DI} {dg : DG} {dt : DT} {de : DE} {ws : List Nat} {ρ : List Sl} {m : Md} {er : Err → Prop} {P : D → Bool → Prop} (l : List α) (enc : α → D) (b : Bool) (good : α → Bool) (h : α → D) (hl : l.length ≤ 100000)
    (hdi : ∀ P : List D → Bool → Prop, P (l.map enc) b → di ρ m er P)
    (hx : ∀ a ∈ l, ∀ (Y : D → Bool → Prop) (N : Prop), (good a = true → Y (h a) true) → lcTurn dg dt de ws ρ m er (enc a) (b || flat (enc a)) Y N)
    (hP : (∀ a ∈ l, good a = true) → P (.lst (l.map h)) true) : dLc di dg dt de ws ρ m er P := by
  refine hdi _ ⟨by rw [List.length_map]; exact hl, ?_⟩
  have key : ∀ (l : List α) (acc : List D) (N : List D → Prop), (∀ a ∈ l, ∀ (Y : D → Bool → Prop) (N : Prop), (good a = true → Y (h a) true) → lcTurn dg dt de ws ρ m er (enc a) (b || flat (enc a)) Y N) → ((∀ a ∈ l, good a = true) → N (acc ++ l.map h)) → lcGo (lcTurn dg dt de ws ρ m er) b (l.map enc) acc N := by
    intro l
    induction l with
    | nil =>
      intro acc N _ hN
      have := hN fun a ha => by cases ha
      rw [List.map_nil, List.append_nil] at this
      exact this
    | cons a l ih =>
      intro acc N hx hN
      refine hx a List.mem_cons_self _ _ fun hg => ⟨rfl, ih _ _ (fun a' ha' => hx a' (List.mem_cons_of_mem _ ha')) fun hall => ?_⟩
      rw [List.append_assoc]
      exact hN fun x hx => by
        rcases List.mem_cons.mp hx with rfl | hx
        · exact hg
        · exact hall x hx
  exact key l [] _ hx fun hg => by rw [List.nil_append]; exact hP hg
/-- signs that there are -/
def Sane (z : Str) : Prop := ∀ c ∈ tl z, c < 1114112
theorem shp_chars {l : List Nat} (h : ∀ c ∈ l, c < 1114112) : shp (.lst (l.map fun (c : Nat) => D.str ⟨#[c]⟩)) = true := by
  refine shp_of (show plainDs (l.map fun (c : Nat) => D.str ⟨#[c]⟩) = true from plains_map (fun _ => rfl) l) ?_ ?_
  · show PyData.canLayAll0 (toPs (l.map fun (c : Nat) => D.str ⟨#[c]⟩)) = true
    induction l with
    | nil => rfl
    | cons c l ih =>
      show ((toP (D.str ⟨#[c]⟩)).canLay0 && PyData.canLayAll0 (toPs (l.map fun (c : Nat) => D.str ⟨#[c]⟩))) = true
      rw [ih fun x hx => h x (List.mem_cons_of_mem _ hx), Bool.and_true]
      show ((⟨#[c]⟩ : Str).cps.all (· < 1114112)) = true
      have := h c List.mem_cons_self
      simp [this]
  · show PyData.depthAll (toPs (l.map fun (c : Nat) => D.str ⟨#[c]⟩)) + 1 ≤ 64
    have := dep_map (f := fun (c : Nat) => D.str ⟨#[c]⟩) 0 (fun _ => Nat.le_refl _) l
    omega
theorem zero_of {z : Str} (h : (tl z)[0]? = some 48) (hl : ¬ 1 < z.length) : z = "0" := by
  refine ext_tl ?_
  rw [show tl ("0" : Str) = [48] by decide +kernel]
  rw [len_tl] at hl
  cases q : tl z with
  | nil => rw [q] at h; cases h
  | cons a l =>
    rw [q] at h hl
    have ha : a = 48 := Option.some.inj h
    cases l with
    | nil => rw [ha]
    | cons b r => exact absurd (show 1 < (a :: b :: r).length by rw [List.length_cons, List.length_cons]; omega) hl
theorem zero_len : ("0" : Str).length = 1 := by decide +kernel
theorem one_sign {a : Nat} : (⟨#[a]⟩ : Str) = Str.ofString "0" ↔ a = 48 := ⟨fun e => by
  have q := congrArg tl e
  have q2 : [a] = [48] := q
  exact (List.cons.inj q2).1, fun e => by rw [e]; rfl⟩
theorem head_at {z : Str} (h : 1 ≤ z.length) : ∃ a, (tl z)[0]? = some a ∧ atI z.cps.toList 0 = some a := by
  rw [len_tl] at h
  cases q : tl z with
  | nil => rw [q] at h; exact absurd h (by decide)
  | cons a l => exact ⟨a, rfl, atI_nat (j := 0) (by show (tl z)[0]? = some a; rw [q]; rfl)⟩
def F_number_of (ds : List D) (er : Err → Prop) (P : D → Prop) : Prop := ∃ (z : Str) (row : Int), ds = [.str z, .int row] ∧ z.length ≤ 20000 ∧ Sane z ∧ (numOk z = true → P (.int (numV z))) ∧ (numOk z = false → er (.num "BadText" "row" row))
abbrev sp_number_of (K : PySem.W.Frag) : Sp := spX K 2 F_number_of
theorem ok_number_of {P : Program} {w : World} {K : PySem.W.Frag} {mg : Str → Option Value} {base : Heap} (T : Txt K mg w) : Ok P w K mg base (L2.CX P w) 3 (He.ga K "number_of") ["word", "row"] (sp_number_of K) := by
  obtain ⟨fd, F⟩ := T.f_number_of
  obtain ⟨fd_BadText_init, G_BadText_init, b_BadText_init⟩ := ok_BadText_init (P := P) (w := w) (base := base) T
  obtain ⟨t_FIGURES, c_FIGURES⟩ := T.c_FIGURES
  obtain ⟨t_MOST_FIGURES, c_MOST_FIGURES⟩ := T.c_MOST_FIGURES
  refine ⟨fd, F.ok sc_number_of (fun vs H Q E h => len_X h) (fun cdv A outer s H vs Q E hr h => ⟨_, 
      (pss_cons (ps_if (PW.pt (pw_or (pt_not (pt_chain op_le op_le pe_int (pe_callB call_lenSN (by rfl) T.n_len (by decide +kernel) (pa_cons (pv 0) pa_nil)) (pe_glob (v := .int 5) rfl c_MOST_FIGURES ⟨_, rfl⟩))) (pw_or1 (pt_cmpR (z_neD (K := K) rfl hr.units) (pe_lc (own := [("sign", 2)]) (by rfl) sc_number_of.nd (pi_str (pv 0)) (blkOk_by (own := [("sign", 2)]) (N := ["word", "row", "sign"]) (sc := defScope s_number_of) (by decide +kernel)) (fun _ _ _ _ _ => (pg_name (i := 2) sc_number_of.nd rfl (by first | exact Or.inl rfl | exact Or.inr rfl))) (fun _ _ _ _ _ => (pts_one (pt_cmpR op_notInC (pv 2) (pe_glob (v := .str "0123456789") rfl c_FIGURES ⟨_, rfl⟩) rfl))) (fun _ _ _ _ _ => (pv 2))) (pe_lst pa_nil) (nomark _))))) (pss_one (z_raiseO (K := K) rfl rfl (takes_of rfl rfl rfl rfl) T.ox_BadText T.ii_BadText T.it_BadText G_BadText_init (hr.mono (by first | decide | omega)) b_BadText_init pass0 rfl T.g_BadText (pa_cons (pv 1) pa_nil))) pss_nil)
      (pss_cons (ps_if (PW.pt (pw_and (pt_cmpR op_eq (pe_ix ix_str (pv 0) pe_int (fun _ _ => rfl)) pe_str (nomark _)) (pw_and1 (pt_cmpR op_ne (pv 0) pe_str (nomark _))))) (pss_one (z_raiseO (K := K) rfl rfl (takes_of rfl rfl rfl rfl) T.ox_BadText T.ii_BadText T.it_BadText G_BadText_init (hr.mono (by first | decide | omega)) b_BadText_init pass0 rfl T.g_BadText (pa_cons (pv 1) pa_nil))) pss_nil)
      (pss_one (ps_ret (pe_callTy call_intS (by rfl) T.n_int (by decide +kernel) (pa_cons (pv 0) pa_nil)))))), ?read⟩), F.bindsN fun _ _ _ _ _ _ us hl => match us, hl with | [_, _], _ => rfl⟩
  case read =>
    refine run_X (K := K) (XE := E) 1 (fun i => .fr) _ h (match vs, len_X h with | [_, _], _ => rfl) rfl rfl ?_
    clear h
    rintro xs er P ⟨z, row, rfl, hz, hs, hP, hE⟩
    walk_at "dd"
    refine ⟨by omega, ?_⟩
    by_cases c1 : 1 ≤ z.length
    case neg =>
      rw [if_neg (by omega)]
      exact hE (by unfold numOk; rw [decide_eq_false c1]; rfl)
    rw [if_pos (by omega)]
    by_cases c2 : z.length ≤ 5
    case neg =>
      rw [if_pos (by omega)]
      exact hE (by unfold numOk; rw [decide_eq_true c1, decide_eq_false c2]; rfl)
    rw [if_neg (by omega)]
    refine dLc_of z.cps.toList (fun (c : Nat) => D.str ⟨#[c]⟩) true (fun c => !decide (c ∈ digs)) (fun c => D.str ⟨#[c]⟩) (by have := len_tl z; show (tl z).length ≤ 100000; omega) (fun P hP => by walk_at "dd"; exact hP) (fun c hc Y N hY => ?_) ?_
    · walk_at "dd"
      refine ⟨c, rfl, ?_⟩
      by_cases cd : c ∈ digs
      · rw [decide_eq_true cd, if_neg (by decide)] at hY
        rw [if_neg (fun q => q cd)]
        exact hY
      · rw [decide_eq_false cd, if_pos (show (!false) = true from rfl)] at hY
        rw [if_pos (show ¬ c ∈ (Str.ofString "0123456789").cps.toList from cd)]
        exact hY
    refine ⟨shp_chars fun c hc => hs c (List.mem_filter.mp hc).1, ?_⟩
    rw [eqv_nilD, List.isEmpty_map, filter_isEmpty, ← List.all_eq_not_any_not]
    cases hall : (z.cps.toList.all fun c => decide (c ∈ digs)) with
    | false =>
      rw [if_pos rfl]
      exact hE (by unfold numOk; rw [decide_eq_true c1, decide_eq_true c2, show ((tl z).all fun c => decide (c ∈ digs)) = false from hall]; rfl)
    | true =>
      rw [if_neg (by decide)]
      obtain ⟨a, ha, hat⟩ := head_at c1
      have hq : numOk z = !(decide ((tl z)[0]? = some 48) && decide (1 < z.length)) := by
        unfold numOk
        rw [decide_eq_true c1, decide_eq_true c2, show ((tl z).all fun c => decide (c ∈ digs)) = true from hall]
        rfl
      have fin : numOk z = true → ∃ x, PySem.intText? z = some x ∧ z.length ≤ 640 ∧ P (D.int x) := fun h => ⟨numV z, (num_v h).1, by omega, hP h⟩
      refine ⟨by omega, a, hat, ?_⟩
      by_cases ca : a = 48
      · rw [if_pos (one_sign.mpr ca)]
        rw [ca] at ha
        by_cases cz : z = "0"
        · rw [if_neg (fun q => q cz)]
          refine fin ?_
          rw [hq, decide_eq_false (show ¬ 1 < z.length by rw [cz, zero_len]; decide), Bool.and_false]
          rfl
        · rw [if_pos cz]
          refine hE ?_
          rw [hq, decide_eq_true ha, decide_eq_true (show 1 < z.length from Decidable.byContradiction fun q => cz (zero_of ha q))]
          rfl
      · rw [if_neg (fun q => ca (one_sign.mp q))]
        refine fin ?_
        rw [hq, decide_eq_false (show ¬ (tl z)[0]? = some 48 by rw [ha]; intro q; exact ca (Option.some.inj q))]
        rfl
def F_L_number (ds : List D) (P : D → Prop) : Prop := ∃ z : Str, ds = [.str z] ∧ z.length ≤ 20000 ∧ Sane z ∧ P (oD (if numOk z = true then some (numV z) else none))
abbrev sp_L_number (K : PySem.W.Frag) : Sp := spD K 1 F_L_number
theorem ok_L_number {P : Program} {w : World} {K : PySem.W.Frag} {mg : Str → Option Value} {base : Heap} (T : Txt K mg w) : Ok P w K mg base CX0 1 (He.ga K "_law_number") ["_law_word"] (sp_L_number K) := by
  obtain ⟨fd, F⟩ := T.f_L_number
  refine ⟨fd, F.ok sc_L_number (fun vs H Q E h => len_D h) (fun cdv A outer s H vs Q E hr h => ⟨_, PSs.nox
      (pss_cons (ps_if (PW.pt (pw_or (pt_not (pt_chain op_le op_le pe_int (pe_callB call_lenSN (by rfl) T.n_len (by decide +kernel) (pa_cons (pv 0) pa_nil)) pe_int)) (pw_or1 (pt_cmpR (z_neD (K := K) rfl hr.units) (pe_lc (own := [("_law_sign", 1)]) (by rfl) sc_L_number.nd (pi_str (pv 0)) (blkOk_by (own := [("_law_sign", 1)]) (N := ["_law_word", "_law_sign"]) (sc := defScope s_L_number) (by decide +kernel)) (fun _ _ _ _ _ => (pg_name (i := 1) sc_L_number.nd rfl (by first | exact Or.inl rfl | exact Or.inr rfl))) (fun _ _ _ _ _ => (pts_one (pt_cmpR op_notInC (pv 1) pe_str rfl))) (fun _ _ _ _ _ => (pv 1))) (pe_lst pa_nil) (nomark _))))) (pss_one (ps_ret pe_non)) pss_nil)
      (pss_one (ps_ret (pe_ifExp (PW.pt (pw_and (pt_cmpR op_gt (pe_callB call_lenSN (by rfl) T.n_len (by decide +kernel) (pa_cons (pv 0) pa_nil)) pe_int (nomark _)) (pw_and1 (pt_cmpR op_eq (pe_ix ix_str (pv 0) pe_int (fun _ _ => rfl)) pe_str (nomark _))))) pe_non (pe_callTy call_intS (by rfl) T.n_int (by decide +kernel) (pa_cons (pv 0) pa_nil)))))), ?read⟩), F.bindsN fun _ _ _ _ _ _ us hl => match us, hl with | [_], _ => rfl⟩
  case read =>
    refine run_D (K := K) (XE := E0) 1 (fun i => .fr) _ h (match vs, len_D h with | [_], _ => rfl) rfl rfl ?_
    clear h
    rintro xs P ⟨z, rfl, hz, hs, hP⟩
    have hno : numOk z = false → P D.non := fun h => by rw [if_neg (by rw [h]; decide)] at hP; exact hP
    walk_at "dd"
    refine ⟨by omega, ?_⟩
    by_cases c1 : 1 ≤ z.length
    case neg =>
      rw [if_neg (by omega)]
      exact hno (by unfold numOk; rw [decide_eq_false c1]; rfl)
    rw [if_pos (by omega)]
    by_cases c2 : z.length ≤ 5
    case neg =>
      rw [if_pos (by omega)]
      exact hno (by unfold numOk; rw [decide_eq_true c1, decide_eq_false c2]; rfl)
    rw [if_neg (by omega)]
    refine dLc_of z.cps.toList (fun (c : Nat) => D.str ⟨#[c]⟩) true (fun c => !decide (c ∈ digs)) (fun c => D.str ⟨#[c]⟩) (by have := len_tl z; show (tl z).length ≤ 100000; omega) (fun P hP => by walk_at "dd"; exact hP) (fun c hc Y N hY => ?_) ?_
    · walk_at "dd"
      refine ⟨c, rfl, ?_⟩
      by_cases cd : c ∈ digs
      · rw [decide_eq_true cd, if_neg (by decide)] at hY
        rw [if_neg (fun q => q cd)]
        exact hY
      · rw [decide_eq_false cd, if_pos (show (!false) = true from rfl)] at hY
        rw [if_pos (show ¬ c ∈ (Str.ofString "0123456789").cps.toList from cd)]
        exact hY
    refine ⟨shp_chars fun c hc => hs c (List.mem_filter.mp hc).1, ?_⟩
    rw [eqv_nilD, List.isEmpty_map, filter_isEmpty, ← List.all_eq_not_any_not]
    cases hall : (z.cps.toList.all fun c => decide (c ∈ digs)) with
    | false =>
      rw [if_pos rfl]
      exact hno (by unfold numOk; rw [decide_eq_true c1, decide_eq_true c2, show ((tl z).all fun c => decide (c ∈ digs)) = false from hall]; rfl)
    | true =>
      rw [if_neg (by decide)]
      obtain ⟨a, ha, hat⟩ := head_at c1
      have hq : numOk z = !(decide ((tl z)[0]? = some 48) && decide (1 < z.length)) := by
        unfold numOk
        rw [decide_eq_true c1, decide_eq_true c2, show ((tl z).all fun c => decide (c ∈ digs)) = true from hall]
        rfl
      have fin : numOk z = true → ∃ x, PySem.intText? z = some x ∧ z.length ≤ 640 ∧ P (D.int x) := fun h => ⟨numV z, (num_v h).1, by omega, by rw [if_pos h] at hP; exact hP⟩
      refine ⟨by omega, ?_⟩
      by_cases cl : 1 < z.length
      · rw [if_pos (by omega)]
        refine ⟨by omega, a, hat, ?_⟩
        by_cases ca : a = 48
        · rw [if_pos (one_sign.mpr ca)]
          rw [ca] at ha
          refine hno ?_
          rw [hq, decide_eq_true ha, decide_eq_true cl]
          rfl
        · rw [if_neg (fun q => ca (one_sign.mp q))]
          refine fin ?_
          rw [hq, decide_eq_false (show ¬ (tl z)[0]? = some 48 by rw [ha]; intro q; exact ca (Option.some.inj q))]
          rfl
      · rw [if_neg (by omega)]
        refine fin ?_
        rw [hq, decide_eq_false cl, Bool.and_false]
        rfl
end Bk

/-! read, of any text. -/
namespace Bk
open PySem L2 TL
theorem spl_in {s : Nat} : ∀ (l acc : List Nat), ∀ p ∈ spl [s] 0 acc l, ∀ c ∈ p, c ∈ acc ∨ c ∈ l
  | [], acc, p, hp, c, hc => by
    rw [spl_nil] at hp
    rw [List.mem_singleton.mp hp] at hc
    exact .inl hc
  | x :: r, acc, p, hp, c, hc => by
    cases h : pre [s] (x :: r) with
    | true =>
      rw [spl_hit h] at hp
      rcases List.mem_cons.mp hp with rfl | hp
      · exact .inl hc
      · rcases spl_in r [] p hp c hc with q | q
        · cases q
        · exact .inr (List.mem_cons_of_mem _ q)
    | false =>
      rw [spl_miss h] at hp
      rcases spl_in r (acc ++ [x]) p hp c hc with q | q
      · rcases List.mem_append.mp q with q | q
        · exact .inl q
        · rw [List.mem_singleton.mp q]
          exact .inr List.mem_cons_self
      · exact .inr (List.mem_cons_of_mem _ q)
theorem split_sane {z y p : Str} {s : Nat} (ey : tl y = [s]) (hs : s < 256) (hz : Sane z) (h : p ∈ Txt.split z y) : Sane p := fun c hc => by
  have q := split_spl z y (by rw [ey]; intro c; cases c) (kind_ok (by
    have : y.cps = #[s] := by rw [← Array.toArray_toList (xs := y.cps), show y.cps.toList = [s] from ey]
    rw [this]
    simp [hs]))
  rw [ey] at q
  have hp : tl p ∈ spl [s] 0 [] (tl z) := by
    rw [← q]
    exact List.mem_map.mpr ⟨p, h, rfl⟩
  rcases spl_in _ _ _ hp c hc with q | q
  · cases q
  · exact hz c q
def words (y : Str) : List Str := Txt.split y " "
theorem words_ne (y : Str) : 0 < (words y).length := split_ne tl_sp (by decide)
theorem words_part {y p : Str} (h : p ∈ words y) : p.length ≤ y.length := split_part tl_sp (by decide) h
theorem words_sane {y p : Str} (hy : Sane y) (h : p ∈ words y) : Sane p := split_sane tl_sp (by decide) hy h
theorem words_len (y : Str) : (words y).length ≤ y.length + 1 := by
  have := split_sum (z := y) tl_sp (by decide)
  show (Txt.split y " ").length ≤ _
  omega
theorem lines_part {y p : Str} (h : p ∈ Txt.split y "\n") : p.length ≤ y.length := split_part tl_nl (by decide) h
theorem lines_sane {y p : Str} (hy : Sane y) (h : p ∈ Txt.split y "\n") : Sane p := split_sane tl_nl (by decide) hy h
theorem lines_len (y : Str) : (Txt.split y "\n").length ≤ y.length + 1 := by
  have := split_sum (z := y) tl_nl (by decide)
  omega
def F_read (ds : List D) (er : Err → Prop) (P : D → Prop) : Prop := ∃ (R : RulesS) (z : Str), ds = [rulesD R, .str z] ∧ z.length ≤ 2000 ∧ Sane z ∧ match outOf R.b (rowsOf z) with | .text i => er (.num "BadText" "row" (i : Nat)) | .plan i => er (.num "BadPlan" "number" (i : Nat)) | .ok pl => P (planG pl)
abbrev sp_read (K : PySem.W.Frag) : Sp := spX K 2 F_read
theorem ok_read {P : Program} {w : World} {K : PySem.W.Frag} {mg : Str → Option Value} {base : Heap} (T : Txt K mg w) : Ok P w K mg base (L2.CX P w) 6 (He.ga K "read") ["rules", "text"] (sp_read K) := by
  obtain ⟨fd, F⟩ := T.f_read
  obtain ⟨fd_BadText_init, G_BadText_init, b_BadText_init⟩ := ok_BadText_init (P := P) (w := w) (base := base) T
  obtain ⟨fd_number_of, G_number_of, b_number_of⟩ := ok_number_of (P := P) (w := w) (base := base) T
  obtain ⟨fd_need_plan, G_need_plan, b_need_plan⟩ := ok_need_plan (P := P) (w := w) (base := base) T
  refine ⟨fd, F.ok sc_read (fun vs H Q E h => len_X h) (fun cdv A outer s H vs Q E hr h => ⟨_, 
      (pss_cons (ps_set (i := 2) sc_read.nd rfl (by first | exact Or.inl rfl | exact Or.inr rfl) (pe_lst pa_nil))
      (pss_cons (ps_set (i := 3) sc_read.nd rfl (by first | exact Or.inl rfl | exact Or.inr rfl) (pe_ifExp (pt_cmpR op_ne (pv 1) pe_str (nomark _)) (z_split (pv 1) pe_str) (pe_lst pa_nil)))
      (pss_cons (ps_for (passes_of rfl) rfl (pi_range1 rfl T.n_range (pa_cons (pe_callB (z_len (K := K) rfl) (by rfl) T.n_len (by decide +kernel) (pa_cons (pv 3) pa_nil)) pa_nil)) (pg_name (i := 4) sc_read.nd rfl (by first | exact Or.inl rfl | exact Or.inr rfl)) (pss_cons (ps_set (i := 5) sc_read.nd rfl (by first | exact Or.inl rfl | exact Or.inr rfl) (z_split (pe_ix (z_ixL (K := K) rfl) (pv 3) (pv 4) (fun _ _ => rfl)) pe_str))
      (pss_cons (ps_if (PW.pt (pw_or (pt_cmpR op_lt (pe_callB (z_len (K := K) rfl) (by rfl) T.n_len (by decide +kernel) (pa_cons (pv 5) pa_nil)) pe_int (nomark _)) (pw_or (pt_cmpR (z_notInLen (K := K) (w := w) rfl rfl T.lens) (pe_ix (z_ixL (K := K) rfl) (pv 5) pe_int (fun _ _ => rfl)) (pe_glob (v := .ref (He.ga K "LENGTHS")) rfl T.g_LENGTHS rfl) (by rfl)) (pw_or1 (pt_cmpR op_ne (pe_callB (z_len (K := K) rfl) (by rfl) T.n_len (by decide +kernel) (pa_cons (pv 5) pa_nil)) (pe_op op_add (pe_ix (z_ixLen (K := K) (w := w) rfl rfl T.lens) (pe_glob (v := .ref (He.ga K "LENGTHS")) rfl T.g_LENGTHS rfl) (pe_ix (z_ixL (K := K) rfl) (pv 5) pe_int (fun _ _ => rfl)) (fun _ _ => rfl)) pe_int) (nomark _)))))) (pss_one (z_raiseO (K := K) rfl rfl (takes_of rfl rfl rfl rfl) T.ox_BadText T.ii_BadText T.it_BadText G_BadText_init (hr.mono (by first | decide | omega)) b_BadText_init pass0 rfl T.g_BadText (pa_cons (pv 4) pa_nil))) pss_nil)
      (pss_cons (ps_set (i := 6) sc_read.nd rfl (by first | exact Or.inl rfl | exact Or.inr rfl) (pe_call G_number_of (hr.mono (by first | decide | omega)) rfl T.g_number_of T.k_number_of b_number_of .nil (passes_call (takes_of rfl rfl rfl rfl) (fun _ _ _ _ h => h)) (pa_cons (pe_ix (z_ixL (K := K) rfl) (pv 5) pe_int (fun _ _ => rfl)) (pa_cons (pv 4) pa_nil))))
      (pss_one (ps_expr (z_bm (K := K) rfl PySem.F.plainAttrs_list PySem.F.slot_list_append PySem.F.type_list_append mt_append (pv 2) (pa_cons (pe_tup (pa_cons (pv 6) (pa_cons (pe_op (z_catA (K := K) rfl) (pe_tup (pa_cons (pe_ix (z_ixL (K := K) rfl) (pv 5) pe_int (fun _ _ => rfl)) pa_nil)) (pe_callTy (z_tupOf (K := K) rfl) (by rfl) T.n_tuple (by decide +kernel) (pa_cons (pe_lcX (own := [("word", 7)]) (tt := tYes) (by rfl) rfl rfl (takes_of rfl rfl rfl rfl) sc_read.nd (z_iL (K := K) rfl (pe_slice (z_slL (K := K) rfl) (pv 5) (po_some pe_int) po_none)) (blkOk_by (own := [("word", 7)]) (N := ["rules", "text", "plan", "rows", "row", "words", "beat", "word"]) (sc := defScope s_read) (by decide +kernel)) (fun _ _ _ _ _ => (pg_name (i := 7) sc_read.nd rfl (by first | exact Or.inl rfl | exact Or.inr rfl))) (fun _ _ _ _ _ => pts_nil) (fun _ _ _ _ _ => (pe_call G_number_of (hr.mono (by first | decide | omega)) rfl T.g_number_of T.k_number_of b_number_of .nil (pass_bx rfl) (pa_cons (pv 7) (pa_cons (pv 4) pa_nil))))) pa_nil))) pa_nil))) pa_nil))))))))
      (pss_cons (ps_expr (pe_call G_need_plan (hr.mono (by first | decide | omega)) rfl T.g_need_plan T.k_need_plan b_need_plan .nil (passes_call (takes_of rfl rfl rfl rfl) (fun _ _ _ _ h => h)) (pa_cons (pv 0) (pa_cons (pv 2) pa_nil))))
      (pss_one (ps_ret (pv 2))))))), ?read⟩), F.bindsN fun _ _ _ _ _ _ us hl => match us, hl with | [_, _], _ => rfl⟩
  case read =>
    refine run_X (K := K) (XE := E) 6 (fun i => if i = 2 then .ow else .fr) _ h (match vs, len_X h with | [_, _], _ => rfl) rfl rfl ?_
    clear h
    rintro xs er P ⟨R, z, rfl, hz, hs, hP⟩
    walk_at "dd"
    by_cases cz : z = ""
    · rw [if_neg (fun q => q cz)]
      have hr : rowsOf z = [] := by unfold rowsOf; rw [if_pos cz]
      rw [hr] at hP
      refine dFor_of .sh (.inl rfl) (rngD 0 0) (fun P hP => by walk_at "dd"; exact ⟨by decide, by decide, hP⟩) (fun i ρ' => ρ' = [.sh (rulesD R), .sh (.str z), .ow (.lst []), .fr (.lst []), .un, .un, .un, .un]) rfl ?_ ?_
      · rintro i x ρ' hx rfl
        obtain ⟨_, hi⟩ := rng_at hx
        exact absurd hi (Nat.not_lt_zero _)
      · rintro ρ' rfl
        walk_at "dd"
        exact ⟨R, [], rfl, ⟨by decide, fun x hx => (by cases hx)⟩, fun _ => hP, fun i c => by
          obtain ⟨⟨x, h1, _⟩, _⟩ := c
          cases h1⟩
    · rw [if_pos cz]
      refine ⟨by decide, by omega, ?_⟩
      have hll := lines_len z
      have hlp : ∀ y ∈ Txt.split z "\n", y.length ≤ 2000 ∧ Sane y := fun y hy => ⟨Nat.le_trans (lines_part hy) hz, lines_sane hs hy⟩
      have hr : rowsOf z = (Txt.split z "\n").map words := by unfold rowsOf; rw [if_neg cz]; rfl
      rw [hr] at hP
      have hsum : ((Txt.split z "\n").map (·.length)).sum + (Txt.split z "\n").length = z.length + 1 := split_sum tl_nl (by decide)
      generalize Txt.split z "\n" = ls at hll hlp hP hsum
      refine dFor_of .sh (.inl rfl) (rngD 0 ls.length) (fun P hP => by walk_at "dd"; rw [List.length_map]; exact ⟨by omega, by omega, hP⟩) (fun j ρ' => ∃ s4 s5 s6 s7, ρ' = [.sh (rulesD R), .sh (.str z), .ow (.lst ((ls.take j).map fun y => itG (rowG (words y)))), .fr (.lst (ls.map D.str)), s4, s5, s6, s7] ∧ ∀ y ∈ ls.take j, rowOk (words y) = true) ⟨_, _, _, _, rfl, fun y hy => by cases hy⟩ ?_ ?_
      · rintro j x ρ' hx ⟨s4, s5, s6, s7, rfl, hI⟩
        obtain ⟨rfl, hj⟩ := rng_at hx
        have hyj := List.getElem?_eq_getElem hj
        obtain ⟨hy1, hy2⟩ := hlp _ (List.getElem_mem hj)
        generalize ls[j] = y at hyj hy1 hy2
        have hat : atI ls (0 + (j : Int)) = some y := by rw [Int.zero_add]; exact atI_nat hyj
        have hE : rowOk (words y) = false → er (.num "BadText" "row" (0 + (j : Int))) := fun h => by
          rw [out_text (i := j) (ws := words y) (by rw [List.getElem?_map, hyj]; rfl) h fun k ws hk hw => by
            rw [List.getElem?_map] at hw
            obtain ⟨u, hu, rfl⟩ := Option.map_eq_some_iff.mp hw
            exact hI u (List.mem_of_getElem? (by rw [List.getElem?_take, if_pos hk]; exact hu))] at hP
          rw [Int.zero_add]
          exact hP
        have hwp : ∀ p ∈ words y, p.length ≤ 2000 ∧ Sane p := fun p hp => ⟨Nat.le_trans (words_part hp) hy1, words_sane hy2 hp⟩
        have hwl := words_len y
        have hwn := words_ne y
        have hnew : rowOk (words y) = true → ∀ u ∈ ls.take (j + 1), rowOk (words u) = true := fun h u hu => by
          rw [List.take_add_one, hyj] at hu
          rcases List.mem_append.mp hu with q | q
          · exact hI u q
          · rw [List.mem_singleton.mp q]; exact h
        have hmap : List.map (fun y => itG (rowG (words y))) (ls.take (j + 1)) = List.map (fun y => itG (rowG (words y))) (ls.take j) ++ [itG (rowG (words y))] := by
          rw [List.take_add_one, hyj, List.map_append]
          rfl
        walk_at "dd"
        rw [hat]
        refine ⟨_, rfl, y, rfl, by decide, by omega, ?_⟩
        rw [show Txt.split y (Str.ofString " ") = words y from rfl, hmap]
        generalize words y = ws at hE hwp hwl hwn hnew ⊢
        rcases ws with _ | ⟨a, _ | ⟨w', r⟩⟩
        · exact absurd hwn (by decide)
        · rw [if_pos (by show ((1 : Nat) : Int) < 2; decide)]
          exact hE rfl
        have h0 : atI (a :: w' :: r) 0 = some a := atI_0 _ _
        have h1 : atI (a :: w' :: r) 1 = some w' := atI_1 _ _ _
        have hlen : ((List.map D.str (a :: w' :: r)).length : Int) = (r.length : Int) + 2 := by
          rw [List.length_map, List.length_cons, List.length_cons]
          omega
        rw [List.length_cons, List.length_cons] at hwl
        rw [h0, h1, hlen, if_neg (by omega)]
        refine ⟨_, rfl, w', rfl, ?_⟩
        cases hl : lenOf w' with
        | none =>
          rw [if_pos (show (none : Option Int).isSome = false from rfl)]
          exact hE (row_none hl)
        | some v =>
          rw [if_neg (show ¬ ((some v).isSome = false) by intro q; cases q)]
          refine ⟨_, rfl, w', rfl, v, hl, ?_⟩
          by_cases hv : (r.length : Int) + 1 = v
          case neg =>
            rw [if_pos (by omega)]
            exact hE (by rw [row_some hl, decide_eq_false hv]; rfl)
          rw [if_neg (by omega)]
          have hrow : rowOk (a :: w' :: r) = (numOk a && r.all numOk) := by
            rw [row_some hl, decide_eq_true hv]
            rfl
          rw [hrow] at hE hnew
          refine ⟨_, rfl, a, 0 + (j : Int), rfl, by have := (hwp a List.mem_cons_self).1; omega, (hwp a List.mem_cons_self).2, fun ha => ?_, fun ha => hE (by rw [ha, Bool.false_and])⟩
          refine ⟨_, rfl, ?_⟩
          have hrp : ∀ p ∈ r, p.length ≤ 2000 ∧ Sane p := fun p hp => hwp p (List.mem_cons_of_mem _ (List.mem_cons_of_mem _ hp))
          refine dLc_err r D.str true numOk (fun p => D.int (numV p)) (by omega) (fun P hP => ?_) (fun p hp Y N hY => ?_) (fun hall => ?_)
          · walk_at "dd"
            rw [cutFrom _ (show (0 : Int) ≤ 2 by decide)]
            exact hP
          · walk_at "dd"
            exact ⟨p, _, rfl, by have := (hrp p hp).1; omega, (hrp p hp).2, hY, fun hb => hE (by
              rw [show r.all numOk = false from List.all_eq_false.mpr ⟨p, hp, by rw [hb]; decide⟩, Bool.and_false])⟩
          · refine ⟨_, true, .inl ⟨rfl, rfl⟩, by rw [List.length_map]; omega, rfl, by rw [List.length_map, List.length_take]; omega, ?_, hnew (by rw [ha, List.all_eq_true.mpr hall]; rfl)⟩
            show _ = _ ++ [D.tup [D.int (numV a), D.tup (D.str w' :: (r.map numV).map D.int)]]
            rw [List.map_map]
            rfl
      · rintro ρ' ⟨s4, s5, s6, s7, rfl, hI⟩
        rw [rng_len, List.take_length] at hI ⊢
        walk_at "dd"
        have hall : ∀ ws ∈ ls.map words, rowOk ws = true := fun ws hw => by
          obtain ⟨y, hy, rfl⟩ := List.mem_map.mp hw
          exact hI y hy
        have e : D.lst (List.map (fun y => itG (rowG (words y))) ls) = planG ((ls.map words).map rowG) := by
          unfold planG
          rw [List.map_map, List.map_map]
          rfl
        rw [e]
        have hsz : PlanSz ((ls.map words).map rowG) := by
          have h3 := sum_ge (ls := ls) (m := 2) fun y hy => by
            have h1 := words_len y
            obtain ⟨a, w', k, _, ⟨_, _, e⟩ | ⟨r, _, _, e⟩⟩ := row_shape (hI y hy)
            · rw [e] at h1
              have h1' : 3 ≤ y.length + 1 := h1
              omega
            · rw [e] at h1
              have h1' : 4 ≤ y.length + 1 := h1
              omega
          refine ⟨by rw [List.length_map, List.length_map]; omega, fun x hx => ?_⟩
          obtain ⟨ws, hw, rfl⟩ := List.mem_map.mp hx
          obtain ⟨a, w', k, _, ⟨_, _, e⟩ | ⟨r, _, _, e⟩⟩ := row_shape (hall ws hw)
          · rw [e]; show 1 + 1 ≤ 1000; decide
          · rw [e]; show 1 + 1 + 1 ≤ 1000; decide
        refine ⟨R, _, rfl, hsz, fun hok => ?_, fun i hb => ?_⟩
        · rw [out_ok hall hok] at hP
          exact hP
        · obtain ⟨⟨x, h1, h2⟩, h3⟩ := hb
          rw [out_plan hall h1 h2 h3] at hP
          exact hP
end Bk

/-! What the law finds of a text. -/
namespace Bk
open PySem L2 TL
/-- how many words a row has, by its word -/
def manyD : List (Key × D) := [(Sum.inr "open", D.int 4), (Sum.inr "touch", D.int 3), (Sum.inr "shut", D.int 3)]
def manyN (w : Str) : Int := match lenOf w with | some v => v + 1 | none => 0
theorem put_ne {k k' : Key} {d d' : D} {es : List (Key × D)} (h : k' ≠ k) : putD ((k', d') :: es) k d = (k', d') :: putD es k d := if_neg h
theorem merge_many : mergeD [] manyD = manyD := by
  show putD (putD (putD [] (Sum.inr "open") (.int 4)) (Sum.inr "touch") (.int 3)) (Sum.inr "shut") (.int 3) = manyD
  have e : ∀ (k : Key) (d : D), putD [] k d = [(k, d)] := fun _ _ => rfl
  rw [e, put_ne (by decide), e, put_ne (by decide), put_ne (by decide), e]
  rfl
theorem look_many (w : Str) : (lookD (mergeD [] manyD) (.inr w)).getD (.int 0) = .int (manyN w) := by
  rw [merge_many]
  unfold manyD manyN lenOf
  simp only [lookD, Sum.inr.injEq]
  by_cases c1 : w = "open"
  · rw [if_pos c1.symm, if_pos c1]; rfl
  · rw [if_neg (fun q => c1 q.symm), if_neg c1]
    by_cases c2 : w = "shut"
    · rw [if_pos c2, if_neg (by rw [c2]; decide), if_pos c2.symm]; rfl
    · rw [if_neg c2]
      by_cases c3 : w = "touch"
      · rw [if_pos c3, if_pos c3.symm]; rfl
      · rw [if_neg c3, if_neg (fun q => c3 q.symm), if_neg (fun q => c2 q.symm)]; rfl
def nO (z : Str) : Option Int := if numOk z = true then some (numV z) else none
theorem in_no (l : List Str) : inV .non ((l.map fun p => oD (nO p)).map vOf) = !l.all numOk := by
  unfold inV
  induction l with
  | nil => rfl
  | cons p l ih =>
    rw [List.map_cons, List.map_cons, List.any_cons, ih, List.all_cons]
    unfold nO
    cases numOk p with
    | true => rw [if_pos rfl]; rfl
    | false => rw [if_neg (by decide)]; rfl
theorem sc_no (l : List Str) : (l.map fun p => oD (nO p)).all scD = true := by
  rw [List.all_eq_true]
  intro d hd
  obtain ⟨p, _, rfl⟩ := List.mem_map.mp hd
  unfold nO
  split <;> rfl
theorem no_ints {l : List Str} (h : ∀ p ∈ l, numOk p = true) : (l.map fun p => oD (nO p)) = (l.map numV).map D.int := by
  rw [List.map_map]
  refine List.map_congr_left fun p hp => ?_
  unfold nO
  rw [if_pos (h p hp)]
  rfl
theorem ok_two {b : Int} {w k : Str} (hl : lenOf w = some 2) (hk : numOk k = true) : okDeed b (.mk w [numV k]) = decide (numV k < b) := by
  have := (num_v hk).2
  simp [okDeed, hl, this]
theorem ok_three {b : Int} {k r : Str} (hk : numOk k = true) (hr : numOk r = true) : okDeed b (.mk "open" [numV k, numV r]) = (decide (numV k < b) && decide (numV r ≤ 99)) := by
  have h1 := (num_v hk).2
  have h2 := (num_v hr).2
  have hl : lenOf ("open" : Str) = some 3 := by decide
  simp [okDeed, hl, h1, h2]
def F_L_due (ds : List D) (P : D → Prop) : Prop := ∃ (b : Int) (z : Str), ds = [.int b, .str z] ∧ z.length ≤ 2000 ∧ Sane z ∧ P (outD (outOf b (rowsOf z)))
abbrev sp_L_due (K : PySem.W.Frag) : Sp := spD K 2 F_L_due
theorem ok_L_due {P : Program} {w : World} {K : PySem.W.Frag} {mg : Str → Option Value} {base : Heap} (T : Txt K mg w) : Ok P w K mg base CX0 2 (He.ga K "_law_due") ["_law_banks", "_law_text_here"] (sp_L_due K) := by
  obtain ⟨fd, F⟩ := T.f_L_due
  obtain ⟨fd_L_number, G_L_number, b_L_number⟩ := ok_L_number (P := P) (w := w) (base := base) T
  refine ⟨fd, F.ok sc_L_due (fun vs H Q E h => len_D h) (fun cdv A outer s H vs Q E hr h => ⟨_, PSs.nox
      (pss_cons (ps_set (i := 2) sc_L_due.nd rfl (by first | exact Or.inl rfl | exact Or.inr rfl) (pe_lst pa_nil))
      (pss_cons (ps_set (i := 3) sc_L_due.nd rfl (by first | exact Or.inl rfl | exact Or.inr rfl) (pe_ifExp (pt_cmpR op_ne (pv 1) pe_str (nomark _)) (z_split (pv 1) pe_str) (pe_lst pa_nil)))
      (pss_cons (ps_for PassesOwn.never rfl (pi_range1 rfl T.n_range (pa_cons (pe_callB (z_len (K := K) rfl) (by rfl) T.n_len (by decide +kernel) (pa_cons (pv 3) pa_nil)) pa_nil)) (pg_name (i := 4) sc_L_due.nd rfl (by first | exact Or.inl rfl | exact Or.inr rfl)) (pss_cons (ps_set (i := 5) sc_L_due.nd rfl (by first | exact Or.inl rfl | exact Or.inr rfl) (z_split (pe_ix (z_ixL (K := K) rfl) (pv 3) (pv 4) (fun _ _ => rfl)) pe_str))
      (pss_cons (ps_set (i := 6) sc_L_due.nd rfl (by first | exact Or.inl rfl | exact Or.inr rfl) (pe_dget2 (hu_of hr) (pe_disp (pps_cons pe_str pe_int (pps_cons pe_str pe_int (pps_cons pe_str pe_int pps_nil))) (by rfl) (by rfl) (fun z => by cases z) (by decide)) (pe_ix (z_ixL (K := K) rfl) (pe_op op_cat (pv 5) (pe_lst (pa_cons pe_str pa_nil))) pe_int (fun _ _ => rfl)) pe_int ⟨rfl, rfl, rfl, rfl⟩))
      (pss_cons (ps_setLc (i := 7) (own := [("_law_word", 8)]) (tt := tYes) (by rfl) sc_L_due.nd rfl rfl (sw_true rfl rfl rfl (by decide +kernel)) (z_iL (K := K) rfl (pe_op op_cat (pe_slice (z_slL (K := K) rfl) (pv 5) po_none (po_some pe_int)) (pe_slice (z_slL (K := K) rfl) (pv 5) (po_some pe_int) po_none))) (blkOk_by (own := [("_law_word", 8)]) (N := ["_law_banks", "_law_text_here", "_law_plan_here", "_law_rows", "_law_k", "_law_words", "_law_many", "_law_numbers", "_law_word", "_law_deed"]) (sc := defScope s_L_due) (by decide +kernel)) (fun _ _ _ _ _ => (pg_name (i := 8) sc_L_due.nd rfl (by first | exact Or.inl rfl | exact Or.inr rfl))) (fun _ _ _ _ _ => pts_nil) (fun _ _ _ _ _ => (pe_call G_L_number (hr.mono (by first | decide | omega)) rfl T.g__law_number T.k__law_number b_L_number .nil pass0 (pa_cons (pv 8) pa_nil))))
      (pss_cons (ps_if (PW.pt (pw_or (pt_cmpR op_ne (pe_callB (z_len (K := K) rfl) (by rfl) T.n_len (by decide +kernel) (pa_cons (pv 5) pa_nil)) (pv 6) (nomark _)) (pw_or1 (pt_cmpR (z_in (K := K) rfl) pe_non (pv 7) (by rfl))))) (pss_one (ps_ret (pe_tup (pa_cons pe_str (pa_cons (pv 4) pa_nil))))) pss_nil)
      (pss_one (ps_expr (z_bm (K := K) rfl PySem.F.plainAttrs_list PySem.F.slot_list_append PySem.F.type_list_append mt_append (pv 2) (pa_cons (pe_tup (pa_cons (pe_ix (z_ixL (K := K) rfl) (pv 7) pe_int (fun _ _ => rfl)) (pa_cons (pe_op (z_catA (K := K) rfl) (pe_tup (pa_cons (pe_ix (z_ixL (K := K) rfl) (pv 5) pe_int (fun _ _ => rfl)) pa_nil)) (pe_callTy (z_tupOf (K := K) rfl) (by rfl) T.n_tuple (by decide +kernel) (pa_cons (pe_slice (z_slL (K := K) rfl) (pv 7) (po_some pe_int) po_none) pa_nil))) pa_nil))) pa_nil)))))))))
      (pss_cons (ps_for PassesOwn.never rfl (pi_range1 rfl T.n_range (pa_cons (pe_callB (z_len (K := K) rfl) (by rfl) T.n_len (by decide +kernel) (pa_cons (pv 2) pa_nil)) pa_nil)) (pg_name (i := 4) sc_L_due.nd rfl (by first | exact Or.inl rfl | exact Or.inr rfl)) (pss_cons (ps_set (i := 9) sc_L_due.nd rfl (by first | exact Or.inl rfl | exact Or.inr rfl) (pe_ix (z_ixT (K := K) rfl) (pe_ix (z_ixL (K := K) rfl) (pv 2) (pv 4) (fun _ _ => rfl)) pe_int (fun _ _ => rfl)))
      (pss_one (ps_if (PW.pt (pw_or (pt_cmpR op_ge (pe_ix (z_ixT (K := K) rfl) (pv 9) pe_int (fun _ _ => rfl)) (pv 0) (nomark _)) (pw_or1 (PW.pt (pw_and (pt_cmpR op_eq (pe_ix (z_ixT (K := K) rfl) (pv 9) pe_int (fun _ _ => rfl)) pe_str (nomark _)) (pw_and1 (pt_cmpR op_gt (pe_ix (z_ixT (K := K) rfl) (pv 9) pe_int (fun _ _ => rfl)) pe_int (nomark _)))))))) (pss_one (ps_ret (pe_tup (pa_cons pe_str (pa_cons (pv 4) pa_nil))))) pss_nil))))
      (pss_one (ps_ret (pv 2))))))), ?read⟩), F.bindsN fun _ _ _ _ _ _ us hl => match us, hl with | [_, _], _ => rfl⟩
  case read =>
    refine run_D (K := K) (XE := E0) 8 (fun i => if i = 2 then .ow else .fr) _ h (match vs, len_D h with | [_, _], _ => rfl) rfl rfl ?_
    clear h
    rintro xs P ⟨b, z, rfl, hz, hs, hP⟩
    walk_at "dd"
    by_cases cz : z = ""
    · rw [if_neg (fun q => q cz)]
      have hr : rowsOf z = [] := by unfold rowsOf; rw [if_pos cz]
      rw [hr] at hP
      refine dFor_of .sh (.inl rfl) (rngD 0 0) (fun P hP => by walk_at "dd"; exact ⟨by decide, by decide, hP⟩) (fun i ρ' => ρ' = [.sh (.int b), .sh (.str z), .ow (.lst []), .fr (.lst []), .un, .un, .un, .un, .un, .un]) rfl ?_ ?_
      · rintro i x ρ' hx rfl
        obtain ⟨_, hi⟩ := rng_at hx
        exact absurd hi (Nat.not_lt_zero _)
      · rintro ρ' rfl
        walk_at "dd"
        refine dFor_of .sh (.inl rfl) (rngD 0 0) (fun P hP => by walk_at "dd"; exact ⟨by decide, by decide, hP⟩) (fun i ρ' => ρ' = [.sh (.int b), .sh (.str z), .ow (.lst []), .fr (.lst []), .un, .un, .un, .un, .un, .un]) rfl ?_ ?_
        · rintro i x ρ' hx rfl
          obtain ⟨_, hi⟩ := rng_at hx
          exact absurd hi (Nat.not_lt_zero _)
        · rintro ρ' rfl
          walk_at "dd"
          exact hP
    · rw [if_pos cz]
      refine ⟨by decide, by omega, ?_⟩
      have hll := lines_len z
      have hlp : ∀ y ∈ Txt.split z "\n", y.length ≤ 2000 ∧ Sane y := fun y hy => ⟨Nat.le_trans (lines_part hy) hz, lines_sane hs hy⟩
      have hr : rowsOf z = (Txt.split z "\n").map words := by unfold rowsOf; rw [if_neg cz]; rfl
      rw [hr] at hP
      generalize Txt.split z "\n" = ls at hll hlp hP
      refine dFor_of .sh (.inl rfl) (rngD 0 ls.length) (fun P hP => by walk_at "dd"; rw [List.length_map]; exact ⟨by omega, by omega, hP⟩) (fun j ρ' => ∃ s4 s5 s6 s7 s8 s9, ρ' = [.sh (.int b), .sh (.str z), .ow (.lst ((ls.take j).map fun y => itG (rowG (words y)))), .fr (.lst (ls.map D.str)), s4, s5, s6, s7, s8, s9] ∧ ∀ y ∈ ls.take j, rowOk (words y) = true) ⟨_, _, _, _, _, _, rfl, fun y hy => by cases hy⟩ ?_ ?_
      · rintro j x ρ' hx ⟨s4, s5, s6, s7, s8, s9, rfl, hI⟩
        obtain ⟨rfl, hj⟩ := rng_at hx
        have hyj := List.getElem?_eq_getElem hj
        obtain ⟨hy1, hy2⟩ := hlp _ (List.getElem_mem hj)
        generalize ls[j] = y at hyj hy1 hy2
        have hat : atI ls (0 + (j : Int)) = some y := by rw [Int.zero_add]; exact atI_nat hyj
        have hE : rowOk (words y) = false → P (.tup [.str "text", .int (0 + (j : Int))]) := fun h => by
          rw [out_text (i := j) (ws := words y) (by rw [List.getElem?_map, hyj]; rfl) h fun k ws hk hw => by
            rw [List.getElem?_map] at hw
            obtain ⟨u, hu, rfl⟩ := Option.map_eq_some_iff.mp hw
            exact hI u (List.mem_of_getElem? (by rw [List.getElem?_take, if_pos hk]; exact hu))] at hP
          rw [Int.zero_add]
          exact hP
        have hwp : ∀ p ∈ words y, p.length ≤ 2000 ∧ Sane p := fun p hp => ⟨Nat.le_trans (words_part hp) hy1, words_sane hy2 hp⟩
        have hwl := words_len y
        have hwn := words_ne y
        have hnew : rowOk (words y) = true → ∀ u ∈ ls.take (j + 1), rowOk (words u) = true := fun h u hu => by
          rw [List.take_add_one, hyj] at hu
          rcases List.mem_append.mp hu with q | q
          · exact hI u q
          · rw [List.mem_singleton.mp q]; exact h
        have hmap : List.map (fun y => itG (rowG (words y))) (ls.take (j + 1)) = List.map (fun y => itG (rowG (words y))) (ls.take j) ++ [itG (rowG (words y))] := by
          rw [List.take_add_one, hyj, List.map_append]
          rfl
        walk_at "dd"
        rw [hat]
        refine ⟨_, rfl, y, rfl, by decide, by omega, manyD, rfl, rfl, by decide, ⟨_, rfl⟩, ?_⟩
        rw [show Txt.split y (Str.ofString " ") = words y from rfl, hmap]
        generalize words y = ws at hE hwp hwl hwn hnew ⊢
        rcases ws with _ | ⟨a, _ | ⟨w', r⟩⟩
        · exact absurd hwn (by decide)
        · refine ⟨by show 1 ≤ 99999; decide, _, atI_1 _ _ _, .inr "", rfl, ?_⟩
          refine dLc_map [a] D.str true (fun p => oD (nO p)) (by show 1 ≤ 100000; decide) (fun P hP => ?_) (fun p hp Y N hY => ?_) ?_
          · walk_at "dd"
            rw [cutFrom _ (show (0 : Int) ≤ 2 by decide), cutTo _ (show (0 : Int) ≤ 1 by decide)]
            exact ⟨by show 1 + 0 ≤ 100000; decide, hP⟩
          · walk_at "dd"
            rw [List.mem_singleton.mp hp] at hY ⊢
            exact ⟨a, rfl, by have := (hwp a List.mem_cons_self).1; omega, (hwp a List.mem_cons_self).2, hY⟩
          · rw [look_many]
            refine ⟨rfl, _, rfl, ?_⟩
            rw [if_pos (decide_eq_false (by show ¬ ((1 : Nat) : Int) = 0; decide))]
            exact hE rfl
        have h1 : atI (a :: w' :: r) 1 = some w' := atI_1 _ _ _
        rw [List.length_cons, List.length_cons] at hwl
        refine ⟨by rw [List.length_map, List.length_cons, List.length_cons]; omega, _, atI_1 _ _ _, .inr w', rfl, ?_⟩
        have har : ∀ p ∈ a :: r, p.length ≤ 2000 ∧ Sane p := fun p hp => by
          rcases List.mem_cons.mp hp with rfl | hp
          · exact hwp p List.mem_cons_self
          · exact hwp p (List.mem_cons_of_mem _ (List.mem_cons_of_mem _ hp))
        refine dLc_map (a :: r) D.str true (fun p => oD (nO p)) (by rw [List.length_cons]; omega) (fun P hP => ?_) (fun p hp Y N hY => ?_) ?_
        · walk_at "dd"
          rw [cutFrom _ (show (0 : Int) ≤ 2 by decide), cutTo _ (show (0 : Int) ≤ 1 by decide)]
          exact ⟨by show 1 + (List.map D.str r).length ≤ 100000; rw [List.length_map]; omega, hP⟩
        · walk_at "dd"
          exact ⟨p, rfl, by have := (har p hp).1; omega, (har p hp).2, hY⟩
        rw [look_many, h1]
        have hlen : ((List.map D.str (a :: w' :: r)).length : Int) = (r.length : Int) + 2 := by
          rw [List.length_map, List.length_cons, List.length_cons]
          omega
        rw [hlen]
        refine ⟨rfl, _, rfl, ?_⟩
        cases hl : lenOf w' with
        | none =>
          rw [if_pos (decide_eq_false (by unfold manyN; rw [hl]; dsimp only; omega))]
          exact hE (row_none hl)
        | some v =>
          have hm : manyN w' = v + 1 := by unfold manyN; rw [hl]
          rw [hm]
          by_cases hv : (r.length : Int) + 1 = v
          case neg =>
            rw [if_pos (decide_eq_false (by omega))]
            exact hE (by rw [row_some hl, decide_eq_false hv]; rfl)
          rw [if_neg (by rw [decide_eq_true (show (r.length : Int) + 2 = v + 1 by omega)]; decide)]
          have hrow : rowOk (a :: w' :: r) = (a :: r).all numOk := by
            rw [row_some hl, decide_eq_true hv, List.all_cons]
            rfl
          rw [hrow] at hE hnew
          refine ⟨_, .inl rfl, sc_no _, ?_⟩
          rw [in_no]
          cases hall : (a :: r).all numOk with
          | false =>
            rw [if_pos (show (!false) = true from rfl)]
            exact hE hall
          | true =>
            rw [if_neg (by decide)]
            rw [no_ints (List.all_eq_true.mp hall)]
            refine ⟨_, rfl, _, atI_0 _ _, _, rfl, _, rfl, ?_, by rw [List.length_map, List.length_take]; omega, ?_, hnew hall⟩
            · rw [cutFrom _ (show (0 : Int) ≤ 1 by decide)]
              show 1 + (List.map D.int (r.map numV)).length ≤ 100000
              rw [List.length_map, List.length_map]
              omega
            · rw [cutFrom _ (show (0 : Int) ≤ 1 by decide)]
              rfl
      · rintro ρ' ⟨s4, s5, s6, s7, s8, s9, rfl, hI⟩
        rw [rng_len, List.take_length] at hI ⊢
        walk_at "dd"
        have hall : ∀ ws ∈ ls.map words, rowOk ws = true := fun ws hw => by
          obtain ⟨y, hy, rfl⟩ := List.mem_map.mp hw
          exact hI y hy
        refine dFor_of .sh (.inl rfl) (rngD 0 ls.length) (fun P hP => by walk_at "dd"; rw [List.length_map]; exact ⟨by omega, by omega, hP⟩) (fun j ρ' => ∃ s4 s9, ρ' = [.sh (.int b), .sh (.str z), .ow (.lst (ls.map fun y => itG (rowG (words y)))), .fr (.lst (ls.map D.str)), s4, s5, s6, s7, s8, s9] ∧ ∀ y ∈ ls.take j, okDeed b (rowG (words y)).2 = true) ⟨_, _, rfl, fun y hy => by cases hy⟩ ?_ ?_
        · rintro j x ρ' hx ⟨s4, s9, rfl, hJ⟩
          obtain ⟨rfl, hj⟩ := rng_at hx
          have hyj := List.getElem?_eq_getElem hj
          have hrow := hI _ (List.getElem_mem hj)
          generalize ls[j] = y at hyj hrow
          have hat : atI ls (0 + (j : Int)) = some y := by rw [Int.zero_add]; exact atI_nat hyj
          have hE : okDeed b (rowG (words y)).2 = false → P (.tup [.str "plan", .int (0 + (j : Int))]) := fun h => by
            rw [out_plan (i := j) (x := rowG (words y)) hall (by rw [List.getElem?_map, List.getElem?_map, hyj]; rfl) h fun k x hk hw => by
              rw [List.getElem?_map, List.getElem?_map] at hw
              obtain ⟨u, hu, rfl⟩ := Option.map_eq_some_iff.mp hw
              obtain ⟨u', hu', rfl⟩ := Option.map_eq_some_iff.mp hu
              exact hJ u' (List.mem_of_getElem? (by rw [List.getElem?_take, if_pos hk]; exact hu'))] at hP
            rw [Int.zero_add]
            exact hP
          have hnew : okDeed b (rowG (words y)).2 = true → ∀ u ∈ ls.take (j + 1), okDeed b (rowG (words u)).2 = true := fun h u hu => by
            rw [List.take_add_one, hyj] at hu
            rcases List.mem_append.mp hu with q | q
            · exact hJ u q
            · rw [List.mem_singleton.mp q]; exact h
          walk_at "dd"
          rw [hat, show Option.map (fun y => itG (rowG (words y))) (some y) = some (itG (rowG (words y))) from rfl]
          obtain ⟨a, w', k, hk, ⟨ho, hl, e⟩ | ⟨r, hr2, rfl, e⟩⟩ := row_shape hrow
          · rw [e] at hE hnew ⊢
            have hok : okDeed b (rowG [a, w', k]).2 = decide (numV k < b) := ok_two hl hk
            rw [hok] at hE hnew
            refine ⟨_, rfl, [D.int (numV a), D.tup [D.str w', D.int (numV k)]], rfl, _, atI_1 _ _ _, rfl, _, rfl, _, atI_1 _ _ _, _, rfl, ?_⟩
            by_cases ck : b ≤ numV k
            · rw [if_pos ck]
              exact hE (decide_eq_false (by omega))
            · rw [if_neg ck]
              refine ⟨_, rfl, _, atI_0 _ _, _, rfl, ?_⟩
              rw [if_neg (by rw [decide_eq_false ho]; decide)]
              exact hnew (decide_eq_true (by omega))
          · rw [e] at hE hnew ⊢
            have hok : okDeed b (rowG [a, "open", k, r]).2 = (decide (numV k < b) && decide (numV r ≤ 99)) := ok_three hk hr2
            rw [hok] at hE hnew
            refine ⟨_, rfl, [D.int (numV a), D.tup [D.str "open", D.int (numV k), D.int (numV r)]], rfl, _, atI_1 _ _ _, rfl, _, rfl, _, atI_1 _ _ _, _, rfl, ?_⟩
            by_cases ck : b ≤ numV k
            · rw [if_pos ck]
              exact hE (by rw [decide_eq_false (show ¬ numV k < b by omega)]; rfl)
            · rw [if_neg ck]
              refine ⟨_, rfl, _, atI_0 _ _, _, rfl, ?_⟩
              rw [if_pos (decide_eq_true rfl)]
              refine ⟨_, rfl, _, atI_2 _ _ _ _, _, rfl, ?_⟩
              by_cases cr : 99 < numV r
              · rw [if_pos cr]
                exact hE (by rw [decide_eq_false (show ¬ numV r ≤ 99 by omega), Bool.and_false])
              · rw [if_neg cr]
                exact hnew (by rw [decide_eq_true (show numV k < b by omega), decide_eq_true (show numV r ≤ 99 by omega)]; rfl)
        · rintro ρ' ⟨s4, s9, rfl, hJ⟩
          rw [rng_len, List.take_length] at hJ
          walk_at "dd"
          rw [out_ok hall fun x hx => by
            obtain ⟨ws, hw, rfl⟩ := List.mem_map.mp hx
            obtain ⟨y, hy, rfl⟩ := List.mem_map.mp hw
            exact hJ y hy] at hP
          have e : D.lst (List.map (fun y => itG (rowG (words y))) ls) = planG ((ls.map words).map rowG) := by
            unfold planG
            rw [List.map_map, List.map_map]
            rfl
          rw [e]
          exact hP
end Bk

/-! The law's word for what read tells, or refuses. -/
namespace Bk
open PySem L2 TL
def F_L_told (ds : List D) (P : D → Prop) : Prop := ∃ (R : RulesS) (z : Str), ds = [rulesD R, .str z] ∧ z.length ≤ 2000 ∧ Sane z ∧ P (outD (outOf R.b (rowsOf z)))
abbrev sp_L_told (K : PySem.W.Frag) : Sp := spD K 2 F_L_told
theorem ok_L_told {P : Program} {w : World} {K : PySem.W.Frag} {mg : Str → Option Value} {base : Heap} (T : Txt K mg w) : Ok P w K mg base CX0 7 (He.ga K "_law_told") ["_law_told_here", "_law_text_here"] (sp_L_told K) := by
  obtain ⟨fd, F⟩ := T.f_L_told
  obtain ⟨fd_read, G_read, b_read⟩ := ok_read (P := P) (w := w) (base := base) T
  refine ⟨fd, F.ok sc_L_told (fun vs H Q E h => len_D h) (fun cdv A outer s H vs Q E hr h => ⟨_, PSs.nox
      (pss_one (z_try (K := K) (i := 2) rfl rfl rfl sc_L_told.nd rfl rfl ⟨rfl, by decide, Or.inl T.g_BankError⟩ takes0 (fun W pn xe tk _ =>
      (pss_one (ps_ret (pe_callS G_read (hr.mono (by first | decide | omega)) rfl T.g_read T.k_read b_read (fun σ => passAt tk σ) (pa_cons (pv 0) (pa_cons (pv 1) pa_nil)))))) (fun a oe cls d pn hz hf =>
      (pss_cons (ps_set (i := 3) sc_L_told.nd rfl (by first | exact Or.inl rfl | exact Or.inr rfl) (pe_or (pe_callB (call_isX (K := K) rfl hz hf) (by rfl) T.n_isinstance (by decide +kernel) (pa_cons (pv 2) (pa_cons (pe_glob (v := .ref (He.ga K "BadAsk")) rfl T.g_BadAsk rfl) pa_nil))) (pe_or (pe_callB (call_isX (K := K) rfl hz hf) (by rfl) T.n_isinstance (by decide +kernel) (pa_cons (pv 2) (pa_cons (pe_glob (v := .ref (He.ga K "BadOrder")) rfl T.g_BadOrder rfl) pa_nil))) (pe_one (pe_callB (call_isX (K := K) rfl hz hf) (by rfl) T.n_isinstance (by decide +kernel) (pa_cons (pv 2) (pa_cons (pe_glob (v := .ref (He.ga K "BadRules")) rfl T.g_BadRules rfl) pa_nil)))))))
      (pss_cons (ps_set (i := 4) sc_L_told.nd rfl (by first | exact Or.inl rfl | exact Or.inr rfl) (pe_lst (pa_cons (pe_callB (call_isX (K := K) rfl hz hf) (by rfl) T.n_isinstance (by decide +kernel) (pa_cons (pv 2) (pa_cons (pe_glob (v := .ref (He.ga K "BadText")) rfl T.g_BadText rfl) pa_nil))) (pa_cons (pe_callB (call_isX (K := K) rfl hz hf) (by rfl) T.n_isinstance (by decide +kernel) (pa_cons (pv 2) (pa_cons (pe_glob (v := .ref (He.ga K "BadPlan")) rfl T.g_BadPlan rfl) pa_nil))) (pa_cons (pv 3) (pa_cons (pe_not (pe_callB (call_isX (K := K) rfl hz hf) (by rfl) T.n_isinstance (by decide +kernel) (pa_cons (pv 2) (pa_cons (pe_bltn (v := .ty "ValueError") (by rfl) T.n_ValueError (by decide +kernel) rfl) pa_nil)))) pa_nil))))))
      (pss_cons (ps_if (pt_cmpR (z_eqD (K := K) rfl hr.units) (pv 4) (pe_lst (pa_cons pe_bl (pa_cons pe_bl (pa_cons pe_bl (pa_cons pe_bl pa_nil))))) (nomark _)) (pss_one (ps_ret (pe_tup (pa_cons pe_str (pa_cons (pe_xf T.xf_BadText T.nf_BadText_row hz hf (pv 2)) pa_nil))))) pss_nil)
      (pss_one (ps_ret (pe_ifExp (pt_cmpR (z_eqD (K := K) rfl hr.units) (pv 4) (pe_lst (pa_cons pe_bl (pa_cons pe_bl (pa_cons pe_bl (pa_cons pe_bl pa_nil))))) (nomark _)) (pe_tup (pa_cons pe_str (pa_cons (pe_xf T.xf_BadPlan T.nf_BadPlan_number hz hf (pv 2)) pa_nil))) pe_non))))))))), ?read⟩), F.bindsN fun _ _ _ _ _ _ us hl => match us, hl with | [_, _], _ => rfl⟩
  case read =>
    obtain ⟨ds, er, P, hl, hr, ⟨R0, z, rfl, hz, hs, hP⟩, hQ, _⟩ := h
    obtain ⟨v1, _, rfl, h1, v2, _, rfl, rfl, rfl⟩ := hr
    have i1 := T.xi_BadText
    have i2 := T.ki_BadText_BadPlan_f
    have i3 := T.ki_BadText_BadRules_f
    have i4 := T.ki_BadText_BadText_t
    have i5 := T.ki_BadText_BadAsk_f
    have i6 := T.ki_BadText_BadOrder_f
    have i7 := T.ki_BadText_ValueError_t
    have j1 := T.xi_BadPlan
    have j2 := T.ki_BadPlan_BadPlan_t
    have j3 := T.ki_BadPlan_BadRules_f
    have j4 := T.ki_BadPlan_BadText_f
    have j5 := T.ki_BadPlan_BadAsk_f
    have j6 := T.ki_BadPlan_BadOrder_f
    have j7 := T.ki_BadPlan_ValueError_t
    have m1 := T.xm_BadText_BankError
    have m2 := T.xm_BadPlan_BankError
    refine w_start (σ' := [some _, some _, none, none, none]) rfl ?_
    obtain ⟨rp, dxr, t, rfl, hi, ht⟩ := rules_ins h1
    walk_at "ss"
    refine w_callS ?_
    walk_at "ss"
    have hds : RL K (fun _ => True) H [rulesD R0, .str z] [.ref rp, .str z] := ⟨_, _, rfl, h1, _, _, rfl, rfl, rfl⟩
    cases ho : outOf R0.b (rowsOf z) with
    | ok pl =>
      rw [ho] at hP
      refine ⟨[rulesD R0, .str z], (fun _ => False), (fun d => d = planG pl), rfl, hds, ⟨R0, z, rfl, hz, hs, by rw [ho]⟩, fun d v H' hd S hr => ?_, fun e cls od H' he => he.elim⟩
      rw [hd] at hr
      exact hQ _ _ _ hP S hr
    | text i =>
      rw [ho] at hP
      refine ⟨[rulesD R0, .str z], (fun e => e = .num "BadText" "row" (i : Nat)), (fun _ => False), rfl, hds, ⟨R0, z, rfl, hz, hs, by rw [ho]⟩, fun d v H' z => z.elim, fun e cls od H' he S hat => ?_⟩
      have S0 : Same H _ := Same.refl _
      rw [he] at hat
      obtain ⟨rfl, d, rfl, hd⟩ := hat
      refine k_as m1 (fun x nx => ?_)
      have hdd : (some d = none) ∨ ∃ dd fs, some d = some dd ∧ H' dd = some (.xd fs) := .inr ⟨d, _, rfl, hd⟩
      refine w_start (σ' := [some _, some _, some (.ref x), none, none]) rfl ?_
      walk_at "ss"
      rename_i p1 np1 S1 p2 np2 S2
      refine d_eq (d := .list [.bool true, .bool false, .bool false, .bool (!true)]) (e := .list [.bool true, .bool false, .bool false, .bool false]) (.lst (SqL.of (S2 _ _ upd_same)) (.cons (.bl _) (.cons (.bl _) (.cons (.bl _) (.cons (.bl _) .nil))))) (.lst (SqL.of upd_same) (.cons (.bl _) (.cons (.bl _) (.cons (.bl _) (.cons (.bl _) .nil))))) rfl rfl ?_
      rw [show PyData.eqv (.list [.bool true, .bool false, .bool false, .bool (!true)]) (.list [.bool true, .bool false, .bool false, .bool false]) = true from rfl]
      have hd2 := S2 _ _ (S1 _ _ hd)
      walk_at "ss"
      refine w_xf ?_
      walk_at "ss"
      refine ⟨rfl, rfl, d, _, _, rfl, hd2, rfl, ?_⟩
      walk_at "ss"
      rename_i p3 np3 S3
      exact hQ _ _ _ hP ((S0.trans S).trans ((S1.trans S2).trans S3)) ⟨p3, _, rfl, SqT.of upd_same, _, _, rfl, rfl, _, _, rfl, rfl, rfl⟩
    | plan i =>
      rw [ho] at hP
      refine ⟨[rulesD R0, .str z], (fun e => e = .num "BadPlan" "number" (i : Nat)), (fun _ => False), rfl, hds, ⟨R0, z, rfl, hz, hs, by rw [ho]⟩, fun d v H' z => z.elim, fun e cls od H' he S hat => ?_⟩
      have S0 : Same H _ := Same.refl _
      rw [he] at hat
      obtain ⟨rfl, d, rfl, hd⟩ := hat
      refine k_as m2 (fun x nx => ?_)
      have hdd : (some d = none) ∨ ∃ dd fs, some d = some dd ∧ H' dd = some (.xd fs) := .inr ⟨d, _, rfl, hd⟩
      refine w_start (σ' := [some _, some _, some (.ref x), none, none]) rfl ?_
      walk_at "ss"
      rename_i p1 np1 S1 p2 np2 S2
      refine d_eq (d := .list [.bool false, .bool true, .bool false, .bool (!true)]) (e := .list [.bool true, .bool false, .bool false, .bool false]) (.lst (SqL.of (S2 _ _ upd_same)) (.cons (.bl _) (.cons (.bl _) (.cons (.bl _) (.cons (.bl _) .nil))))) (.lst (SqL.of upd_same) (.cons (.bl _) (.cons (.bl _) (.cons (.bl _) (.cons (.bl _) .nil))))) rfl rfl ?_
      rw [show PyData.eqv (.list [.bool false, .bool true, .bool false, .bool (!true)]) (.list [.bool true, .bool false, .bool false, .bool false]) = false from rfl]
      walk_at "ss"
      rename_i p3 np3 S3
      refine d_eq (d := .list [.bool false, .bool true, .bool false, .bool (!true)]) (e := .list [.bool false, .bool true, .bool false, .bool false]) (.lst (SqL.of (S3 _ _ (S2 _ _ upd_same))) (.cons (.bl _) (.cons (.bl _) (.cons (.bl _) (.cons (.bl _) .nil))))) (.lst (SqL.of upd_same) (.cons (.bl _) (.cons (.bl _) (.cons (.bl _) (.cons (.bl _) .nil))))) rfl rfl ?_
      rw [show PyData.eqv (.list [.bool false, .bool true, .bool false, .bool (!true)]) (.list [.bool false, .bool true, .bool false, .bool false]) = true from rfl]
      have hd2 := S3 _ _ (S2 _ _ (S1 _ _ hd))
      walk_at "ss"
      refine w_xf ?_
      walk_at "ss"
      refine ⟨rfl, rfl, d, _, _, rfl, hd2, rfl, ?_⟩
      walk_at "ss"
      rename_i p4 np4 S4
      exact hQ _ _ _ hP ((S0.trans S).trans (((S1.trans S2).trans S3).trans S4)) ⟨p4, _, rfl, SqT.of upd_same, _, _, rfl, rfl, _, _, rfl, rfl, rfl⟩
end Bk

/-! Texts spoilt. -/
namespace Bk
open PySem L2 TL
theorem Sane.app {x y : Str} (hx : Sane x) (hy : Sane y) : Sane (x ++ y) := fun c hc => by
  rw [tl_append] at hc
  rcases List.mem_append.mp hc with q | q
  · exact hx c q
  · exact hy c q
theorem Sane.cut {x : Str} (hx : Sane x) (lo hi : Option Int) : Sane (cutS x lo hi) := fun c hc => hx c (List.mem_of_mem_drop (List.mem_of_mem_take hc))
theorem Sane.nil : Sane "" := fun c hc => by
  have e : tl ("" : Str) = [] := by decide +kernel
  rw [e] at hc
  cases hc
theorem Sane.join {y : Str} {ps : List Str} (hy : Sane y) (hp : ∀ p ∈ ps, Sane p) : Sane (Txt.join y ps) := fun c hc => by
  rw [join_eq, tl_join] at hc
  rcases in_joinL hc with q | ⟨p, hm, q⟩
  · exact hy c q
  · obtain ⟨x, hx, rfl⟩ := List.mem_map.mp hm
    exact hp x hx c q
theorem sane_of {z : Str} (h : ((tl z).all fun c => decide (c < 1114112)) = true) : Sane z := fun c hc => of_decide_eq_true (List.all_eq_true.mp h c hc)
theorem sane_nl : Sane "\n" := sane_of (by decide +kernel)
theorem sane_sp : Sane " " := sane_of (by decide +kernel)
/-- how much a list of texts weighs, each with a sign behind it -/
def wt (ls : List Str) : Nat := (ls.map (·.length)).sum + ls.length
theorem wt_app (a b : List Str) : wt (a ++ b) = wt a + wt b := by
  unfold wt
  rw [List.map_append, List.sum_append, List.length_append]
  omega
theorem wt_one (x : Str) : wt [x] = x.length + 1 := by
  unfold wt
  rw [List.map_cons, List.sum_cons]
  rfl
theorem wt_cut (ls : List Str) (n : Nat) : wt (ls.take n) + wt (ls.drop n) = wt ls := by rw [← wt_app, List.take_append_drop]
theorem wt_at {ls : List Str} {n : Nat} {x : Str} (h : ls[n]? = some x) : wt (ls.take n) + (x.length + 1) + wt (ls.drop (n + 1)) = wt ls := by
  have h1 := wt_cut ls n
  have hl := (List.getElem?_eq_some_iff.mp h)
  obtain ⟨hn, hx⟩ := hl
  rw [List.drop_eq_getElem_cons hn, hx] at h1
  have h2 := wt_app [x] (ls.drop (n + 1))
  rw [wt_one] at h2
  have e : [x] ++ ls.drop (n + 1) = x :: ls.drop (n + 1) := rfl
  rw [e] at h2
  omega
theorem wt_le (ls : List Str) : ls.length ≤ wt ls := by unfold wt; omega
theorem wt_lines (z : Str) : wt (Txt.split z "\n") = z.length + 1 := split_sum tl_nl (by decide)
theorem wt_words (z : Str) : wt (Txt.split z " ") = z.length + 1 := split_sum tl_sp (by decide)
theorem join_wt {y : Str} (hy : y.length = 1) (ls : List Str) : (Txt.join y ls).length ≤ wt ls := by
  have := join_len y ls
  rw [hy, Nat.mul_one] at this
  exact this
theorem join_ok {y : Str} (hy : y.length = 1) {ls : List Str} (h : wt ls ≤ 100000) : (ls.map (·.length)).sum + ls.length * y.length ≤ 16777216 := by
  rw [hy, Nat.mul_one]
  show wt ls ≤ _
  omega
theorem nl_len : (Str.ofString "\n").length = 1 := by decide +kernel
theorem sp_len : (Str.ofString " ").length = 1 := by decide +kernel
/-- texts that are sane, in a list -/
def AllS (ls : List Str) : Prop := ∀ p ∈ ls, Sane p
theorem AllS.app {a b : List Str} (ha : AllS a) (hb : AllS b) : AllS (a ++ b) := fun p hp => (List.mem_append.mp hp).elim (ha p) (hb p)
theorem AllS.take {a : List Str} (ha : AllS a) (n : Nat) : AllS (a.take n) := fun p hp => ha p (List.mem_of_mem_take hp)
theorem AllS.drop {a : List Str} (ha : AllS a) (n : Nat) : AllS (a.drop n) := fun p hp => ha p (List.mem_of_mem_drop hp)
theorem AllS.one {x : Str} (h : Sane x) : AllS [x] := fun p hp => by rw [List.mem_singleton.mp hp]; exact h
def oddW : List Str := ["", "0", "4", "99", "100", "99999", "100000", "00", "07", "-1", "open", "shut", "touch", "Open"]
theorem odd_ok : ∀ x ∈ oddW, x.length ≤ 6 ∧ Sane x := by
  have h : (oddW.all fun x => decide (x.length ≤ 6) && (tl x).all fun c => decide (c < 1114112)) = true := by decide +kernel
  intro x hx
  have := List.all_eq_true.mp h x hx
  rw [Bool.and_eq_true, decide_eq_true_iff] at this
  exact ⟨this.1, sane_of this.2⟩
def signsA : Str := Str.ofString "0123456789- openshutac.\n"
def signsB : Str := Str.ofString " !#$&'()*+,-./0123456789:;<=>?@ABCDEFGHIJKLMNOPQRSTUVWXYZ[]^_abcdefghijklmnopqrstuvwxyz{|}~"
theorem signs_ok : (Sane signsA ∧ 0 < signsA.length ∧ signsA.length ≤ 200) ∧ (Sane signsB ∧ 0 < signsB.length ∧ signsB.length ≤ 200) := ⟨⟨sane_of (by decide +kernel), by decide +kernel, by decide +kernel⟩, sane_of (by decide +kernel), by decide +kernel, by decide +kernel⟩
def F_L_spoilt (ds : List D) (P : D → Prop) : Prop := ∃ z : Str, ds = [.str z] ∧ z.length ≤ 5000 ∧ Sane z ∧ ∀ z' : Str, z'.length ≤ 2 * z.length + 20 → Sane z' → P (.str z')
abbrev sp_L_spoilt (K : PySem.W.Frag) : Sp := spR K 2 F_L_spoilt
theorem ok_L_spoilt {P : Program} {w : World} {K : PySem.W.Frag} {mg : Str → Option Value} {base : Heap} (T : Txt K mg w) : Ok P w K mg base CX0 3 (He.ga K "_law_spoilt") ["_law_row", "_law_text_here"] (sp_L_spoilt K) := by
  obtain ⟨fd, F⟩ := T.f_L_spoilt
  obtain ⟨fd_L_taken, G_L_taken, b_L_taken⟩ := ok_L_taken (P := P) (w := w) (base := base) T
  refine ⟨fd, F.ok sc_L_spoilt (fun vs H Q E h => len_R h) (fun cdv A outer s H vs Q E hr h => ⟨_, PSs.nox
      (pss_cons (ps_set (i := 2) sc_L_spoilt.nd rfl (by first | exact Or.inl rfl | exact Or.inr rfl) (pe_call G_L_taken (hr.mono (by first | decide | omega)) rfl T.g__law_taken T.k__law_taken b_L_taken .nil pass0 (pa_cons (pv 0) (pa_cons pe_int pa_nil))))
      (pss_cons (ps_set (i := 3) sc_L_spoilt.nd rfl (by first | exact Or.inl rfl | exact Or.inr rfl) (pe_call G_L_taken (hr.mono (by first | decide | omega)) rfl T.g__law_taken T.k__law_taken b_L_taken .nil pass0 (pa_cons (pv 0) (pa_cons (pe_op op_add (pe_callB call_lenSN (by rfl) T.n_len (by decide +kernel) (pa_cons (pv 1) pa_nil)) pe_int) pa_nil))))
      (pss_cons (ps_set (i := 4) sc_L_spoilt.nd rfl (by first | exact Or.inl rfl | exact Or.inr rfl) pe_str)
      (pss_cons (ps_set (i := 5) sc_L_spoilt.nd rfl (by first | exact Or.inl rfl | exact Or.inr rfl) (pe_ix (z_ixL (K := K) rfl) (pe_lst (pa_cons pe_str (pa_cons (pv 4) pa_nil))) (pe_op op_fdiv (pe_call G_L_taken (hr.mono (by first | decide | omega)) rfl T.g__law_taken T.k__law_taken b_L_taken .nil pass0 (pa_cons (pv 0) (pa_cons pe_int pa_nil))) pe_int) (fun _ _ => rfl)))
      (pss_cons (ps_set (i := 6) sc_L_spoilt.nd rfl (by first | exact Or.inl rfl | exact Or.inr rfl) (pe_ix ix_str (pv 5) (pe_call G_L_taken (hr.mono (by first | decide | omega)) rfl T.g__law_taken T.k__law_taken b_L_taken .nil pass0 (pa_cons (pv 0) (pa_cons (pe_callB call_lenSN (by rfl) T.n_len (by decide +kernel) (pa_cons (pv 5) pa_nil)) pa_nil))) (fun _ _ => rfl)))
      (pss_cons (ps_if (pt_cmpR op_lt (pv 2) pe_int (nomark _)) (pss_one (ps_ret (pe_op op_addSN (pe_op op_addSN (pe_slice sl_str (pv 1) po_none (po_some (pv 3))) (pe_ix (z_ixL (K := K) rfl) (pe_lst (pa_cons (pv 6) (pa_cons pe_str (pa_cons (pv 6) pa_nil)))) (pv 2) (fun _ _ => rfl))) (pe_slice sl_str (pv 1) (po_some (pe_op op_add (pv 3) (pe_callTy call_int1N (by rfl) T.n_int (by decide +kernel) (pa_cons (pe_cmpR op_gt (pv 2) pe_int (nomark _)) pa_nil)))) po_none)))) pss_nil)
      (pss_cons (ps_set (i := 7) sc_L_spoilt.nd rfl (by first | exact Or.inl rfl | exact Or.inr rfl) (z_split (pv 1) pe_str))
      (pss_cons (ps_set (i := 8) sc_L_spoilt.nd rfl (by first | exact Or.inl rfl | exact Or.inr rfl) (pe_call G_L_taken (hr.mono (by first | decide | omega)) rfl T.g__law_taken T.k__law_taken b_L_taken .nil pass0 (pa_cons (pv 0) (pa_cons (pe_callB (z_len (K := K) rfl) (by rfl) T.n_len (by decide +kernel) (pa_cons (pv 7) pa_nil)) pa_nil))))
      (pss_cons (ps_if (pt_cmpR op_eq (pv 2) pe_int (nomark _)) (pss_one (ps_ret (z_join (K := K) rfl pe_str (pe_op op_cat (pe_slice (z_slL (K := K) rfl) (pv 7) po_none (po_some (pv 8))) (pe_slice (z_slL (K := K) rfl) (pv 7) (po_some (pe_op op_add (pv 8) pe_int)) po_none))))) pss_nil)
      (pss_cons (ps_if (pt_cmpR op_eq (pv 2) pe_int (nomark _)) (pss_one (ps_ret (z_join (K := K) rfl pe_str (pe_op op_cat (pe_slice (z_slL (K := K) rfl) (pv 7) po_none (po_some (pe_op op_add (pv 8) pe_int))) (pe_slice (z_slL (K := K) rfl) (pv 7) (po_some (pv 8)) po_none))))) pss_nil)
      (pss_cons (ps_if (pt_cmpR op_eq (pv 2) pe_int (nomark _)) (pss_cons (ps_set (i := 9) sc_L_spoilt.nd rfl (by first | exact Or.inl rfl | exact Or.inr rfl) (pe_call G_L_taken (hr.mono (by first | decide | omega)) rfl T.g__law_taken T.k__law_taken b_L_taken .nil pass0 (pa_cons (pv 0) (pa_cons (pe_callB (z_len (K := K) rfl) (by rfl) T.n_len (by decide +kernel) (pa_cons (pv 7) pa_nil)) pa_nil))))
      (pss_cons (ps_set (i := 10) sc_L_spoilt.nd rfl (by first | exact Or.inl rfl | exact Or.inr rfl) (pe_op op_cat (pe_slice (z_slL (K := K) rfl) (pv 7) po_none (po_some (pv 8))) (pe_slice (z_slL (K := K) rfl) (pv 7) (po_some (pe_op op_add (pv 8) pe_int)) po_none)))
      (pss_one (ps_ret (z_join (K := K) rfl pe_str (pe_op op_cat (pe_op op_cat (pe_slice (z_slL (K := K) rfl) (pv 10) po_none (po_some (pv 9))) (pe_lst (pa_cons (pe_ix (z_ixL (K := K) rfl) (pv 7) (pv 8) (fun _ _ => rfl)) pa_nil))) (pe_slice (z_slL (K := K) rfl) (pv 10) (po_some (pv 9)) po_none))))))) pss_nil)
      (pss_cons (ps_set (i := 11) sc_L_spoilt.nd rfl (by first | exact Or.inl rfl | exact Or.inr rfl) (z_split (pe_ix (z_ixL (K := K) rfl) (pv 7) (pv 8) (fun _ _ => rfl)) pe_str))
      (pss_cons (ps_set (i := 12) sc_L_spoilt.nd rfl (by first | exact Or.inl rfl | exact Or.inr rfl) (pe_call G_L_taken (hr.mono (by first | decide | omega)) rfl T.g__law_taken T.k__law_taken b_L_taken .nil pass0 (pa_cons (pv 0) (pa_cons (pe_callB (z_len (K := K) rfl) (by rfl) T.n_len (by decide +kernel) (pa_cons (pv 11) pa_nil)) pa_nil))))
      (pss_cons (ps_set (i := 13) sc_L_spoilt.nd rfl (by first | exact Or.inl rfl | exact Or.inr rfl) (pe_lst (pa_cons pe_str (pa_cons pe_str (pa_cons pe_str (pa_cons pe_str (pa_cons pe_str (pa_cons pe_str (pa_cons pe_str (pa_cons pe_str (pa_cons pe_str (pa_cons pe_str (pa_cons pe_str (pa_cons pe_str (pa_cons pe_str (pa_cons pe_str pa_nil))))))))))))))))
      (pss_cons (ps_set (i := 11) sc_L_spoilt.nd rfl (by first | exact Or.inl rfl | exact Or.inr rfl) (pe_op op_cat (pe_op op_cat (pe_slice (z_slL (K := K) rfl) (pv 11) po_none (po_some (pv 12))) (pe_ix (z_ixL (K := K) rfl) (pe_lst (pa_cons (pe_lst pa_nil) (pa_cons (pe_lst (pa_cons (pe_ix (z_ixL (K := K) rfl) (pv 11) (pv 12) (fun _ _ => rfl)) (pa_cons (pe_ix (z_ixL (K := K) rfl) (pv 11) (pv 12) (fun _ _ => rfl)) pa_nil))) (pa_cons (pe_lst (pa_cons (pe_ix (z_ixL (K := K) rfl) (pv 13) (pe_call G_L_taken (hr.mono (by first | decide | omega)) rfl T.g__law_taken T.k__law_taken b_L_taken .nil pass0 (pa_cons (pv 0) (pa_cons pe_int pa_nil))) (fun _ _ => rfl)) pa_nil)) pa_nil)))) (pe_op op_sub (pv 2) pe_int) (fun _ _ => rfl))) (pe_slice (z_slL (K := K) rfl) (pv 11) (po_some (pe_op op_add (pv 12) pe_int)) po_none)))
      (pss_one (ps_ret (z_join (K := K) rfl pe_str (pe_op op_cat (pe_op op_cat (pe_slice (z_slL (K := K) rfl) (pv 7) po_none (po_some (pv 8))) (pe_lst (pa_cons (z_join (K := K) rfl pe_str (pv 11)) pa_nil))) (pe_slice (z_slL (K := K) rfl) (pv 7) (po_some (pe_op op_add (pv 8) pe_int)) po_none)))))))))))))))))))), ?read⟩), F.bindsN fun _ _ _ _ _ _ us hl => match us, hl with | [_, _], _ => rfl⟩
  case read =>
    refine run_R (K := K) (XE := E0) 12 (fun i => .fr) _ h (match vs, len_R h with | [_, _], _ => rfl) rfl rfl ?_
    clear h
    rintro xs P ⟨z, rfl, hz, hs, hP⟩
    have hll := lines_len z
    have hln : 0 < (Txt.split z "\n").length := split_ne tl_nl (by decide)
    have hwt := wt_lines z
    have hla : AllS (Txt.split z "\n") := fun p hp => lines_sane hs hp
    walk_at "dd"
    intro way w0 w1
    refine ⟨by omega, by omega, fun at' a0 a1 g g0 g1 => ⟨⟨by decide, by decide⟩, ?_⟩⟩
    obtain ⟨sg, hsg, hs1, hs2, hs3⟩ : ∃ sg : Str, atI [D.str signsA, D.str signsB] (g / 2) = some (D.str sg) ∧ Sane sg ∧ 0 < sg.length ∧ sg.length ≤ 200 := by
      rcases (by omega : g / 2 = 0 ∨ g / 2 = 1) with q | q
      · rw [q]; exact ⟨_, rfl, signs_ok.1⟩
      · rw [q]; exact ⟨_, rfl, signs_ok.2⟩
    refine ⟨_, hsg, sg, rfl, by omega, by omega, fun v v0 v1 => ⟨sg, rfl, by omega, ?_⟩⟩
    obtain ⟨c, hc, hcs⟩ : ∃ c : Nat, atI sg.cps.toList v = some c ∧ Sane ⟨#[c]⟩ := by
      have hv : v.toNat < (tl sg).length := by have := len_tl sg; omega
      refine ⟨(tl sg)[v.toNat], atI_i v0 (List.getElem?_eq_getElem hv), fun x hx => ?_⟩
      have hx' : x ∈ [(tl sg)[v.toNat]] := hx
      rw [List.mem_singleton.mp hx']
      exact hs1 _ (List.getElem_mem hv)
    refine ⟨c, hc, ?_⟩
    have hone : ∀ c : Nat, (⟨#[c]⟩ : Str).length = 1 := fun _ => rfl
    by_cases cw : way < 3
    · rw [if_pos cw]
      obtain ⟨x, hx, hxl, hxs⟩ : ∃ x : Str, atI [D.str ⟨#[c]⟩, D.str (Str.ofString ""), D.str ⟨#[c]⟩] way = some (D.str x) ∧ x.length ≤ 1 ∧ Sane x := by
        rcases (by omega : way = 0 ∨ way = 1 ∨ way = 2) with rfl | rfl | rfl
        · exact ⟨_, rfl, Nat.le_refl _, hcs⟩
        · exact ⟨_, rfl, Nat.zero_le _, Sane.nil⟩
        · exact ⟨_, rfl, Nat.le_refl _, hcs⟩
      have l1 := cutS_length z none (some at')
      have l2 := cutS_length z (some (at' + if 0 < way then 1 else 0)) none
      have e1 : ∀ a b : Str, (a ++ b).length = a.length + b.length := fun a b => by rw [len_tl, tl_append, List.length_append, ← len_tl, ← len_tl]
      refine ⟨by omega, _, hx, x, rfl, by omega, by omega, by rw [e1]; omega, hP _ (by rw [e1, e1]; omega) (((hs.cut _ _).app hxs).app (hs.cut _ _))⟩
    rw [if_neg cw]
    refine ⟨by decide, by omega, by rw [List.length_map]; omega, fun k k0 k1 => ?_⟩
    rw [List.length_map] at k1
    have e3 : Txt.split z (Str.ofString "\n") = Txt.split z "\n" := rfl
    rw [e3]
    generalize Txt.split z "\n" = ls at hll hln hwt hla k1 ⊢
    have hkl : k.toNat < ls.length := by omega
    obtain ⟨row, hrow⟩ : ∃ row, ls[k.toNat]? = some row := ⟨_, List.getElem?_eq_getElem hkl⟩
    have hat : atI ls k = some row := atI_i k0 hrow
    have hw1 := wt_at hrow
    have hk1 : (k + 1).toNat = k.toNat + 1 := by omega
    have hrs : Sane row := hla _ (List.mem_of_getElem? hrow)
    have fin : ∀ ys : List Str, wt ys ≤ 2 * z.length + 20 → AllS ys → ((ys.map fun x => x.length).sum + ys.length * (Str.ofString "\n").length ≤ 16777216 ∧ P (.str (Txt.join (Str.ofString "\n") ys))) := fun ys h1 h2 => ⟨join_ok nl_len (by omega), hP _ (Nat.le_trans (join_wt nl_len ys) h1) (Sane.join sane_nl h2)⟩
    have lw : ∀ xs : List Str, (List.map D.str xs).length ≤ wt xs := fun xs => by rw [List.length_map]; exact wt_le xs
    have c1 : cutL (List.map D.str ls) none (some k) = (ls.take k.toNat).map D.str := by rw [cut_map, cutTo _ k0]
    have c2 : cutL (List.map D.str ls) (some (k + 1)) none = (ls.drop (k.toNat + 1)).map D.str := by rw [cut_map, cutFrom _ (show 0 ≤ k + 1 by omega), hk1]
    have c3 : cutL (List.map D.str ls) none (some (k + 1)) = (ls.take (k.toNat + 1)).map D.str := by rw [cut_map, cutTo _ (show 0 ≤ k + 1 by omega), hk1]
    have c4 : cutL (List.map D.str ls) (some k) none = (ls.drop k.toNat).map D.str := by rw [cut_map, cutFrom _ k0]
    have hc1 := wt_cut ls k.toNat
    have hc2 := wt_cut ls (k.toNat + 1)
    by_cases w3 : way = 3
    · rw [if_pos w3, c1, c2]
      have q1 := lw (ls.take k.toNat)
      have q2 := lw (ls.drop (k.toNat + 1))
      exact ⟨by omega, ls.take k.toNat ++ ls.drop (k.toNat + 1), by rw [List.map_append], fin _ (by rw [wt_app]; omega) ((hla.take _).app (hla.drop _))⟩
    rw [if_neg w3]
    by_cases w4 : way = 4
    · rw [if_pos w4, c3, c4]
      have q1 := lw (ls.take (k.toNat + 1))
      have q2 := lw (ls.drop k.toNat)
      exact ⟨by omega, ls.take (k.toNat + 1) ++ ls.drop k.toNat, by rw [List.map_append], fin _ (by rw [wt_app]; omega) ((hla.take _).app (hla.drop _))⟩
    rw [if_neg w4]
    by_cases w5 : way = 5
    · rw [if_pos w5, c1, c2, hat, List.length_map]
      refine ⟨by omega, fun o o0 o1 => ?_⟩
      have q1 := lw (ls.take k.toNat)
      have q2 := lw (ls.drop (k.toNat + 1))
      refine ⟨by omega, _, rfl, ?_⟩
      rw [← List.map_append]
      have hra : AllS (ls.take k.toNat ++ ls.drop (k.toNat + 1)) := (hla.take _).app (hla.drop _)
      have hrw : wt (ls.take k.toNat ++ ls.drop (k.toNat + 1)) + (row.length + 1) = wt ls := by rw [wt_app]; omega
      generalize ls.take k.toNat ++ ls.drop (k.toNat + 1) = rs at hra hrw ⊢
      rw [cut_map, cut_map, cutTo _ o0, cutFrom _ o0]
      have q3 := lw (rs.take o.toNat)
      have q4 := lw (rs.drop o.toNat)
      have q5 := wt_cut rs o.toNat
      refine ⟨by omega, by rw [List.length_append]; show (List.map D.str (rs.take o.toNat)).length + 1 + _ ≤ _; omega, rs.take o.toNat ++ [row] ++ rs.drop o.toNat, by rw [List.map_append, List.map_append]; rfl, fin _ (by rw [wt_app, wt_app, wt_one]; omega) (((hra.take _).app (AllS.one hrs)).app (hra.drop _))⟩
    rw [if_neg w5, hat]
    have hww := wt_words row
    have hwn : 0 < (Txt.split row " ").length := split_ne tl_sp (by decide)
    have hwa : AllS (Txt.split row " ") := fun p hp => split_sane tl_sp (by decide) hrs hp
    refine ⟨_, rfl, row, rfl, by decide, by omega, by rw [List.length_map]; exact_mod_cast hwn, fun j j0 j1 => ?_⟩
    rw [List.length_map] at j1
    have e4 : Txt.split row (Str.ofString " ") = Txt.split row " " := rfl
    rw [e4] at j1 ⊢
    generalize Txt.split row " " = ws at hww hwn hwa j1 ⊢
    have hjl : j.toNat < ws.length := by omega
    obtain ⟨word, hword⟩ : ∃ word, ws[j.toNat]? = some word := ⟨_, List.getElem?_eq_getElem hjl⟩
    have hjat : atI ws j = some word := atI_i j0 hword
    have hw2 := wt_at hword
    have hj1 : (j + 1).toNat = j.toNat + 1 := by omega
    rw [hjat]
    refine ⟨_, rfl, _, rfl, fun u u0 u1 => ?_⟩
    obtain ⟨od, hod, hodm⟩ : ∃ od : Str, atI (oddW.map D.str) u = some (D.str od) ∧ od ∈ oddW := by
      have hul : u.toNat < oddW.length := by show u.toNat < 14; omega
      exact ⟨oddW[u.toNat], by rw [atI_map, atI_i u0 (List.getElem?_eq_getElem hul)]; rfl, List.getElem_mem hul⟩
    obtain ⟨od1, od2⟩ := odd_ok od hodm
    refine ⟨_, hod, ?_⟩
    obtain ⟨xs, hxs, hxw, hxa⟩ : ∃ xs : List Str, atI [D.lst [], D.lst [D.str word, D.str word], D.lst [D.str od]] (way - 6) = some (D.lst (xs.map D.str)) ∧ wt xs ≤ 2 * (word.length + 1) + 7 ∧ AllS xs := by
      have hws : Sane word := hwa _ (List.mem_of_getElem? hword)
      rcases (by omega : way - 6 = 0 ∨ way - 6 = 1 ∨ way - 6 = 2) with q | q | q
      · rw [q]; exact ⟨[], rfl, Nat.zero_le _, fun p hp => by cases hp⟩
      · rw [q]; exact ⟨[word, word], rfl, by rw [show [word, word] = [word] ++ [word] from rfl, wt_app, wt_one]; omega, (AllS.one hws).app (AllS.one hws)⟩
      · rw [q]; exact ⟨[od], rfl, by rw [wt_one]; omega, AllS.one od2⟩
    refine ⟨_, hxs, _, rfl, ?_⟩
    rw [c1, c2, cut_map, cut_map, cutTo _ j0, cutFrom _ (show 0 ≤ j + 1 by omega), hj1]
    have q1 := lw (ws.take j.toNat)
    have q2 := lw xs
    have q3 := lw (ws.drop (j.toNat + 1))
    have q4 := lw (ls.take k.toNat)
    have q5 := lw (ls.drop (k.toNat + 1))
    have hyw : wt (ws.take j.toNat ++ xs ++ ws.drop (j.toNat + 1)) ≤ 2 * row.length + 9 := by rw [wt_app, wt_app]; omega
    have hya : AllS (ws.take j.toNat ++ xs ++ ws.drop (j.toNat + 1)) := ((hwa.take _).app hxa).app (hwa.drop _)
    refine ⟨by omega, by rw [List.length_append]; omega, ws.take j.toNat ++ xs ++ ws.drop (j.toNat + 1), by rw [List.map_append, List.map_append], ?_⟩
    generalize ws.take j.toNat ++ xs ++ ws.drop (j.toNat + 1) = ys at hyw hya ⊢
    have hjl2 := join_wt sp_len ys
    have hjs : Sane (Txt.join (Str.ofString " ") ys) := Sane.join sane_sp hya
    refine ⟨join_ok sp_len (by omega), ?_⟩
    generalize Txt.join (Str.ofString " ") ys = line at hjl2 hjs ⊢
    refine ⟨by omega, by rw [List.length_append]; show (List.map D.str (ls.take k.toNat)).length + 1 + _ ≤ _; omega, ls.take k.toNat ++ [line] ++ ls.drop (k.toNat + 1), by rw [List.map_append, List.map_append]; rfl, fin _ (by rw [wt_app, wt_app, wt_one]; omega) (((hla.take _).app (AllS.one hjs)).app (hla.drop _))⟩
end Bk

/-! The law. -/
namespace Bk
open PySem L2 TL
theorem ifF {e : Bool} {A : Prop} (h : e = true) (z : A) : if e = false then False else A := by
  rw [if_neg (by rw [h]; decide)]
  exact z
theorem toPs_len (xs : List D) : (toPs xs).length = xs.length := by
  induction xs with
  | nil => rfl
  | cons x xs ih => show (toPs xs).length + 1 = _; rw [ih]; rfl
theorem okAll_m {α : Type} {f : α → D} : ∀ {xs : List α}, (∀ a ∈ xs, okD (toP (f a)) = true) → okAll (toPs (xs.map f)) = true
  | [], _ => rfl
  | x :: xs, h => by
    show (okD (toP (f x)) && okAll (toPs (xs.map f))) = true
    rw [h x List.mem_cons_self, okAll_m fun a ha => h a (List.mem_cons_of_mem _ ha)]
    rfl
theorem plain_dd (d : Deed) : plainD d.dd = true := by
  cases d with
  | nil => rfl
  | mk z ns =>
    show (true && plainDs (ns.map D.int)) = true
    rw [plains_map fun _ => rfl]
    rfl
theorem ok_dd {d : Deed} (h : d.vs.length ≤ 5000) : okD (toP d.dd) = true := by
  cases d with
  | nil => rfl
  | mk z ns =>
    have h' : (ns.map V.int).length + 1 ≤ 5000 := h
    rw [List.length_map] at h'
    show (decide ((toPs (ns.map D.int)).length + 1 ≤ 100000) && (true && okAll (toPs (ns.map D.int)))) = true
    rw [okAll_m (fun _ _ => rfl), toPs_len, List.length_map, decide_eq_true (show ns.length + 1 ≤ 100000 by omega)]
    rfl
theorem dep_dd (d : Deed) : (toP d.dd).depth ≤ 1 := by
  cases d with
  | nil => exact Nat.le_refl _
  | mk z ns =>
    have := dep_map (f := D.int) 0 (fun _ => Nat.le_refl _) ns
    show max (PyData.depth (.str z)) (PyData.depthAll (toPs (ns.map D.int))) + 1 ≤ 1
    have e : PyData.depth (.str z) = 0 := rfl
    omega
theorem plan_alike {pl : List (Int × Deed)} (hl : pl.length ≤ 5000) (h : ∀ x ∈ pl, x.2.vs.length ≤ 5000) : plainD (planG pl) = true ∧ okD (toP (planG pl)) = true ∧ (toP (planG pl)).depth < 8 := by
  refine ⟨?_, ?_, ?_⟩
  · show plainDs (pl.map itG) = true
    refine plains_map (fun x => ?_) pl
    show (true && (plainD x.2.dd && true)) = true
    rw [plain_dd]
    rfl
  · show (decide ((toPs (pl.map itG)).length ≤ 100000) && okAll (toPs (pl.map itG))) = true
    rw [toPs_len, List.length_map, decide_eq_true (show pl.length ≤ 100000 by omega), okAll_m fun x hx => by
      show (decide (2 ≤ 100000) && (true && (okD (toP x.2.dd) && true))) = true
      rw [ok_dd (h x hx)]
      rfl]
    rfl
  · have := dep_map (f := itG) 2 (fun x => by
      have := dep_dd x.2
      show max (PyData.depth (.int x.1)) (max (toP x.2.dd).depth 0) + 1 ≤ 2
      have e : PyData.depth (.int x.1) = 0 := rfl
      omega) pl
    show PyData.depthAll (toPs (pl.map itG)) + 1 < 8
    omega
theorem rowG_vs (ws : List Str) : (rowG ws).2.vs.length ≤ ws.length := by
  rcases ws with _ | ⟨a, _ | ⟨w, r⟩⟩
  · exact Nat.zero_le _
  · exact Nat.zero_le _
  · show ((r.map numV).map V.int).length + 1 ≤ r.length + 1 + 1
    rw [List.length_map, List.length_map]
    omega
theorem rows_size {z : Str} (hz : z.length ≤ 2000) : (rowsOf z).length ≤ 2001 ∧ ∀ ws ∈ rowsOf z, ws.length ≤ 2001 := by
  unfold rowsOf
  by_cases c : z = ""
  · rw [if_pos c]
    exact ⟨Nat.zero_le _, fun ws h => by cases h⟩
  · rw [if_neg c]
    have := lines_len z
    refine ⟨by rw [List.length_map]; omega, fun ws h => ?_⟩
    obtain ⟨y, hy, rfl⟩ := List.mem_map.mp h
    have h1 := lines_part hy
    have h2 := words_len y
    show (words y).length ≤ 2001
    omega
theorem out_alike {b : Int} {z : Str} (hz : z.length ≤ 2000) : plainD (outD (outOf b (rowsOf z))) = true ∧ okD (toP (outD (outOf b (rowsOf z)))) = true ∧ (toP (outD (outOf b (rowsOf z)))).depth < 8 := by
  obtain ⟨h1, h2⟩ := rows_size hz
  unfold outOf
  cases fstNo rowOk (rowsOf z) 0 with
  | some i => exact ⟨rfl, rfl, by show 1 < 8; decide⟩
  | none =>
    dsimp only
    cases fstNo (fun x : Int × Deed => okDeed b x.2) ((rowsOf z).map rowG) 0 with
    | some i => exact ⟨rfl, rfl, by show 1 < 8; decide⟩
    | none =>
      refine plan_alike (by rw [List.length_map]; omega) fun x hx => ?_
      obtain ⟨ws, hw, rfl⟩ := List.mem_map.mp hx
      have := rowG_vs ws
      have := h2 ws hw
      omega
theorem text_sane {pl : List (Int × Dx)} (h : ∀ y ∈ pl, RowOk10 y) : Sane (textOf pl) := by
  refine Sane.join sane_nl fun p hp => ?_
  obtain ⟨y, hy, rfl⟩ := List.mem_map.mp hp
  refine Sane.join sane_sp fun q hq c hc => ?_
  rcases (words_ok (h y hy) q hq).1 c hc with w | w <;> omega
/-- the law's own odd texts -/
def odd11 : List Str :=
  ["", " ", "\n",
   "0", "0 open",
   "0 open 0 0", "0 open 0",
   "0 touch 4",
   "5 open 0 100\n",
   "1 open 0 0 ",
   "0 touch 0\n0 shut",
   "99999 shut 0",
   "0 open 9 0\n1 open 0 00"]
theorem odd11_ok : ∀ x ∈ odd11, x.length ≤ 2000 ∧ Sane x := by
  have h : (odd11.all fun x => decide (x.length ≤ 2000) && (tl x).all fun c => decide (c < 1114112)) = true := by decide +kernel
  intro x hx
  have := List.all_eq_true.mp h x hx
  rw [Bool.and_eq_true, decide_eq_true_iff] at this
  exact ⟨this.1, sane_of this.2⟩
theorem ok_law {P : Program} {w : World} {K : PySem.W.Frag} {mg : Str → Option Value} {base : Heap} {fd : FuncData} (T : Txt K mg w) (F : FunD K "law" "law" (defArgs s_law) (defBody s_law) (defScope s_law) [] [] (He.ga K "law") fd) : FnOk P w K mg base CX0 9 (He.ga K "law") fd ["_law_script"] (sp_law K) := by
  obtain ⟨fd_L_rules, G_L_rules, b_L_rules⟩ := ok_L_rules (P := P) (w := w) (base := base) T
  obtain ⟨fd_Rules_init, G_Rules_init, b_Rules_init⟩ := ok_Rules_init (P := P) (w := w) (base := base) T
  obtain ⟨fd_L_asks, G_L_asks, b_L_asks⟩ := ok_L_asks (P := P) (w := w) (base := base) T
  obtain ⟨fd_L_text, G_L_text, b_L_text⟩ := ok_L_text (P := P) (w := w) (base := base) T
  obtain ⟨fd_L_plan, G_L_plan, b_L_plan⟩ := ok_L_plan (P := P) (w := w) (base := base) T
  obtain ⟨fd_L_order, G_L_order, b_L_order⟩ := ok_L_order (P := P) (w := w) (base := base) T
  obtain ⟨fd_L_taken, G_L_taken, b_L_taken⟩ := ok_L_taken (P := P) (w := w) (base := base) T
  obtain ⟨fd_L_spoilt, G_L_spoilt, b_L_spoilt⟩ := ok_L_spoilt (P := P) (w := w) (base := base) T
  obtain ⟨fd_L_alike, G_L_alike, b_L_alike⟩ := ok_L_alike (P := P) (w := w) (base := base) T
  obtain ⟨fd_L_told, G_L_told, b_L_told⟩ := ok_L_told (P := P) (w := w) (base := base) T
  obtain ⟨fd_L_due, G_L_due, b_L_due⟩ := ok_L_due (P := P) (w := w) (base := base) T
  refine F.ok sc_law (fun vs H Q E h => ?len) (fun cdv A outer s H vs Q E hr h => ⟨_, PSs.nox
      (pss_cons (ps_set (i := 1) sc_law.nd rfl (by first | exact Or.inl rfl | exact Or.inr rfl) (pe_lst (pa_cons (pv 0) (pa_cons pe_int (pa_cons pe_int pa_nil)))))
      (pss_cons (ps_for PassesOwn.never rfl (pi_range1 rfl T.n_range (pa_cons pe_int pa_nil)) (pg_name (i := 2) sc_law.nd rfl (by first | exact Or.inl rfl | exact Or.inr rfl)) (pss_cons (ps_set (i := 3) sc_law.nd rfl (by first | exact Or.inl rfl | exact Or.inr rfl) (pe_call G_L_rules (hr.mono (by first | decide | omega)) rfl T.g__law_rules T.k__law_rules b_L_rules .nil pass0 (pa_cons (pv 1) pa_nil)))
      (pss_cons (ps_set (i := 4) sc_law.nd rfl (by first | exact Or.inl rfl | exact Or.inr rfl) (pe_make T.mk_Rules G_Rules_init (hr.mono (by first | decide | omega)) rfl T.g_Rules b_Rules_init .nil passL (pa_cons (pe_ix (z_ixT (K := K) rfl) (pv 3) pe_int (fun _ _ => rfl)) (pa_cons (pe_ix (z_ixT (K := K) rfl) (pv 3) pe_int (fun _ _ => rfl)) pa_nil))))
      (pss_cons (ps_set (i := 5) sc_law.nd rfl (by first | exact Or.inl rfl | exact Or.inr rfl) (pe_call G_L_asks (hr.mono (by first | decide | omega)) rfl T.g__law_asks T.k__law_asks b_L_asks .nil pass0 (pa_cons (pv 1) (pa_cons (pe_ix (z_ixT (K := K) rfl) (pv 3) pe_int (fun _ _ => rfl)) (pa_cons pe_int pa_nil)))))
      (pss_cons (ps_set (i := 6) sc_law.nd rfl (by first | exact Or.inl rfl | exact Or.inr rfl) (pe_call G_L_text (hr.mono (by first | decide | omega)) rfl T.g__law_text T.k__law_text b_L_text .nil pass0 (pa_cons (pe_call G_L_plan (hr.mono (by first | decide | omega)) rfl T.g__law_plan T.k__law_plan b_L_plan .nil pass0 (pa_cons (pv 3) (pa_cons (pv 5) (pa_cons (pe_call G_L_order (hr.mono (by first | decide | omega)) rfl T.g__law_order T.k__law_order b_L_order .nil pass0 (pa_cons (pv 1) (pa_cons (pe_callB (z_len (K := K) rfl) (by rfl) T.n_len (by decide +kernel) (pa_cons (pv 5) pa_nil)) pa_nil))) pa_nil)))) pa_nil)))
      (pss_cons (ps_for PassesOwn.never rfl (pi_range1 rfl T.n_range (pa_cons (pe_call G_L_taken (hr.mono (by first | decide | omega)) rfl T.g__law_taken T.k__law_taken b_L_taken .nil pass0 (pa_cons (pv 1) (pa_cons pe_int pa_nil))) pa_nil)) (pg_name (i := 7) sc_law.nd rfl (by first | exact Or.inl rfl | exact Or.inr rfl)) (pss_one (ps_set (i := 6) sc_law.nd rfl (by first | exact Or.inl rfl | exact Or.inr rfl) (pe_call G_L_spoilt (hr.mono (by first | decide | omega)) rfl T.g__law_spoilt T.k__law_spoilt b_L_spoilt .nil pass0 (pa_cons (pv 1) (pa_cons (pv 6) pa_nil))))))
      (pss_cons (ps_set (i := 8) sc_law.nd rfl (by first | exact Or.inl rfl | exact Or.inr rfl) (pe_lst (pa_cons pe_str (pa_cons pe_str (pa_cons pe_str (pa_cons pe_str (pa_cons pe_str (pa_cons pe_str (pa_cons pe_str (pa_cons pe_str (pa_cons pe_str (pa_cons pe_str pa_nil))))))))))))
      (pss_cons (ps_set (i := 8) sc_law.nd rfl (by first | exact Or.inl rfl | exact Or.inr rfl) (pe_op op_cat (pv 8) (pe_lst (pa_cons pe_str (pa_cons pe_str (pa_cons pe_str pa_nil))))))
      (pss_one (ps_for PassesOwn.never rfl (z_iL (K := K) rfl (pe_lst (pa_cons (pv 6) (pa_cons (pe_ix (z_ixL (K := K) rfl) (pv 8) (pe_call G_L_taken (hr.mono (by first | decide | omega)) rfl T.g__law_taken T.k__law_taken b_L_taken .nil pass0 (pa_cons (pv 1) (pa_cons pe_int pa_nil))) (fun _ _ => rfl)) pa_nil)))) (pg_name (i := 9) sc_law.nd rfl (by first | exact Or.inl rfl | exact Or.inr rfl)) (pss_one (ps_if (pt_not (pt_val (pe_call G_L_alike (hr.mono (by first | decide | omega)) rfl T.g__law_alike T.k__law_alike b_L_alike .nil pass0 (pa_cons (pe_call G_L_told (hr.mono (by first | decide | omega)) rfl T.g__law_told T.k__law_told b_L_told .nil pass0 (pa_cons (pv 4) (pa_cons (pv 9) pa_nil))) (pa_cons (pe_call G_L_due (hr.mono (by first | decide | omega)) rfl T.g__law_due T.k__law_due b_L_due .nil pass0 (pa_cons (pe_ix (z_ixT (K := K) rfl) (pv 3) pe_int (fun _ _ => rfl)) (pa_cons (pv 9) pa_nil))) pa_nil))))) (pss_one (ps_ret pe_bl)) pss_nil))))))))))))
      (pss_one (ps_ret pe_bl)))), ?read⟩)
  case len =>
    obtain ⟨_, _, rfl, _⟩ := h
    rfl
  case read =>
    obtain ⟨s0, ns, rfl, hs, hQ⟩ := h
    refine w_start (σ' := [some _, none, none, none, none, none, none, none, none, none]) rfl ?_
    refine law_start hs fun r H' hr0 => ?_
    refine run_L (K := K) (fun _ => .fr) _ [.un, .row, .un, .un, .un, .un, .un, .un, .un, .un] hr0 rfl hQ ⟨trivial, ⟨r, rfl, rfl⟩, trivial, trivial, trivial, trivial, trivial, trivial, trivial, trivial, trivial⟩ ?_
    walk_at "dd"
    refine dFor_of .sh (.inl rfl) (rngD 0 4) (fun P hP => by walk_at "dd"; exact ⟨by decide, by decide, hP⟩) (fun i ρ' => ∃ s2 s3 s4 s5 s6 s7 s8 s9, ρ' = [.un, .row, s2, s3, s4, s5, s6, s7, s8, s9]) ⟨_, _, _, _, _, _, _, _, rfl⟩ ?_ ?_
    · rintro i x ρ' hx ⟨s2, s3, s4, s5, s6, s7, s8, s9, rfl⟩
      obtain ⟨rfl, hi⟩ := rng_at hx
      walk_at "dd"
      intro R hok
      refine ⟨R, rfl, rfl, rfl, rfl, rfl, rfl, rfl, hok, R.b, 5, rfl, hok.1, hok.2.1, by decide, by decide, fun as hal has => ?_⟩
      have hal5 : as.length ≤ 5 := hal
      have htm := hok.times
      walk_at "dd"
      refine ⟨as.length, by rw [List.length_map], by omega, by omega, fun os hos => ?_⟩
      rw [show ((as.length : Nat) : Int).toNat = as.length by omega] at hos
      have hol : os.length = as.length := by have := hos.length_eq; rwa [List.length_range] at this
      have hlt : ∀ o ∈ os, o < as.length := fun o ho => List.mem_range.mp (hos.mem_iff.mp ho)
      obtain ⟨hpr, hpl⟩ := plan_rows hok has hlt (by omega)
      refine ⟨R, as, os, rfl, hok, has, hlt, by omega, by omega, ?_⟩
      generalize sortPl (tabOf R (selA as os)).pl = pl at hpr hpl
      refine ⟨pl, rfl, hpr, by omega, ?_⟩
      have htl := text_len hpr
      have hts := text_sane hpr
      generalize textOf pl = z0 at htl hts
      refine dFor_w .sh (.inl rfl) (fun xs => ∃ v : Nat, v ≤ 2 ∧ xs = rngD 0 v) (fun P hP => ?_) ?_
      · walk_at "dd"
        exact fun v h2 h3 => ⟨by omega, by omega, hP _ ⟨v.toNat, by omega, rfl⟩⟩
      rintro _ ⟨u, hu, rfl⟩
      refine ⟨fun j ρ' => ∃ (z : Str) (s7 : Sl), ρ' = [.un, .row, .fr (.int (0 + (i : Int))), .fr (rulesT R.b R.ts), .fr (rulesD R), .fr (asksD as), .fr (.str z), s7, s8, s9] ∧ z.length + 20 ≤ 395 * 2 ^ j ∧ Sane z, ⟨z0, _, rfl, by show z0.length + 20 ≤ 395; omega, hts⟩, ?_, ?_⟩
      · rintro j x ρ' hx ⟨z, s7, rfl, hzl, hzs⟩
        obtain ⟨rfl, hj⟩ := rng_at hx
        have h2j : (2 : Nat) ^ j ≤ 2 := by
          rcases (by omega : j = 0 ∨ j = 1) with rfl | rfl <;> decide
        walk_at "dd"
        refine ⟨z, rfl, by omega, hzs, fun z' hz' hs' => ?_⟩
        exact ⟨z', rfl, by rw [Nat.pow_succ]; omega, hs'⟩
      · rintro ρ' ⟨z, s7, rfl, hzl, hzs⟩
        rw [rng_len] at hzl
        have h2u : (2 : Nat) ^ u ≤ 4 := by
          rcases (by omega : u = 0 ∨ u = 1 ∨ u = 2) with rfl | rfl | rfl <;> decide
        have hz2 : z.length ≤ 2000 := by omega
        clear hzl htl hts hpr hpl
        walk_at "dd"
        refine dFor_w .sh (.inl rfl) (fun xs => ∃ od ∈ odd11, xs = [D.str z, D.str od]) (fun P hP => ?_) ?_
        · walk_at "dd"
          intro v v0 v1
          have hvl : v.toNat < odd11.length := by show v.toNat < 13; omega
          have hat : atI (odd11.map D.str) v = some (D.str odd11[v.toNat]) := by
            rw [atI_map, atI_i v0 (List.getElem?_eq_getElem hvl)]
            rfl
          exact ⟨_, hat, hP _ ⟨_, List.getElem_mem hvl, rfl⟩⟩
        rintro _ ⟨od, hod, rfl⟩
        obtain ⟨od1, od2⟩ := odd11_ok od hod
        refine ⟨fun j ρ' => ∃ s9, ρ' = [.un, .row, .fr (.int (0 + (i : Int))), .fr (rulesT R.b R.ts), .fr (rulesD R), .fr (asksD as), .fr (.str z), s7, .fr (.lst (odd11.map D.str)), s9], ⟨_, rfl⟩, ?_, ?_⟩
        · rintro j x ρ' hx ⟨s9, rfl⟩
          obtain ⟨y, rfl, hy1, hy2⟩ : ∃ y : Str, x = .str y ∧ y.length ≤ 2000 ∧ Sane y := by
            match j, hx with
            | 0, hx => cases hx; exact ⟨z, rfl, hz2, hzs⟩
            | 1, hx => cases hx; exact ⟨od, rfl, od1, od2⟩
          walk_at "dd"
          obtain ⟨o1, o2, o3⟩ := out_alike (b := R.b) hy1
          refine ⟨.str y, rfl, R, y, rfl, hy1, hy2, ?_⟩
          dsimp only
          refine ⟨.str y, rfl, R.b, y, rfl, hy1, hy2, ?_⟩
          refine ⟨_, rfl, o1, o2, o3, true, rfl, ?_⟩
          rw [if_neg (by decide)]
          exact ⟨_, rfl⟩
        · rintro ρ' ⟨s9, rfl⟩
          exact ⟨_, _, _, _, _, _, _, _, rfl⟩
    · rintro ρ' ⟨s2, s3, s4, s5, s6, s7, s8, s9, rfl⟩
      walk_at "dd"
end Bk

namespace Bk
open PySem L2
open Bk.En
theorem facts {P : Program} {w : World} {K : PySem.W.Frag} {h : Heap} {mg : Str → Option Value} (X : K.In h) (G : h.Ns mainGlobals mg) (c : SaysX fa exs fn K) (cl : dicB K (He.ga K "LENGTHS") = lenW w.params) : Txt K mg w where
  lens := lenD_of cl
  bk_BankError := bkB_ok (c.extra 0 rfl)
  c_FIGURES := He.str_ok X G (c.fact 0 rfl)
  c_MOST_BANKS := He.int_ok X G (c.fact 1 rfl)
  c_MOST_FIGURES := He.int_ok X G (c.fact 2 rfl)
  c_MOST_ROW := He.int_ok X G (c.fact 3 rfl)
  c_MOST_TIME := He.int_ok X G (c.fact 4 rfl)
  c_TIMES := He.int_ok X G (c.fact 5 rfl)
  cl_Rules := He.cls_ok (c.fact 6 rfl)
  f_BadPlan_init := c.def_ 0 (d := d_BadPlan_init) rfl
  f_BadText_init := c.def_ 1 (d := d_BadText_init) rfl
  f_Rules_init := c.def_ 2 (d := d_Rules_init) rfl
  f_L_alike := c.def_ 3 (d := d_L_alike) rfl
  f_L_asks := c.def_ 4 (d := d_L_asks) rfl
  f_L_due := c.def_ 5 (d := d_L_due) rfl
  f_L_number := c.def_ 6 (d := d_L_number) rfl
  f_L_order := c.def_ 7 (d := d_L_order) rfl
  f_L_placed := c.def_ 8 (d := d_L_placed) rfl
  f_L_plan := c.def_ 9 (d := d_L_plan) rfl
  f_L_rules := c.def_ 10 (d := d_L_rules) rfl
  f_L_spoilt := c.def_ 11 (d := d_L_spoilt) rfl
  f_L_spot := c.def_ 12 (d := d_L_spot) rfl
  f_L_taken := c.def_ 13 (d := d_L_taken) rfl
  f_L_text := c.def_ 14 (d := d_L_text) rfl
  f_L_told := c.def_ 15 (d := d_L_told) rfl
  f_is_deed := c.def_ 16 (d := d_is_deed) rfl
  f_law := c.def_ 17 (d := d_law) rfl
  f_need_plan := c.def_ 18 (d := d_need_plan) rfl
  f_number_of := c.def_ 19 (d := d_number_of) rfl
  f_read := c.def_ 20 (d := d_read) rfl
  g_BadAsk := He.glo_ok X G (c.fact 7 rfl)
  g_BadOrder := He.glo_ok X G (c.fact 8 rfl)
  g_BadPlan := He.glo_ok X G (c.fact 9 rfl)
  g_BadRules := He.glo_ok X G (c.fact 10 rfl)
  g_BadText := He.glo_ok X G (c.fact 11 rfl)
  g_BankError := He.glo_ok X G (c.fact 12 rfl)
  g_LENGTHS := He.glo_ok X G (c.fact 13 rfl)
  g_Rules := He.glo_ok X G (c.fact 14 rfl)
  g__law_alike := He.glo_ok X G (c.fact 15 rfl)
  g__law_asks := He.glo_ok X G (c.fact 16 rfl)
  g__law_due := He.glo_ok X G (c.fact 17 rfl)
  g__law_number := He.glo_ok X G (c.fact 18 rfl)
  g__law_order := He.glo_ok X G (c.fact 19 rfl)
  g__law_placed := He.glo_ok X G (c.fact 20 rfl)
  g__law_plan := He.glo_ok X G (c.fact 21 rfl)
  g__law_rules := He.glo_ok X G (c.fact 22 rfl)
  g__law_spoilt := He.glo_ok X G (c.fact 23 rfl)
  g__law_spot := He.glo_ok X G (c.fact 24 rfl)
  g__law_taken := He.glo_ok X G (c.fact 25 rfl)
  g__law_text := He.glo_ok X G (c.fact 26 rfl)
  g__law_told := He.glo_ok X G (c.fact 27 rfl)
  g_is_deed := He.glo_ok X G (c.fact 28 rfl)
  g_law := He.glo_ok X G (c.fact 29 rfl)
  g_need_plan := He.glo_ok X G (c.fact 30 rfl)
  g_number_of := He.glo_ok X G (c.fact 31 rfl)
  g_read := He.glo_ok X G (c.fact 32 rfl)
  ii_BadPlan := of_decide_eq_true (c.extra 1 rfl)
  ii_BadText := of_decide_eq_true (c.extra 2 rfl)
  it_BadPlan := of_decide_eq_true (c.extra 3 rfl)
  it_BadText := of_decide_eq_true (c.extra 4 rfl)
  k_BadRules := He.keep_ok (c.fact 33 rfl)
  k__law_alike := He.keep_ok (c.fact 34 rfl)
  k__law_asks := He.keep_ok (c.fact 35 rfl)
  k__law_due := He.keep_ok (c.fact 36 rfl)
  k__law_number := He.keep_ok (c.fact 37 rfl)
  k__law_order := He.keep_ok (c.fact 38 rfl)
  k__law_placed := He.keep_ok (c.fact 39 rfl)
  k__law_plan := He.keep_ok (c.fact 40 rfl)
  k__law_rules := He.keep_ok (c.fact 41 rfl)
  k__law_spoilt := He.keep_ok (c.fact 42 rfl)
  k__law_spot := He.keep_ok (c.fact 43 rfl)
  k__law_taken := He.keep_ok (c.fact 44 rfl)
  k__law_text := He.keep_ok (c.fact 45 rfl)
  k__law_told := He.keep_ok (c.fact 46 rfl)
  k_is_deed := He.keep_ok (c.fact 47 rfl)
  k_need_plan := He.keep_ok (c.fact 48 rfl)
  k_number_of := He.keep_ok (c.fact 49 rfl)
  k_read := He.keep_ok (c.fact 50 rfl)
  ki_BadPlan_BadAsk_f := of_decide_eq_true (c.extra 5 rfl)
  ki_BadPlan_BadOrder_f := of_decide_eq_true (c.extra 6 rfl)
  ki_BadPlan_BadPlan_t := of_decide_eq_true (c.extra 7 rfl)
  ki_BadPlan_BadRules_f := of_decide_eq_true (c.extra 8 rfl)
  ki_BadPlan_BadText_f := of_decide_eq_true (c.extra 9 rfl)
  ki_BadPlan_ValueError_t := of_decide_eq_true (c.extra 10 rfl)
  ki_BadText_BadAsk_f := of_decide_eq_true (c.extra 11 rfl)
  ki_BadText_BadOrder_f := of_decide_eq_true (c.extra 12 rfl)
  ki_BadText_BadPlan_f := of_decide_eq_true (c.extra 13 rfl)
  ki_BadText_BadRules_f := of_decide_eq_true (c.extra 14 rfl)
  ki_BadText_BadText_t := of_decide_eq_true (c.extra 15 rfl)
  ki_BadText_ValueError_t := of_decide_eq_true (c.extra 16 rfl)
  mk_Rules := He.mkr_ok (c.fact 51 rfl)
  n_ValueError := He.free_ok X G (c.fact 52 rfl)
  n_abs := He.free_ok X G (c.fact 53 rfl)
  n_bool := He.free_ok X G (c.fact 54 rfl)
  n_int := He.free_ok X G (c.fact 55 rfl)
  n_isinstance := He.free_ok X G (c.fact 56 rfl)
  n_len := He.free_ok X G (c.fact 57 rfl)
  n_list := He.free_ok X G (c.fact 58 rfl)
  n_max := He.free_ok X G (c.fact 59 rfl)
  n_range := He.free_ok X G (c.fact 60 rfl)
  n_sorted := He.free_ok X G (c.fact 61 rfl)
  n_str := He.free_ok X G (c.fact 62 rfl)
  n_tuple := He.free_ok X G (c.fact 63 rfl)
  na_Rules_gap := He.noat_ok (c.fact 64 rfl)
  na_Rules_hold := He.noat_ok (c.fact 65 rfl)
  na_Rules_keep := He.noat_ok (c.fact 66 rfl)
  na_Rules_many := He.noat_ok (c.fact 67 rfl)
  na_Rules_open_time := He.noat_ok (c.fact 68 rfl)
  na_Rules_rest := He.noat_ok (c.fact 69 rfl)
  na_Rules_told := He.noat_ok (c.fact 70 rfl)
  na_Rules_wire := He.noat_ok (c.fact 71 rfl)
  nf_BadPlan_number := of_decide_eq_true (c.extra 17 rfl)
  nf_BadText_row := of_decide_eq_true (c.extra 18 rfl)
  ox_BadPlan := oexB_ok (c.extra 19 rfl)
  ox_BadText := oexB_ok (c.extra 20 rfl)
  xb_BadRules := (fun c => (He.exc_ok c).2.2.1) (c.fact 72 rfl)
  xc_BadRules := (fun c => (He.exc_ok c).1) (c.fact 72 rfl)
  xf_BadPlan := xfB_ok (c.extra 21 rfl)
  xf_BadText := xfB_ok (c.extra 22 rfl)
  xi_BadPlan := xcB_ok (c.extra 23 rfl)
  xi_BadText := xcB_ok (c.extra 24 rfl)
  xm_BadPlan_BankError := He.exm_ok (c.fact 73 rfl)
  xm_BadText_BankError := He.exm_ok (c.fact 74 rfl)
  xt_BadRules := (fun c => (He.exc_ok c).2.2.2) (c.fact 72 rfl)
end Bk
open PySem PySem.W PySem.Calls PyProof.Rows
set_option maxRecDepth 100000 in
set_option maxHeartbeats 0 in
theorem PySem.Challenge.cw_bankrows_k11_texts_that_tell_no_plan_holds : PySem.Challenge.rw_bankrows_k11_texts_that_tell_no_plan.Holds := by
  w_on; o_law
  refine HandSHeadRun.head_any (r := OpenLaw.row PySem.Challenge.rw_bankrows_k11_texts_that_tell_no_plan) (q := view (OpenLaw.row PySem.Challenge.rw_bankrows_k11_texts_that_tell_no_plan).prog [36]) (H := Bk.En.hk) (ob := Bk.En.ob) (M := 4000) (loose := Bk.En.loose) (d := HandSHeadRun.topDef (OpenLaw.row PySem.Challenge.rw_bankrows_k11_texts_that_tell_no_plan).prog 36) (kwd := []) Bk.En.ob_eq
    (by kernel_rfl) (fun s => by kernel_rfl) Bk.En.run (by kernel_rfl) (by kernel_rfl) (by kernel_rfl) (by rfl) (by first | assumption | decide +kernel) (by decide +kernel) ⟨rfl, rfl, rfl, rfl, rfl, by decide +kernel⟩ ?hw ?hc
  case hw => w_witness2
  case hc =>
    refine L2.walk_ofE (l := PySem.Challenge.rw_bankrows_k11_texts_that_tell_no_plan) (n := 63) (k := 9) (x := "_law_script") (CX := L2.CX0) rfl (by decide) (by kernel_rfl) ⟨rfl, by decide, by decide⟩ ?F (fun _ _ _ _ z => z)
    intro w mg fa h Y G hmg0
    obtain ⟨K, KX, c, cl⟩ := Y
    have hmg : mg ("law" : PySem.Str) = some (.ref fa) := by
      have e : (HandSHeadRun.topDef (OpenLaw.row PySem.Challenge.rw_bankrows_k11_texts_that_tell_no_plan).prog 36).name = ("law" : PySem.Str) := by kernel_rfl
      rw [← e]
      exact hmg0
    have T : Bk.Txt K mg w := Bk.facts (P := (PySem.Challenge.rw_bankrows_k11_texts_that_tell_no_plan).prog) (w := w) KX G c cl
    obtain ⟨fd, F⟩ := T.f_law
    have e : fa = He.ga K "law" := by
      have q := hmg.symm.trans T.g_law
      cases q
      rfl
    subst e
    exact ⟨K, fd, Bk.sp_law K, KX, fun s u => L2.FunD.bindsA (ps := ["_law_script"]) F (fun _ _ _ _ _ _ us hl => match us, hl with | [_], _ => rfl) s [u] rfl, fun H a ns _ hO hS => ⟨a, ns, rfl, Bk.scr_of hO hS, fun _ => rfl⟩, fun base _ _ => Bk.ok_law T F⟩
#print axioms PySem.Challenge.cw_bankrows_k11_texts_that_tell_no_plan_holds
