import PyProof.Rows.All
import Wide.All
import OpenK.AllK
import Wide.FinOn
import KE.KStateDown
import KE.KExcIs
import HandS.ForMost
import HandS.ForExc
import HandS.Defaults
import HandS.Walk
import HandS.IsInst
import HandS.Deep
import HandS.ExcInit
import HandS.ExcField
import HandS.ExcIs
import HandS.TupAny
import HandS.More
import HandS.SortInts
import HandS.SortOrd
import HandS.HotCalls
import HandS.Head0
import HandS.Head1
import HandS.Head2
import HandS.HeadEnd
import HandS.HeadHook1
import HandS.HeadHook2
import KE.DatumOrd
import PySem.Challenge.RW_bankrows_k08_rules_that_are_none
set_option Elab.async false
set_option linter.all false
set_option maxRecDepth 100000
set_option maxHeartbeats 1000000
/-! The small layer of this claim: one lemma a reading, by names, so that a step is one refine. -/
namespace Bk
open PySem L2
theorem u65 {k : Nat} {A : Around} (h : Room k A) : A.units + 65 < cLine := by
  have := h.un
  omega
theorem u64 {k : Nat} {A : Around} (h : Room k A) : A.units + 64 < cLine := h.units
/-- a def that keeps its promise, with its object and how its arguments bind -/
abbrev Ok (P : Program) (w : World) (K : PySem.W.Frag) (mg : Str → Option Value) (base : Heap) (CX : CXT) (k : Nat) (f : Addr) (ps : List Str) (sp : Sp) : Prop :=
  ∃ fd : FuncData, FnOk P w K mg base CX k f fd ps sp ∧ Binds K fd ps []
abbrev Fd (K : PySem.W.Frag) (x q : Str) (st : Stmt) (f : Addr) : Prop := ∃ fd : FuncData, FunD K x q (defArgs st) (defBody st) (defScope st) [] [] f fd
section
variable {K : PySem.W.Frag} {σ : St} {H : Hp} {Q : VK} {QB : Bool → Hp → Prop} {QA : List V → Hp → Prop} {QS : St → Hp → Prop} {nx bk ct : St → Hp → Prop} {rt : VK} {ta tb tc te tx to ti : TE} {tt tu : TT} {tr : TA} {g g' : TG} {gs : TGs} {t u : TS} {x y z v : V} {r r' : R2} {E : XK}
theorem w_start {D : Ends} {σ' : L2.St} (e : σ = σ') (h : t D σ' H) : t D σ H := by rw [e]; exact h
theorem w_seq  (h : t ⟨u ⟨nx, rt, bk, ct⟩, rt, bk, ct⟩ σ H) : tSeq t u ⟨nx, rt, bk, ct⟩ σ H := h
theorem w_next  (h : nx σ H) : tNext ⟨nx, rt, bk, ct⟩ σ H := h
theorem w_brk  (h : bk σ H) : tBreak ⟨nx, rt, bk, ct⟩ σ H := h
theorem w_cont  (h : ct σ H) : tCont ⟨nx, rt, bk, ct⟩ σ H := h
theorem w_drop  (h : te σ H fun _ H1 => nx σ H1) : tDrop te ⟨nx, rt, bk, ct⟩ σ H := h
theorem w_ret  (h : te σ H rt) : tRet te ⟨nx, rt, bk, ct⟩ σ H := h
theorem w_retN  (h : rt .non H) : tRetN ⟨nx, rt, bk, ct⟩ σ H := h
theorem w_asg  (h : te σ H fun x H1 => g x σ H1 nx) : tAsg te g ⟨nx, rt, bk, ct⟩ σ H := h
def kIfS (t u : TS) (D : Ends) (σ : St) (b : Bool) (H : Hp) : Prop := if b = true then t D σ H else u D σ H
theorem w_ifS  (h : tt σ H (kIfS t u ⟨nx, rt, bk, ct⟩ σ)) : tIfS tt t u ⟨nx, rt, bk, ct⟩ σ H := h
theorem k_ifT (h : t ⟨nx, rt, bk, ct⟩ σ H) : kIfS t u ⟨nx, rt, bk, ct⟩ σ true H := h
theorem k_ifF (h : u ⟨nx, rt, bk, ct⟩ σ H) : kIfS t u ⟨nx, rt, bk, ct⟩ σ false H := iteF h
theorem k_ifTd {c : Prop} [Decidable c] (hc : c) (h : t ⟨nx, rt, bk, ct⟩ σ H) : kIfS t u ⟨nx, rt, bk, ct⟩ σ (decide c) H := by rw [decide_eq_true hc]; exact h
theorem k_ifFd {c : Prop} [Decidable c] (hc : ¬ c) (h : u ⟨nx, rt, bk, ct⟩ σ H) : kIfS t u ⟨nx, rt, bk, ct⟩ σ (decide c) H := by rw [decide_eq_false hc]; exact iteF h
theorem k_ifTn {c : Prop} [Decidable c] (hc : ¬ c) (h : t ⟨nx, rt, bk, ct⟩ σ H) : kIfS t u ⟨nx, rt, bk, ct⟩ σ (!decide c) H := by rw [decide_eq_false hc]; exact h
theorem k_ifFn {c : Prop} [Decidable c] (hc : c) (h : u ⟨nx, rt, bk, ct⟩ σ H) : kIfS t u ⟨nx, rt, bk, ct⟩ σ (!decide c) H := by rw [decide_eq_true hc]; exact iteF h
theorem k_if2 {b : Bool} (h1 : b = true → t ⟨nx, rt, bk, ct⟩ σ H) (h2 : b = false → u ⟨nx, rt, bk, ct⟩ σ H) : kIfS t u ⟨nx, rt, bk, ct⟩ σ b H := by cases b with | true => exact h1 rfl | false => exact iteF (h2 rfl)
theorem w_c  (h : Q v H) : tC v σ H Q := h
theorem w_v0 {l : List (Option V)} (h : Q v H) : tVar 0 (some v :: l) H Q := ⟨v, rfl, h⟩
theorem w_v1 {o0 : Option V} {l : List (Option V)} (h : Q v H) : tVar 1 (o0 :: some v :: l) H Q := ⟨v, rfl, h⟩
theorem w_v2 {o0 o1 : Option V} {l : List (Option V)} (h : Q v H) : tVar 2 (o0 :: o1 :: some v :: l) H Q := ⟨v, rfl, h⟩
theorem w_v3 {o0 o1 o2 : Option V} {l : List (Option V)} (h : Q v H) : tVar 3 (o0 :: o1 :: o2 :: some v :: l) H Q := ⟨v, rfl, h⟩
theorem w_v4 {o0 o1 o2 o3 : Option V} {l : List (Option V)} (h : Q v H) : tVar 4 (o0 :: o1 :: o2 :: o3 :: some v :: l) H Q := ⟨v, rfl, h⟩
theorem w_v5 {o0 o1 o2 o3 o4 : Option V} {l : List (Option V)} (h : Q v H) : tVar 5 (o0 :: o1 :: o2 :: o3 :: o4 :: some v :: l) H Q := ⟨v, rfl, h⟩
theorem w_v6 {o0 o1 o2 o3 o4 o5 : Option V} {l : List (Option V)} (h : Q v H) : tVar 6 (o0 :: o1 :: o2 :: o3 :: o4 :: o5 :: some v :: l) H Q := ⟨v, rfl, h⟩
theorem w_v7 {o0 o1 o2 o3 o4 o5 o6 : Option V} {l : List (Option V)} (h : Q v H) : tVar 7 (o0 :: o1 :: o2 :: o3 :: o4 :: o5 :: o6 :: some v :: l) H Q := ⟨v, rfl, h⟩
theorem w_v8 {o0 o1 o2 o3 o4 o5 o6 o7 : Option V} {l : List (Option V)} (h : Q v H) : tVar 8 (o0 :: o1 :: o2 :: o3 :: o4 :: o5 :: o6 :: o7 :: some v :: l) H Q := ⟨v, rfl, h⟩
theorem w_v9 {o0 o1 o2 o3 o4 o5 o6 o7 o8 : Option V} {l : List (Option V)} (h : Q v H) : tVar 9 (o0 :: o1 :: o2 :: o3 :: o4 :: o5 :: o6 :: o7 :: o8 :: some v :: l) H Q := ⟨v, rfl, h⟩
theorem w_v10 {o0 o1 o2 o3 o4 o5 o6 o7 o8 o9 : Option V} {l : List (Option V)} (h : Q v H) : tVar 10 (o0 :: o1 :: o2 :: o3 :: o4 :: o5 :: o6 :: o7 :: o8 :: o9 :: some v :: l) H Q := ⟨v, rfl, h⟩
theorem w_v11 {o0 o1 o2 o3 o4 o5 o6 o7 o8 o9 o10 : Option V} {l : List (Option V)} (h : Q v H) : tVar 11 (o0 :: o1 :: o2 :: o3 :: o4 :: o5 :: o6 :: o7 :: o8 :: o9 :: o10 :: some v :: l) H Q := ⟨v, rfl, h⟩
theorem w_v12 {o0 o1 o2 o3 o4 o5 o6 o7 o8 o9 o10 o11 : Option V} {l : List (Option V)} (h : Q v H) : tVar 12 (o0 :: o1 :: o2 :: o3 :: o4 :: o5 :: o6 :: o7 :: o8 :: o9 :: o10 :: o11 :: some v :: l) H Q := ⟨v, rfl, h⟩
theorem w_v13 {o0 o1 o2 o3 o4 o5 o6 o7 o8 o9 o10 o11 o12 : Option V} {l : List (Option V)} (h : Q v H) : tVar 13 (o0 :: o1 :: o2 :: o3 :: o4 :: o5 :: o6 :: o7 :: o8 :: o9 :: o10 :: o11 :: o12 :: some v :: l) H Q := ⟨v, rfl, h⟩
theorem w_v14 {o0 o1 o2 o3 o4 o5 o6 o7 o8 o9 o10 o11 o12 o13 : Option V} {l : List (Option V)} (h : Q v H) : tVar 14 (o0 :: o1 :: o2 :: o3 :: o4 :: o5 :: o6 :: o7 :: o8 :: o9 :: o10 :: o11 :: o12 :: o13 :: some v :: l) H Q := ⟨v, rfl, h⟩
theorem w_v15 {o0 o1 o2 o3 o4 o5 o6 o7 o8 o9 o10 o11 o12 o13 o14 : Option V} {l : List (Option V)} (h : Q v H) : tVar 15 (o0 :: o1 :: o2 :: o3 :: o4 :: o5 :: o6 :: o7 :: o8 :: o9 :: o10 :: o11 :: o12 :: o13 :: o14 :: some v :: l) H Q := ⟨v, rfl, h⟩
theorem w_v16 {o0 o1 o2 o3 o4 o5 o6 o7 o8 o9 o10 o11 o12 o13 o14 o15 : Option V} {l : List (Option V)} (h : Q v H) : tVar 16 (o0 :: o1 :: o2 :: o3 :: o4 :: o5 :: o6 :: o7 :: o8 :: o9 :: o10 :: o11 :: o12 :: o13 :: o14 :: o15 :: some v :: l) H Q := ⟨v, rfl, h⟩
theorem w_v17 {o0 o1 o2 o3 o4 o5 o6 o7 o8 o9 o10 o11 o12 o13 o14 o15 o16 : Option V} {l : List (Option V)} (h : Q v H) : tVar 17 (o0 :: o1 :: o2 :: o3 :: o4 :: o5 :: o6 :: o7 :: o8 :: o9 :: o10 :: o11 :: o12 :: o13 :: o14 :: o15 :: o16 :: some v :: l) H Q := ⟨v, rfl, h⟩
theorem w_v18 {o0 o1 o2 o3 o4 o5 o6 o7 o8 o9 o10 o11 o12 o13 o14 o15 o16 o17 : Option V} {l : List (Option V)} (h : Q v H) : tVar 18 (o0 :: o1 :: o2 :: o3 :: o4 :: o5 :: o6 :: o7 :: o8 :: o9 :: o10 :: o11 :: o12 :: o13 :: o14 :: o15 :: o16 :: o17 :: some v :: l) H Q := ⟨v, rfl, h⟩
theorem w_v19 {o0 o1 o2 o3 o4 o5 o6 o7 o8 o9 o10 o11 o12 o13 o14 o15 o16 o17 o18 : Option V} {l : List (Option V)} (h : Q v H) : tVar 19 (o0 :: o1 :: o2 :: o3 :: o4 :: o5 :: o6 :: o7 :: o8 :: o9 :: o10 :: o11 :: o12 :: o13 :: o14 :: o15 :: o16 :: o17 :: o18 :: some v :: l) H Q := ⟨v, rfl, h⟩
theorem w_v20 {o0 o1 o2 o3 o4 o5 o6 o7 o8 o9 o10 o11 o12 o13 o14 o15 o16 o17 o18 o19 : Option V} {l : List (Option V)} (h : Q v H) : tVar 20 (o0 :: o1 :: o2 :: o3 :: o4 :: o5 :: o6 :: o7 :: o8 :: o9 :: o10 :: o11 :: o12 :: o13 :: o14 :: o15 :: o16 :: o17 :: o18 :: o19 :: some v :: l) H Q := ⟨v, rfl, h⟩
theorem w_v21 {o0 o1 o2 o3 o4 o5 o6 o7 o8 o9 o10 o11 o12 o13 o14 o15 o16 o17 o18 o19 o20 : Option V} {l : List (Option V)} (h : Q v H) : tVar 21 (o0 :: o1 :: o2 :: o3 :: o4 :: o5 :: o6 :: o7 :: o8 :: o9 :: o10 :: o11 :: o12 :: o13 :: o14 :: o15 :: o16 :: o17 :: o18 :: o19 :: o20 :: some v :: l) H Q := ⟨v, rfl, h⟩
theorem g_n0 {o : Option V} {l : List (Option V)} (h : QS (some v :: l) H) : gName 0 v (o :: l) H QS := h
theorem g_n1 {o0 : Option V} {o : Option V} {l : List (Option V)} (h : QS (o0 :: some v :: l) H) : gName 1 v (o0 :: o :: l) H QS := h
theorem g_n2 {o0 o1 : Option V} {o : Option V} {l : List (Option V)} (h : QS (o0 :: o1 :: some v :: l) H) : gName 2 v (o0 :: o1 :: o :: l) H QS := h
theorem g_n3 {o0 o1 o2 : Option V} {o : Option V} {l : List (Option V)} (h : QS (o0 :: o1 :: o2 :: some v :: l) H) : gName 3 v (o0 :: o1 :: o2 :: o :: l) H QS := h
theorem g_n4 {o0 o1 o2 o3 : Option V} {o : Option V} {l : List (Option V)} (h : QS (o0 :: o1 :: o2 :: o3 :: some v :: l) H) : gName 4 v (o0 :: o1 :: o2 :: o3 :: o :: l) H QS := h
theorem g_n5 {o0 o1 o2 o3 o4 : Option V} {o : Option V} {l : List (Option V)} (h : QS (o0 :: o1 :: o2 :: o3 :: o4 :: some v :: l) H) : gName 5 v (o0 :: o1 :: o2 :: o3 :: o4 :: o :: l) H QS := h
theorem g_n6 {o0 o1 o2 o3 o4 o5 : Option V} {o : Option V} {l : List (Option V)} (h : QS (o0 :: o1 :: o2 :: o3 :: o4 :: o5 :: some v :: l) H) : gName 6 v (o0 :: o1 :: o2 :: o3 :: o4 :: o5 :: o :: l) H QS := h
theorem g_n7 {o0 o1 o2 o3 o4 o5 o6 : Option V} {o : Option V} {l : List (Option V)} (h : QS (o0 :: o1 :: o2 :: o3 :: o4 :: o5 :: o6 :: some v :: l) H) : gName 7 v (o0 :: o1 :: o2 :: o3 :: o4 :: o5 :: o6 :: o :: l) H QS := h
theorem g_n8 {o0 o1 o2 o3 o4 o5 o6 o7 : Option V} {o : Option V} {l : List (Option V)} (h : QS (o0 :: o1 :: o2 :: o3 :: o4 :: o5 :: o6 :: o7 :: some v :: l) H) : gName 8 v (o0 :: o1 :: o2 :: o3 :: o4 :: o5 :: o6 :: o7 :: o :: l) H QS := h
theorem g_n9 {o0 o1 o2 o3 o4 o5 o6 o7 o8 : Option V} {o : Option V} {l : List (Option V)} (h : QS (o0 :: o1 :: o2 :: o3 :: o4 :: o5 :: o6 :: o7 :: o8 :: some v :: l) H) : gName 9 v (o0 :: o1 :: o2 :: o3 :: o4 :: o5 :: o6 :: o7 :: o8 :: o :: l) H QS := h
theorem g_n10 {o0 o1 o2 o3 o4 o5 o6 o7 o8 o9 : Option V} {o : Option V} {l : List (Option V)} (h : QS (o0 :: o1 :: o2 :: o3 :: o4 :: o5 :: o6 :: o7 :: o8 :: o9 :: some v :: l) H) : gName 10 v (o0 :: o1 :: o2 :: o3 :: o4 :: o5 :: o6 :: o7 :: o8 :: o9 :: o :: l) H QS := h
theorem g_n11 {o0 o1 o2 o3 o4 o5 o6 o7 o8 o9 o10 : Option V} {o : Option V} {l : List (Option V)} (h : QS (o0 :: o1 :: o2 :: o3 :: o4 :: o5 :: o6 :: o7 :: o8 :: o9 :: o10 :: some v :: l) H) : gName 11 v (o0 :: o1 :: o2 :: o3 :: o4 :: o5 :: o6 :: o7 :: o8 :: o9 :: o10 :: o :: l) H QS := h
theorem g_n12 {o0 o1 o2 o3 o4 o5 o6 o7 o8 o9 o10 o11 : Option V} {o : Option V} {l : List (Option V)} (h : QS (o0 :: o1 :: o2 :: o3 :: o4 :: o5 :: o6 :: o7 :: o8 :: o9 :: o10 :: o11 :: some v :: l) H) : gName 12 v (o0 :: o1 :: o2 :: o3 :: o4 :: o5 :: o6 :: o7 :: o8 :: o9 :: o10 :: o11 :: o :: l) H QS := h
theorem g_n13 {o0 o1 o2 o3 o4 o5 o6 o7 o8 o9 o10 o11 o12 : Option V} {o : Option V} {l : List (Option V)} (h : QS (o0 :: o1 :: o2 :: o3 :: o4 :: o5 :: o6 :: o7 :: o8 :: o9 :: o10 :: o11 :: o12 :: some v :: l) H) : gName 13 v (o0 :: o1 :: o2 :: o3 :: o4 :: o5 :: o6 :: o7 :: o8 :: o9 :: o10 :: o11 :: o12 :: o :: l) H QS := h
theorem g_n14 {o0 o1 o2 o3 o4 o5 o6 o7 o8 o9 o10 o11 o12 o13 : Option V} {o : Option V} {l : List (Option V)} (h : QS (o0 :: o1 :: o2 :: o3 :: o4 :: o5 :: o6 :: o7 :: o8 :: o9 :: o10 :: o11 :: o12 :: o13 :: some v :: l) H) : gName 14 v (o0 :: o1 :: o2 :: o3 :: o4 :: o5 :: o6 :: o7 :: o8 :: o9 :: o10 :: o11 :: o12 :: o13 :: o :: l) H QS := h
theorem g_n15 {o0 o1 o2 o3 o4 o5 o6 o7 o8 o9 o10 o11 o12 o13 o14 : Option V} {o : Option V} {l : List (Option V)} (h : QS (o0 :: o1 :: o2 :: o3 :: o4 :: o5 :: o6 :: o7 :: o8 :: o9 :: o10 :: o11 :: o12 :: o13 :: o14 :: some v :: l) H) : gName 15 v (o0 :: o1 :: o2 :: o3 :: o4 :: o5 :: o6 :: o7 :: o8 :: o9 :: o10 :: o11 :: o12 :: o13 :: o14 :: o :: l) H QS := h
theorem g_n16 {o0 o1 o2 o3 o4 o5 o6 o7 o8 o9 o10 o11 o12 o13 o14 o15 : Option V} {o : Option V} {l : List (Option V)} (h : QS (o0 :: o1 :: o2 :: o3 :: o4 :: o5 :: o6 :: o7 :: o8 :: o9 :: o10 :: o11 :: o12 :: o13 :: o14 :: o15 :: some v :: l) H) : gName 16 v (o0 :: o1 :: o2 :: o3 :: o4 :: o5 :: o6 :: o7 :: o8 :: o9 :: o10 :: o11 :: o12 :: o13 :: o14 :: o15 :: o :: l) H QS := h
theorem g_n17 {o0 o1 o2 o3 o4 o5 o6 o7 o8 o9 o10 o11 o12 o13 o14 o15 o16 : Option V} {o : Option V} {l : List (Option V)} (h : QS (o0 :: o1 :: o2 :: o3 :: o4 :: o5 :: o6 :: o7 :: o8 :: o9 :: o10 :: o11 :: o12 :: o13 :: o14 :: o15 :: o16 :: some v :: l) H) : gName 17 v (o0 :: o1 :: o2 :: o3 :: o4 :: o5 :: o6 :: o7 :: o8 :: o9 :: o10 :: o11 :: o12 :: o13 :: o14 :: o15 :: o16 :: o :: l) H QS := h
theorem g_n18 {o0 o1 o2 o3 o4 o5 o6 o7 o8 o9 o10 o11 o12 o13 o14 o15 o16 o17 : Option V} {o : Option V} {l : List (Option V)} (h : QS (o0 :: o1 :: o2 :: o3 :: o4 :: o5 :: o6 :: o7 :: o8 :: o9 :: o10 :: o11 :: o12 :: o13 :: o14 :: o15 :: o16 :: o17 :: some v :: l) H) : gName 18 v (o0 :: o1 :: o2 :: o3 :: o4 :: o5 :: o6 :: o7 :: o8 :: o9 :: o10 :: o11 :: o12 :: o13 :: o14 :: o15 :: o16 :: o17 :: o :: l) H QS := h
theorem g_n19 {o0 o1 o2 o3 o4 o5 o6 o7 o8 o9 o10 o11 o12 o13 o14 o15 o16 o17 o18 : Option V} {o : Option V} {l : List (Option V)} (h : QS (o0 :: o1 :: o2 :: o3 :: o4 :: o5 :: o6 :: o7 :: o8 :: o9 :: o10 :: o11 :: o12 :: o13 :: o14 :: o15 :: o16 :: o17 :: o18 :: some v :: l) H) : gName 19 v (o0 :: o1 :: o2 :: o3 :: o4 :: o5 :: o6 :: o7 :: o8 :: o9 :: o10 :: o11 :: o12 :: o13 :: o14 :: o15 :: o16 :: o17 :: o18 :: o :: l) H QS := h
theorem g_n20 {o0 o1 o2 o3 o4 o5 o6 o7 o8 o9 o10 o11 o12 o13 o14 o15 o16 o17 o18 o19 : Option V} {o : Option V} {l : List (Option V)} (h : QS (o0 :: o1 :: o2 :: o3 :: o4 :: o5 :: o6 :: o7 :: o8 :: o9 :: o10 :: o11 :: o12 :: o13 :: o14 :: o15 :: o16 :: o17 :: o18 :: o19 :: some v :: l) H) : gName 20 v (o0 :: o1 :: o2 :: o3 :: o4 :: o5 :: o6 :: o7 :: o8 :: o9 :: o10 :: o11 :: o12 :: o13 :: o14 :: o15 :: o16 :: o17 :: o18 :: o19 :: o :: l) H QS := h
theorem g_n21 {o0 o1 o2 o3 o4 o5 o6 o7 o8 o9 o10 o11 o12 o13 o14 o15 o16 o17 o18 o19 o20 : Option V} {o : Option V} {l : List (Option V)} (h : QS (o0 :: o1 :: o2 :: o3 :: o4 :: o5 :: o6 :: o7 :: o8 :: o9 :: o10 :: o11 :: o12 :: o13 :: o14 :: o15 :: o16 :: o17 :: o18 :: o19 :: o20 :: some v :: l) H) : gName 21 v (o0 :: o1 :: o2 :: o3 :: o4 :: o5 :: o6 :: o7 :: o8 :: o9 :: o10 :: o11 :: o12 :: o13 :: o14 :: o15 :: o16 :: o17 :: o18 :: o19 :: o20 :: o :: l) H QS := h
def kOp (r : R2) (tb : TE) (σ : St) (Q : VK) (x : V) (H : Hp) : Prop := tb σ H fun y H2 => r x y H2 Q
theorem w_op  (h : ta σ H (kOp r tb σ Q)) : tOp r ta tb σ H Q := h
theorem k_op  (h : tb σ H fun y H2 => r x y H2 Q) : kOp r tb σ Q x H := h
theorem w_un {ru : V → Hp → VK → Prop} (h : ta σ H fun x H1 => ru x H1 Q) : tUn ru ta σ H Q := h
theorem r_I0 {f : Int → Int → V} {i j : Int} (h : Q (f i j) H) : rI0 f (.int i) (.int j) H Q := ⟨i, j, rfl, rfl, h⟩
theorem r_I {C : Int → Int → Prop} {f : Int → Int → V} {i j : Int} (hc : C i j) (h : Q (f i j) H) : rI C f (.int i) (.int j) H Q := ⟨i, j, rfl, rfl, hc, h⟩
theorem r_U {f : Int → V} {i : Int} (h : Q (f i) H) : rU f (.int i) H Q := ⟨i, rfl, h⟩
theorem r_eqI {i j : Int} (h : Q (.bl (decide (i = j))) H) : rEq (.int i) (.int j) H Q := ⟨rfl, by have e : decide (V.int i = V.int j) = decide (i = j) := (by simp); rw [e]; exact h⟩
theorem r_neI {i j : Int} (h : Q (.bl (!decide (i = j))) H) : rNe (.int i) (.int j) H Q := ⟨rfl, by have e : decide (V.int i = V.int j) = decide (i = j) := (by simp); rw [e]; exact h⟩
theorem r_eqB {a b : Bool} (h : Q (.bl (a == b)) H) : rEq (.bl a) (.bl b) H Q := ⟨rfl, by have e : decide (V.bl a = V.bl b) = (a == b) := (by cases a <;> cases b <;> rfl); rw [e]; exact h⟩
theorem r_neB {a b : Bool} (h : Q (.bl (!(a == b))) H) : rNe (.bl a) (.bl b) H Q := ⟨rfl, by have e : decide (V.bl a = V.bl b) = (a == b) := (by cases a <;> cases b <;> rfl); rw [e]; exact h⟩
theorem r_eqS {a b : Str} (h : Q (.bl (decide (a = b))) H) : rEq (.str a) (.str b) H Q := ⟨rfl, by have e : decide (V.str a = V.str b) = decide (a = b) := (by simp); rw [e]; exact h⟩
theorem r_neS {a b : Str} (h : Q (.bl (!decide (a = b))) H) : rNe (.str a) (.str b) H Q := ⟨rfl, by have e : decide (V.str a = V.str b) = decide (a = b) := (by simp); rw [e]; exact h⟩
theorem k_eqg (hs : scal x y = true) (h : Q (.bl (decide (x = y))) H) : rEq x y H Q := ⟨hs, h⟩
theorem k_neg (hs : scal x y = true) (h : Q (.bl (!decide (x = y))) H) : rNe x y H Q := ⟨hs, h⟩
def kTest (QB : Bool → Hp → Prop) (x : V) (H : Hp) : Prop := ∃ k, x = .bl k ∧ QB k H
theorem w_test  (h : te σ H (kTest QB)) : tTest te σ H QB := h
theorem w_B  (h : te σ H (kTest QB)) : tB te σ H QB := h
theorem k_test {b : Bool} (h : QB b H) : kTest QB (.bl b) H := ⟨b, rfl, h⟩
theorem w_not  (h : tt σ H fun c H1 => QB (!c) H1) : tNot tt σ H QB := h
def kAnd (tu : TT) (σ : St) (QB : Bool → Hp → Prop) (c : Bool) (H : Hp) : Prop := if c = true then tu σ H QB else QB false H
def kOr (tu : TT) (σ : St) (QB : Bool → Hp → Prop) (c : Bool) (H : Hp) : Prop := if c = true then QB true H else tu σ H QB
theorem w_and  (h : tt σ H (kAnd tu σ QB)) : tAnd tt tu σ H QB := h
theorem w_or  (h : tt σ H (kOr tu σ QB)) : tOr tt tu σ H QB := h
theorem k_andT  (h : tu σ H QB) : kAnd tu σ QB true H := h
theorem k_andF  (h : QB false H) : kAnd tu σ QB false H := iteF h
theorem k_orT  (h : QB true H) : kOr tu σ QB true H := h
theorem k_orF  (h : tu σ H QB) : kOr tu σ QB false H := iteF h
theorem k_and2 {c : Bool} (h1 : c = true → tu σ H QB) (h2 : c = false → QB false H) : kAnd tu σ QB c H := by cases c with | true => exact h1 rfl | false => exact iteF (h2 rfl)
theorem k_or2 {c : Bool} (h1 : c = true → QB true H) (h2 : c = false → tu σ H QB) : kOr tu σ QB c H := by cases c with | true => exact h1 rfl | false => exact iteF (h2 rfl)
def kAndV (tb : TE) (σ : St) (Q : VK) (x : V) (H : Hp) : Prop := ∃ c, x = .bl c ∧ if c = true then tb σ H Q else Q (.bl false) H
def kOrV (tb : TE) (σ : St) (Q : VK) (x : V) (H : Hp) : Prop := ∃ c, x = .bl c ∧ if c = true then Q (.bl true) H else tb σ H Q
theorem w_andV  (h : ta σ H (kAndV tb σ Q)) : tAndV ta tb σ H Q := h
theorem w_orV  (h : ta σ H (kOrV tb σ Q)) : tOrV ta tb σ H Q := h
theorem k_andVT  (h : tb σ H Q) : kAndV tb σ Q (.bl true) H := ⟨true, rfl, h⟩
theorem k_andVF  (h : Q (.bl false) H) : kAndV tb σ Q (.bl false) H := ⟨false, rfl, iteF h⟩
theorem k_orVT  (h : Q (.bl true) H) : kOrV tb σ Q (.bl true) H := ⟨true, rfl, h⟩
theorem k_orVF  (h : tb σ H Q) : kOrV tb σ Q (.bl false) H := ⟨false, rfl, iteF h⟩
theorem k_andV2 {c : Bool} (h1 : c = true → tb σ H Q) (h2 : c = false → Q (.bl false) H) : kAndV tb σ Q (.bl c) H := by cases c with | true => exact ⟨true, rfl, h1 rfl⟩ | false => exact ⟨false, rfl, iteF (h2 rfl)⟩
theorem k_orV2 {c : Bool} (h1 : c = true → Q (.bl true) H) (h2 : c = false → tb σ H Q) : kOrV tb σ Q (.bl c) H := by cases c with | true => exact ⟨true, rfl, h1 rfl⟩ | false => exact ⟨false, rfl, iteF (h2 rfl)⟩
def kNotV (Q : VK) (x : V) (H : Hp) : Prop := ∃ c, x = .bl c ∧ Q (.bl (!c)) H
theorem w_notV  (h : ta σ H (kNotV Q)) : tNotV ta σ H Q := h
theorem k_notV {c : Bool} (h : Q (.bl (!c)) H) : kNotV Q (.bl c) H := ⟨c, rfl, h⟩
def kIf (ta tb : TE) (σ : St) (Q : VK) (c : Bool) (H : Hp) : Prop := if c = true then ta σ H Q else tb σ H Q
theorem w_if  (h : tt σ H (kIf ta tb σ Q)) : tIf tt ta tb σ H Q := h
theorem k_ifET  (h : ta σ H Q) : kIf ta tb σ Q true H := h
theorem k_ifEF  (h : tb σ H Q) : kIf ta tb σ Q false H := iteF h
theorem k_ifE2 {b : Bool} (h1 : b = true → ta σ H Q) (h2 : b = false → tb σ H Q) : kIf ta tb σ Q b H := by cases b with | true => exact h1 rfl | false => exact iteF (h2 rfl)
def kChain (tc : TE) (r' : R2) (σ : St) (Q : VK) (y z : V) (H : Hp) : Prop := ∃ k, z = .bl k ∧ (if k = true then tc σ H fun w' H4 => r' y w' H4 Q else Q (.bl false) H)
def kChain1 (r r' : R2) (tb tc : TE) (σ : St) (Q : VK) (x : V) (H : Hp) : Prop := tb σ H fun y H2 => r x y H2 (kChain tc r' σ Q y)
theorem w_chain  (h : ta σ H (kChain1 r r' tb tc σ Q)) : tChain r r' ta tb tc σ H Q := h
theorem k_chain1  (h : tb σ H fun y H2 => r x y H2 (kChain tc r' σ Q y)) : kChain1 r r' tb tc σ Q x H := h
theorem k_chT  (h : tc σ H fun w' H4 => r' y w' H4 Q) : kChain tc r' σ Q y (.bl true) H := ⟨true, rfl, h⟩
theorem k_chF  (h : Q (.bl false) H) : kChain tc r' σ Q y (.bl false) H := ⟨false, rfl, iteF h⟩
theorem k_ch2 {b : Bool} (h1 : b = true → tc σ H fun w' H4 => r' y w' H4 Q) (h2 : b = false → Q (.bl false) H) : kChain tc r' σ Q y (.bl b) H := by cases b with | true => exact ⟨true, rfl, h1 rfl⟩ | false => exact ⟨false, rfl, iteF (h2 rfl)⟩
theorem w_nil  (h : QA [] H) : tNil σ H QA := h
def kCons (tr : TA) (σ : St) (QA : List V → Hp → Prop) (x : V) (H : Hp) : Prop := tr σ H fun xs H2 => QA (x :: xs) H2
theorem w_cons  (h : te σ H (kCons tr σ QA)) : tCons te tr σ H QA := h
theorem k_cons  (h : tr σ H fun xs H2 => QA (x :: xs) H2) : kCons tr σ QA x H := h
def kTup (Q : VK) (xs : List V) (H : Hp) : Prop := xs.length ≤ sizeLine ∧ ∀ p, H p = none → Q (.ref p) (upd H p (.tup xs))
def kLst (Q : VK) (xs : List V) (H : Hp) : Prop := xs.length ≤ sizeLine ∧ ∀ p, H p = none → Q (.ref p) (upd H p (.lst xs))
theorem w_tup  (h : tr σ H (kTup Q)) : tTup tr σ H Q := h
theorem w_lst  (h : tr σ H (kLst Q)) : tLst tr σ H Q := h
theorem k_tup {xs : List V} (hl : xs.length ≤ sizeLine) (h : ∀ p, H p = none → Q (.ref p) (upd H p (.tup xs))) : kTup Q xs H := ⟨hl, h⟩
theorem Same.new {p : Addr} {o : HO} (h : H p = none) : Same H (upd H p o) := fun a u e => by rw [upd_ne (ne_of_none e h)]; exact e
theorem s_tup {xs : List V} (hl : xs.length ≤ sizeLine) (h : ∀ p, H p = none → Same H (upd H p (.tup xs)) → Q (.ref p) (upd H p (.tup xs))) : kTup Q xs H := ⟨hl, fun p np => h p np (Same.new np)⟩
theorem s_lst {xs : List V} (hl : xs.length ≤ sizeLine) (h : ∀ p, H p = none → Same H (upd H p (.lst xs)) → Q (.ref p) (upd H p (.lst xs))) : kLst Q xs H := ⟨hl, fun p np => h p np (Same.new np)⟩
theorem k_lst {xs : List V} (hl : xs.length ≤ sizeLine) (h : ∀ p, H p = none → Q (.ref p) (upd H p (.lst xs))) : kLst Q xs H := ⟨hl, h⟩
theorem sz_of {n : Nat} (h : n ≤ 100000) : n ≤ sizeLine := Nat.le_trans h (by decide)
theorem sz_lt {n : Nat} (h : n < 100000) : n < sizeLine := Nat.lt_of_lt_of_le h (by decide)
theorem w_cb {rb : List V → Hp → VK → Prop} (h : tr σ H fun vs H1 => rb vs H1 Q) : tCB rb tr σ H Q := h
def kCall (sp : Sp) (E : XK) (Q : VK) (vs : List V) (H : Hp) : Prop := sp vs H Q E
theorem w_call {sp : Sp} (h : tr σ H (kCall sp E Q)) : tCall sp [] E tr σ H Q := (by have e : tCall sp [] E tr σ H Q = tr σ H (fun vs H1 => sp (vs ++ []) H1 Q E) := rfl; rw [e]; simp only [List.append_nil]; exact h)
def kMake (C : Addr) (sp : Sp) (E : XK) (Q : VK) (vs : List V) (H : Hp) : Prop := ∀ x dx, H x = none → H dx = none → dx ≠ x → sp (.ref x :: vs) (upd (upd H dx (.own x)) x (.ins C dx [])) (fun v H2 => v = .non ∧ Q (.ref x) H2) E
theorem w_make {C : Addr} {sp : Sp} (h : tr σ H (kMake C sp E Q)) : tMake C sp [] E tr σ H Q := (by have e : tMake C sp [] E tr σ H Q = tr σ H (fun vs H1 => ∀ x dx, H1 x = none → H1 dx = none → dx ≠ x → sp (.ref x :: (vs ++ [])) (upd (upd H1 dx (.own x)) x (.ins C dx [])) (fun v H2 => v = .non ∧ Q (.ref x) H2) E) := rfl; rw [e]; simp only [List.append_nil]; exact h)
def kMeth (C : Addr) (m : Str) (sp : Sp) (E : XK) (tr : TA) (σ : St) (Q : VK) (x : V) (H : Hp) : Prop := ∃ a dx fs, x = .ref a ∧ H a = some (.ins C dx fs) ∧ fs.lookup m = none ∧ tr σ H fun vs H2 => sp (x :: vs) H2 Q E
theorem w_meth {C : Addr} {m : Str} {sp : Sp} (h : ta σ H (kMeth C m sp E tr σ Q)) : tMeth C m sp [] E ta tr σ H Q := (by have e : tMeth C m sp [] E ta tr σ H Q = ta σ H (fun x H1 => ∃ a dx fs, x = .ref a ∧ H1 a = some (.ins C dx fs) ∧ fs.lookup m = none ∧ tr σ H1 fun vs H2 => sp (x :: (vs ++ [])) H2 Q E) := rfl; rw [e]; simp only [List.append_nil]; exact h)
theorem k_meth {C : Addr} {m : Str} {sp : Sp} {p dx : Addr} {fs : List (Str × V)} (ho : H p = some (.ins C dx fs)) (hl : fs.lookup m = none) (h : tr σ H fun vs H2 => kCall sp E Q (.ref p :: vs) H2) : kMeth C m sp E tr σ Q (.ref p) H := ⟨p, dx, fs, rfl, ho, hl, h⟩
def kFld (K : PySem.W.Frag) (f : Str) (Q : VK) (x : V) (H : Hp) : Prop := ∃ a C dx fs v, x = .ref a ∧ H a = some (.ins C dx fs) ∧ Cls K C ∧ NoAttr K C f ∧ fs.lookup f = some v ∧ Q v H
theorem w_fld {f : Str} (h : ta σ H (kFld K f Q)) : tFld K ta f σ H Q := h
theorem k_fld {f : Str} {p C dx : Addr} {fs : List (Str × V)} (ho : H p = some (.ins C dx fs)) (c : Cls K C) (n : NoAttr K C f) (l : fs.lookup f = some v) (h : Q v H) : kFld K f Q (.ref p) H := ⟨p, C, dx, fs, v, rfl, ho, c, n, l, h⟩
def kSFld (K : PySem.W.Frag) (f : Str) (nx : St → Hp → Prop) (σ : St) (y x : V) (H : Hp) : Prop := ∃ a C dx fs, x = .ref a ∧ H a = some (.ins C dx fs) ∧ Cls K C ∧ NoAttr K C f ∧ fs.length < 1000 ∧ nx σ (upd H a (.ins C dx (putF f y fs)))
theorem w_sfld {f : Str} {tv : TE} (h : tv σ H fun y H1 => ta σ H1 (kSFld K f nx σ y)) : sFld K ta tv f ⟨nx, rt, bk, ct⟩ σ H := h
theorem k_sfld {f : Str} {p C dx : Addr} {fs fs' : List (Str × V)} (ho : H p = some (.ins C dx fs)) (c : Cls K C) (n : NoAttr K C f) (hl : fs.length < 1000) (e : putF f y fs = fs') (h : nx σ (upd H p (.ins C dx fs'))) : kSFld K f nx σ y (.ref p) H := ⟨p, C, dx, fs, rfl, ho, c, n, hl, by rw [e]; exact h⟩
theorem g_nil  (h : QS σ H) : gNil [] σ H QS := ⟨rfl, h⟩
theorem g_cons {l : List V} (h : g x σ H fun σ' H' => gs l σ' H' QS) : gCons g gs (x :: l) σ H QS := ⟨x, l, rfl, h⟩
theorem g_tup {n : Nat} {p : Addr} {xs : List V} (hp : SqT K H p xs) (hl : xs.length = n) (h : gs xs σ H QS) : gTup K n gs (.ref p) σ H QS := ⟨p, xs, rfl, hp, hl, h⟩
def kGSub (ti : TE) (ts : TSet) (σ : St) (v : V) (QS : St → Hp → Prop) (o : V) (H : Hp) : Prop := ti σ H fun i H2 => ts o i v H2 fun H3 => QS σ H3
theorem g_sub {ts : TSet} (h : to σ H (kGSub ti ts σ v QS)) : gSub to ti ts v σ H QS := h
theorem k_gsub {ts : TSet} {o : V} (h : ti σ H fun i H2 => ts o i v H2 fun H3 => QS σ H3) : kGSub ti ts σ v QS o H := h
theorem r_setL {p : Addr} {xs : List V} {i : Int} {j : Nat} {QH : Hp → Prop} (hp : H p = some (.lst xs)) (hj : ixN xs.length i = some j) (h : QH (upd H p (.lst (xs.set j v)))) : rSetL (.ref p) (.int i) v H QH := ⟨p, xs, i, j, rfl, rfl, hp, hj, h⟩
theorem r_ixL {p : Addr} {xs : List V} {i : Int} (hp : SqL K H p xs) (ha : atI xs i = some v) (h : Q v H) : rIxL K (.ref p) (.int i) H Q := ⟨p, xs, i, v, rfl, rfl, hp, ha, h⟩
theorem r_ixT {p : Addr} {xs : List V} {i : Int} (hp : SqT K H p xs) (ha : atI xs i = some v) (h : Q v H) : rIxT K (.ref p) (.int i) H Q := ⟨p, xs, i, v, rfl, rfl, hp, ha, h⟩
theorem r_ixS {a : Str} {i : Int} {c : Nat} (hl : a.length ≤ sizeLine) (ha : atI a.cps.toList i = some c) (h : Q (.str ⟨#[c]⟩) H) : rIxS (.str a) (.int i) H Q := ⟨a, i, c, rfl, rfl, hl, ha, h⟩
/-! built-ins by named readings -/
def qLen (K : PySem.W.Frag) : List V → Hp → VK → Prop := fun xs H Q => ∃ p ys, xs = [.ref p] ∧ (SqL K H p ys ∨ SqT K H p ys) ∧ Q (.int ys.length) H
theorem call_lenN {X : Cx} : CallR X (.builtin "len") (qLen X.K) := call_len_seq
theorem b_lenL {p : Addr} {ys : List V} (hp : SqL K H p ys) (h : Q (.int ys.length) H) : qLen K [.ref p] H Q := ⟨p, ys, rfl, .inl hp, h⟩
theorem b_lenT {p : Addr} {ys : List V} (hp : SqT K H p ys) (h : Q (.int ys.length) H) : qLen K [.ref p] H Q := ⟨p, ys, rfl, .inr hp, h⟩
def qLenS : List V → Hp → VK → Prop := fun xs H Q => ∃ z, xs = [.str z] ∧ z.length ≤ sizeLine ∧ Q (.int z.length) H
theorem call_lenSN {X : Cx} : CallR X (.builtin "len") qLenS := call_len_str
theorem b_lenS {z : Str} (hp : z.length ≤ sizeLine) (h : Q (.int z.length) H) : qLenS [.str z] H Q := ⟨z, rfl, hp, h⟩
def qAbs : List V → Hp → VK → Prop := fun xs H Q => ∃ i, xs = [.int i] ∧ Q (.int (if i < 0 then -i else i)) H
theorem call_absN {X : Cx} : CallR X (.builtin "abs") qAbs := call_abs
theorem b_abs {i : Int} (h : Q (.int (if i < 0 then -i else i)) H) : qAbs [.int i] H Q := ⟨i, rfl, h⟩
def qMax2 : List V → Hp → VK → Prop := fun xs H Q => ∃ i j, xs = [.int i, .int j] ∧ Q (.int (if j > i then j else i)) H
theorem call_max2N {X : Cx} (hc : X.calm = true) : CallR X (.builtin "max") qMax2 := call_max2 hc
theorem b_max2 {i j : Int} (h : Q (.int (if j > i then j else i)) H) : qMax2 [.int i, .int j] H Q := ⟨i, j, rfl, h⟩
def qMin2 : List V → Hp → VK → Prop := fun xs H Q => ∃ i j, xs = [.int i, .int j] ∧ Q (.int (if j < i then j else i)) H
theorem call_min2N {X : Cx} (hc : X.calm = true) : CallR X (.builtin "min") qMin2 := call_min2 hc
theorem b_min2 {i j : Int} (h : Q (.int (if j < i then j else i)) H) : qMin2 [.int i, .int j] H Q := ⟨i, j, rfl, h⟩
def qInt1 : List V → Hp → VK → Prop := fun xs H Q => (∃ i, xs = [.int i] ∧ Q (.int i) H) ∨ ∃ k, xs = [.bl k] ∧ Q (.int (if k then 1 else 0)) H
theorem call_int1N {X : Cx} : CallR X (.type "int") qInt1 := call_int1
theorem b_intB {k : Bool} (h : Q (.int (if k then 1 else 0)) H) : qInt1 [.bl k] H Q := .inr ⟨k, rfl, h⟩
theorem b_intI {i : Int} (h : Q (.int i) H) : qInt1 [.int i] H Q := .inl ⟨i, rfl, h⟩
def qStr : List V → Hp → VK → Prop := fun xs H Q => ∃ i, xs = [.int i] ∧ i.natAbs.log2 < 1920 ∧ Q (.str (toString i)) H
theorem call_strN {X : Cx} : CallR X (.type "str") qStr := call_str_int
theorem b_str {i : Int} (hl : i.natAbs.log2 < 1920) (h : Q (.str (toString i)) H) : qStr [.int i] H Q := ⟨i, rfl, hl, h⟩
def qTupOf (K : PySem.W.Frag) : List V → Hp → VK → Prop := fun xs H Q => ∃ p ys, xs = [.ref p] ∧ ((SqL K H p ys ∧ ∀ l, H l = none → Q (.ref l) (upd H l (.tup ys))) ∨ (SqT K H p ys ∧ Q (.ref p) H))
theorem call_tupN {X : Cx} : CallR X (.type "tuple") (qTupOf X.K) := call_tuple_of
theorem b_tupL {p : Addr} {ys : List V} (hp : SqL K H p ys) (h : ∀ l, H l = none → Q (.ref l) (upd H l (.tup ys))) : qTupOf K [.ref p] H Q := ⟨p, ys, rfl, .inl ⟨hp, h⟩⟩
theorem s_tupL {p : Addr} {ys : List V} (hp : SqL K H p ys) (h : ∀ l, H l = none → Same H (upd H l (.tup ys)) → Q (.ref l) (upd H l (.tup ys))) : qTupOf K [.ref p] H Q := ⟨p, ys, rfl, .inl ⟨hp, fun l nl => h l nl (Same.new nl)⟩⟩
theorem s_listL {p : Addr} {ys : List V} (hp : SqL K H p ys) (h : ∀ l, H l = none → Same H (upd H l (.lst ys)) → Q (.ref l) (upd H l (.lst ys))) : (∃ p' ys', [V.ref p] = [V.ref p'] ∧ (SqL K H p' ys' ∨ SqT K H p' ys') ∧ ∀ l, H l = none → Q (.ref l) (upd H l (.lst ys'))) := ⟨p, ys, rfl, .inl hp, fun l nl => h l nl (Same.new nl)⟩
theorem b_tupT {p : Addr} {ys : List V} (hp : SqT K H p ys) (h : Q (.ref p) H) : qTupOf K [.ref p] H Q := ⟨p, ys, rfl, .inr ⟨hp, h⟩⟩
def qListOf (K : PySem.W.Frag) : List V → Hp → VK → Prop := fun xs H Q => ∃ p ys, xs = [.ref p] ∧ (SqL K H p ys ∨ SqT K H p ys) ∧ ∀ l, H l = none → Q (.ref l) (upd H l (.lst ys))
theorem call_listN {X : Cx} : CallR X (.type "list") (qListOf X.K) := call_list_of
theorem b_listL {p : Addr} {ys : List V} (hp : SqL K H p ys) (h : ∀ l, H l = none → Q (.ref l) (upd H l (.lst ys))) : qListOf K [.ref p] H Q := ⟨p, ys, rfl, .inl hp, h⟩
theorem s_listOf {p : Addr} {ys : List V} (hp : SqL K H p ys) (h : ∀ l, H l = none → Same H (upd H l (.lst ys)) → Q (.ref l) (upd H l (.lst ys))) : qListOf K [.ref p] H Q := s_listL hp h
theorem b_listT {p : Addr} {ys : List V} (hp : SqT K H p ys) (h : ∀ l, H l = none → Q (.ref l) (upd H l (.lst ys))) : qListOf K [.ref p] H Q := ⟨p, ys, rfl, .inr hp, h⟩
def qIsN : R2 := fun x y H Q => y = .non ∧ Q (.bl (decide (x = .non))) H
theorem op_isNN {X : Cx} : OpR X (compareOp .Is) qIsN := op_isN
theorem r_isN (h : Q (.bl (decide (x = .non))) H) : qIsN x .non H Q := ⟨rfl, h⟩
def qNotN : R2 := fun x y H Q => y = .non ∧ Q (.bl (!decide (x = .non))) H
theorem op_notNN {X : Cx} : OpR X (compareOp .IsNot) qNotN := op_notN
theorem r_notN (h : Q (.bl (!decide (x = .non))) H) : qNotN x .non H Q := ⟨rfl, h⟩
def qInC : R2 := fun x y H Q => ∃ (c : Nat) (z : Str), x = .str ⟨#[c]⟩ ∧ y = .str z ∧ Q (.bl (decide (c ∈ z.cps.toList))) H
theorem op_inC {X : Cx} : OpR X (compareOp .In) qInC := op_in_sign
theorem r_inC {c : Nat} {z : Str} (h : Q (.bl (decide (c ∈ z.cps.toList))) H) : qInC (.str ⟨#[c]⟩) (.str z) H Q := ⟨c, z, rfl, rfl, h⟩
def qNotInC : R2 := fun x y H Q => ∃ (c : Nat) (z : Str), x = .str ⟨#[c]⟩ ∧ y = .str z ∧ Q (.bl (!decide (c ∈ z.cps.toList))) H
theorem op_notInC {X : Cx} : OpR X (compareOp .NotIn) qNotInC := op_notIn_sign
theorem r_notInC {c : Nat} {z : Str} (h : Q (.bl (!decide (c ∈ z.cps.toList))) H) : qNotInC (.str ⟨#[c]⟩) (.str z) H Q := ⟨c, z, rfl, rfl, h⟩
def qAddS : R2 := fun x y H Q => ∃ i j, x = .str i ∧ y = .str j ∧ i.length + j.length ≤ sizeLine ∧ Q (.str (i ++ j)) H
theorem op_addSN {X : Cx} : OpR X (binaryOp .Add) qAddS := op_add_str
theorem r_addS {a b : Str} (hl : a.length + b.length ≤ sizeLine) (h : Q (.str (a ++ b)) H) : qAddS (.str a) (.str b) H Q := ⟨a, b, rfl, rfl, hl, h⟩
theorem n_isNT (h : Q (.bl true) H) : qIsN .non .non H Q := ⟨rfl, h⟩
theorem n_isNi {i : Int} (h : Q (.bl false) H) : qIsN (.int i) .non H Q := ⟨rfl, h⟩
theorem n_isNb {b : Bool} (h : Q (.bl false) H) : qIsN (.bl b) .non H Q := ⟨rfl, h⟩
theorem n_isNs {a : Str} (h : Q (.bl false) H) : qIsN (.str a) .non H Q := ⟨rfl, h⟩
theorem n_isNr {a : Addr} (h : Q (.bl false) H) : qIsN (.ref a) .non H Q := ⟨rfl, h⟩
theorem n_notNT (h : Q (.bl false) H) : qNotN .non .non H Q := ⟨rfl, h⟩
theorem n_notNi {i : Int} (h : Q (.bl true) H) : qNotN (.int i) .non H Q := ⟨rfl, h⟩
theorem n_notNb {b : Bool} (h : Q (.bl true) H) : qNotN (.bl b) .non H Q := ⟨rfl, h⟩
theorem n_notNs {a : Str} (h : Q (.bl true) H) : qNotN (.str a) .non H Q := ⟨rfl, h⟩
theorem n_notNr {a : Addr} (h : Q (.bl true) H) : qNotN (.ref a) .non H Q := ⟨rfl, h⟩
/-! methods of lists -/
def kBM (K : PySem.W.Frag) (T : String) (rm : V → List V → Hp → VK → Prop) (tr : TA) (σ : L2.St) (Q : VK) (x : V) (H : Hp) : Prop := tyV K T x H ∧ tr σ H fun xs H2 => rm x xs H2 Q
theorem w_bm {T : String} {rm : V → List V → Hp → VK → Prop} (h : to σ H (kBM K T rm tr σ Q)) : tBM K T rm to tr σ H Q := h
theorem k_bmL {rm : V → List V → Hp → VK → Prop} {p : Addr} {ys : List V} (hp : SqL K H p ys) (h : tr σ H fun xs H2 => rm (.ref p) xs H2 Q) : kBM K "list" rm tr σ Q (.ref p) H := ⟨.inl ⟨rfl, ys, hp⟩, h⟩
theorem k_bmS {rm : V → List V → Hp → VK → Prop} {z : Str} (h : tr σ H fun xs H2 => rm (.str z) xs H2 Q) : kBM K "str" rm tr σ Q (.str z) H := ⟨rfl, h⟩
def kBM0 (K : PySem.W.Frag) (T : String) (rm : V → List V → Hp → VK → Prop) (Q : VK) (x : V) (H : Hp) : Prop := tyV K T x H ∧ rm x [] H Q
theorem w_bm0 {T : String} {rm : V → List V → Hp → VK → Prop} (h : to σ H (kBM0 K T rm Q)) : tBM0 K T rm to σ H Q := h
theorem k_bm0L {rm : V → List V → Hp → VK → Prop} {p : Addr} {ys : List V} (hp : SqL K H p ys) (h : rm (.ref p) [] H Q) : kBM0 K "list" rm Q (.ref p) H := ⟨.inl ⟨rfl, ys, hp⟩, h⟩
theorem m_append {p : Addr} {xs : List V} (hp : H p = some (.lst xs)) (hl : xs.length < sizeLine) (h : Q .non (upd H p (.lst (xs ++ [y])))) : rAppend (.ref p) [y] H Q := ⟨p, xs, y, rfl, rfl, hp, hl, h⟩
theorem m_extend {p b : Addr} {xs zs : List V} (hp : H p = some (.lst xs)) (hb : H b = some (.lst zs)) (hl : xs.length + zs.length ≤ sizeLine) (h : Q .non (upd H p (.lst (xs ++ zs)))) : rExtend (.ref p) [.ref b] H Q := ⟨p, b, xs, zs, rfl, rfl, hp, hb, hl, h⟩
theorem r_cat {p b : Addr} {xs zs : List V} (hp : H p = some (.lst xs)) (hb : H b = some (.lst zs)) (hl : xs.length + zs.length ≤ sizeLine) (h : ∀ q, H q = none → Q (.ref q) (upd H q (.lst (xs ++ zs)))) : rCat (.ref p) (.ref b) H Q := ⟨p, b, xs, zs, rfl, rfl, hp, hb, hl, h⟩
theorem s_cat {p b : Addr} {xs zs : List V} (hp : H p = some (.lst xs)) (hb : H b = some (.lst zs)) (hl : xs.length + zs.length ≤ sizeLine) (h : ∀ q, H q = none → Same H (upd H q (.lst (xs ++ zs))) → Q (.ref q) (upd H q (.lst (xs ++ zs)))) : rCat (.ref p) (.ref b) H Q := r_cat hp hb hl fun q nq => h q nq (Same.new nq)
theorem r_catA {a b : Addr} {xs ys : List V} (ha : SqT K H a xs) (hb : SqT K H b ys) (hl : xs.length + ys.length ≤ sizeLine) (h1 : xs = [] → Q (.ref b) H) (h2 : xs ≠ [] → ys = [] → Q (.ref a) H) (h3 : xs ≠ [] → ys ≠ [] → ∀ p, H p = none → Q (.ref p) (upd H p (.tup (xs ++ ys)))) : rCatA K (.ref a) (.ref b) H Q := ⟨a, b, xs, ys, rfl, rfl, ha, hb, hl, h1, h2, h3⟩
/-! slices -/
def kSl1 (rs : V → Option Int → Option Int → Hp → VK → Prop) (tl th : TO) (σ : L2.St) (Q : VK) (x : V) (H : Hp) : Prop := tl σ H fun l H2 => th σ H2 fun u H3 => rs x l u H3 Q
theorem w_sl {rs : V → Option Int → Option Int → Hp → VK → Prop} {tl th : TO} (h : te σ H (kSl1 rs tl th σ Q)) : tSl rs te tl th σ H Q := h
theorem k_sl1 {rs : V → Option Int → Option Int → Hp → VK → Prop} {tl th : TO} (h : tl σ H fun l H2 => th σ H2 fun u H3 => rs x l u H3 Q) : kSl1 rs tl th σ Q x H := h
theorem w_nopart {QO : Option Int → Hp → Prop} (h : QO none H) : tNoPart σ H QO := h
def kPart (QO : Option Int → Hp → Prop) (x : V) (H : Hp) : Prop := ∃ i, x = .int i ∧ QO (some i) H
theorem w_part {QO : Option Int → Hp → Prop} (h : te σ H (kPart QO)) : tPart te σ H QO := h
theorem k_part {QO : Option Int → Hp → Prop} {i : Int} (h : QO (some i) H) : kPart QO (.int i) H := ⟨i, rfl, h⟩
theorem s_slL {p : Addr} {xs : List V} {lo hi : Option Int} (hp : SqL K H p xs) (h : ∀ q, H q = none → Same H (upd H q (.lst (cutV xs lo hi))) → Q (.ref q) (upd H q (.lst (cutV xs lo hi)))) : rSlL K (.ref p) lo hi H Q := ⟨p, xs, rfl, hp, fun q nq => h q nq (Same.new nq)⟩
theorem r_slL {p : Addr} {xs : List V} {lo hi : Option Int} (hp : SqL K H p xs) (h : ∀ q, H q = none → Q (.ref q) (upd H q (.lst (cutV xs lo hi)))) : rSlL K (.ref p) lo hi H Q := ⟨p, xs, rfl, hp, h⟩
/-! walked things -/
def kIList (K : PySem.W.Frag) (R : It → Hp → Prop) (x : V) (H : Hp) : Prop := ∃ a, x = .ref a ∧ (∃ xs, SqL K H a xs) ∧ R (Itl K a) H
def kITup (K : PySem.W.Frag) (R : It → Hp → Prop) (x : V) (H : Hp) : Prop := ∃ a, x = .ref a ∧ (∃ xs, SqT K H a xs) ∧ R (Itt K a) H
def kIRng1 (R : It → Hp → Prop) (vs : List V) (H : Hp) : Prop := ∃ j : Int, vs = [.int j] ∧ -(2 ^ 62) ≤ j ∧ j < 2 ^ 62 ∧ R (Itr 0 j.toNat) H
theorem w_ilist {R : It → Hp → Prop} (h : te σ H (kIList K R)) : iList K te σ H R := h
theorem w_itup {R : It → Hp → Prop} (h : te σ H (kITup K R)) : iTup K te σ H R := h
theorem w_irng1 {R : It → Hp → Prop} (h : tr σ H (kIRng1 R)) : iRng1 tr σ H R := h
theorem k_ilist {R : It → Hp → Prop} {p : Addr} {xs : List V} (hp : SqL K H p xs) (h : R (Itl K p) H) : kIList K R (.ref p) H := ⟨p, rfl, ⟨xs, hp⟩, h⟩
theorem k_itup {R : It → Hp → Prop} {p : Addr} {xs : List V} (hp : SqT K H p xs) (h : R (Itt K p) H) : kITup K R (.ref p) H := ⟨p, rfl, ⟨xs, hp⟩, h⟩
theorem k_irng1 {R : It → Hp → Prop} {j : Int} (h1 : -(2 ^ 62) ≤ j) (h2 : j < 2 ^ 62) (h : R (Itr 0 j.toNat) H) : kIRng1 R [.int j] H := ⟨j, rfl, h1, h2, h⟩
def kFor (g : TG) (tb : TS) (D : Ends) (σ : L2.St) (J : It) (H : Hp) : Prop := ∃ W : Nat → Nat → L2.St → Hp → Prop, (∃ m, W 0 m σ H) ∧ ∀ i m σ H, W i m σ H →
  (J.stop i H ∧ D.nx σ H) ∨ (J.go i H ∧ ∃ N : L2.St → Hp → Prop, (∀ σ' H', N σ' H' → ∃ m', m' < m ∧ W (i + 1) m' σ' H') ∧ ∀ x H', J.yld i H x H' → g x σ H' fun σ2 H2 => tb { D with nx := N, ct := N, bk := D.nx } σ2 H2)
theorem w_for {wi : TI} {tb : TS} {D : Ends} (h : wi σ H (kFor g tb D σ)) : tFor wi g tb D σ H := h
def kLc (g : TG) (tt : TT) (te : TE) (ws : List Nat) (σ : L2.St) (Q : VK) (J : It) (H1 : Hp) : Prop := ∀ D, H1 D = none → ∃ W : Nat → Nat → Hp → Prop, (∃ m, W 0 m (upd H1 D (.lst []))) ∧ ∀ i m H, W i m H →
  (J.stop i H ∧ Q (.ref D) H) ∨ (J.go i H ∧ ∃ Nx : Hp → Prop, (∀ H', Nx H' → ∃ m', m' < m ∧ W (i + 1) m' H') ∧ ∀ x H', J.yld i H x H' → g x (wipe σ ws) H' fun σ2 H2 => wipe σ2 ws = wipe σ ws ∧ tt σ2 H2 fun b H3 =>
    if b = true then te σ2 H3 fun y H4 => ∃ acc, H4 D = some (.lst acc) ∧ acc.length < sizeLine ∧ Nx (upd H4 D (.lst (acc ++ [y]))) else Nx H3)
theorem w_lc {wi : TI} {ws : List Nat} (h : wi σ H (kLc g tt te ws σ Q)) : tLc wi g tt te ws σ H Q := h
/-- a for, by a statement over (turn, slots, heap) -/
theorem k_for {J : It} {n : Nat} {G : Hp → Prop} {Y : Nat → Hp → V → Hp → Prop} {tb : TS} (wk : Walk J n G Y) (Pv : Nat → L2.St → Hp → Prop) (h0 : Pv 0 σ H) (hG : ∀ i σ H, i ≤ n → Pv i σ H → G H)
    (hs : ∀ i x σ H H', i < n → Pv i σ H → Y i H x H' → g x σ H' fun σ2 H2 => tb ⟨Pv (i + 1), rt, nx, Pv (i + 1)⟩ σ2 H2) (hd : ∀ σ H, Pv n σ H → nx σ H) : kFor g tb ⟨nx, rt, bk, ct⟩ σ J H := for_it wk Pv h0 hG hs hd
/-- one turn of a comprehension, behind the target -/
def kTurn (tt : TT) (te : TE) (ws : List Nat) (σ : L2.St) (D : Addr) (N : Hp → Prop) (σ2 : L2.St) (H2 : Hp) : Prop := wipe σ2 ws = wipe σ ws ∧ tt σ2 H2 fun b H3 =>
    if b = true then te σ2 H3 fun y H4 => ∃ acc, H4 D = some (.lst acc) ∧ acc.length < sizeLine ∧ N (upd H4 D (.lst (acc ++ [y]))) else N H3
theorem k_lc {J : It} {n : Nat} {G : Hp → Prop} {Y : Nat → Hp → V → Hp → Prop} {ws : List Nat} {σ' : L2.St} (hw : wipe σ ws = σ') (wk : Walk J n G Y) (Pv : Addr → Nat → Hp → Prop) (h0 : ∀ D, H D = none → Pv D 0 (upd H D (.lst []))) (hG : ∀ D i H, i ≤ n → Pv D i H → G H)
    (hs : ∀ D i x H1 H', H D = none → i < n → Pv D i H1 → Y i H1 x H' → g x σ' H' (kTurn tt te ws σ D (Pv D (i + 1)))) (hd : ∀ D H', H D = none → Pv D n H' → Q (.ref D) H') : kLc g tt te ws σ Q J H := by
  subst hw
  exact fun D nD => lc_it wk (Pv D) (h0 D nD) (hG D) (fun i x H1 H' hi hp hy => hs D i x H1 H' nD hi hp hy) fun H' hp => hd D H' nD hp
def kKeep (te : TE) (σ2 : L2.St) (D : Addr) (N : Hp → Prop) (b : Bool) (H3 : Hp) : Prop := if b = true then te σ2 H3 fun y H4 => ∃ acc, H4 D = some (.lst acc) ∧ acc.length < sizeLine ∧ N (upd H4 D (.lst (acc ++ [y]))) else N H3
def kPut (D : Addr) (N : Hp → Prop) (y : V) (H4 : Hp) : Prop := ∃ acc, H4 D = some (.lst acc) ∧ acc.length < sizeLine ∧ N (upd H4 D (.lst (acc ++ [y])))
theorem k_turn {ws : List Nat} {σ2 : L2.St} {D : Addr} {N : Hp → Prop} (e : wipe σ2 ws = wipe σ ws) (h : tt σ2 H (kKeep te σ2 D N)) : kTurn tt te ws σ D N σ2 H := ⟨e, h⟩
theorem k_keepT {σ2 : L2.St} {D : Addr} {N : Hp → Prop} (h : te σ2 H (kPut D N)) : kKeep te σ2 D N true H := h
theorem k_keepF {σ2 : L2.St} {D : Addr} {N : Hp → Prop} (h : N H) : kKeep te σ2 D N false H := iteF h
theorem k_keep2 {σ2 : L2.St} {D : Addr} {N : Hp → Prop} {b : Bool} (h1 : b = true → te σ2 H (kPut D N)) (h2 : b = false → N H) : kKeep te σ2 D N b H := by cases b with | true => exact h1 rfl | false => exact iteF (h2 rfl)
theorem k_put {D : Addr} {N : Hp → Prop} {acc : List V} (hp : H D = some (.lst acc)) (hl : acc.length < sizeLine) (h : N (upd H D (.lst (acc ++ [y])))) : kPut D N y H := ⟨acc, hp, hl, h⟩
theorem w_yes (h : QB true H) : tYes σ H QB := h
theorem k_boT {P : V → Hp → Prop} (h : P (.bl false) H) : P (.bl (!true)) H := h
theorem k_boF {P : V → Hp → Prop} (h : P (.bl true) H) : P (.bl (!false)) H := h
theorem same_rd {H' : Hp} {a : Addr} {u : HO} (e : Same H H') (h : Rd H a u) : Rd H' a u := by
  rcases h with h | ⟨o, h⟩
  · exact .inl (e a _ h)
  · exact .inr ⟨o, e a _ h⟩
theorem same_l {H' : Hp} {a : Addr} {xs : List V} (e : Same H H') (h : SqL K H a xs) : SqL K H' a xs := h.imp (same_rd e) id
theorem same_t {H' : Hp} {a : Addr} {xs : List V} (e : Same H H') (h : SqT K H a xs) : SqT K H' a xs := h.imp (same_rd e) id
theorem ty_l {a : Addr} {xs : List V} (h : SqL K H a xs) : TyX K H (.ref a) (.type "list") := by
  rcases h with (h1 | ⟨o, h1⟩) | ⟨o, its, n, h1, c, _⟩
  · exact .base (.lst h1)
  · exact .base (.frz h1)
  · exact .kList h1 c
theorem ty_t {a : Addr} {xs : List V} (h : SqT K H a xs) : TyX K H (.ref a) (.type "tuple") := by
  rcases h with (h1 | ⟨o, h1⟩) | ⟨o, its, n, h1, c, _⟩
  · exact .base (.tup h1)
  · exact .fTuple h1
  · exact .kTuple h1 c
theorem upd_rd {a p : Addr} {u w o : HO} (h : Rd H a u) (hp : H p = some w) (h1 : w ≠ u) (h2 : ∀ ob, w ≠ .frz ob u) : Rd (upd H p o) a u := by
  rcases h with h | ⟨ob, h⟩
  · exact .inl (by rw [upd_ne (ne_of h hp (Ne.symm h1))]; exact h)
  · exact .inr ⟨ob, by rw [upd_ne (ne_of h hp (Ne.symm (h2 ob)))]; exact h⟩
theorem upd_ins_t {a p C dx : Addr} {fs : List (Str × V)} {o : HO} {xs : List V} (h : SqT K H a xs) (hp : H p = some (.ins C dx fs)) : SqT K (upd H p o) a xs := h.imp (fun h => upd_rd h hp (by intro z; cases z) (by intro _ z; cases z)) id
theorem upd_ins_l {a p C dx : Addr} {fs : List (Str × V)} {o : HO} {xs : List V} (h : SqL K H a xs) (hp : H p = some (.ins C dx fs)) : SqL K (upd H p o) a xs := h.imp (fun h => upd_rd h hp (by intro z; cases z) (by intro _ z; cases z)) id
theorem upd_lst_t {a p : Addr} {ys : List V} {o : HO} {xs : List V} (h : SqT K H a xs) (hp : H p = some (.lst ys)) : SqT K (upd H p o) a xs := h.imp (fun h => upd_rd h hp (by intro z; cases z) (by intro _ z; cases z)) id
/-! isinstance -/
theorem kit2 {t a b : String} {b1 b2 : Bool} (h1 : kitB t a = some b1) (h2 : kitB t b = some b2) : PySem.W.kitAny K (.type t) [.type a, .type b] = some (b1 || b2) :=
  kitAny_cons (kit_ty h1) (fun e => by rw [e]; exact kitAny_cons (kit_ty h2) (fun e2 => by rw [e2]; exact kitAny_nil) (fun e2 => e2)) (fun e => by rw [e]; rfl)
theorem b_isi1 {t n : String} {b : Bool} (ht : TyX K H x (.type t)) (hk : kitB t n = some b) (h : Q (.bl b) H) : rIsi K [x, .ty n] H Q := ⟨x, .ty n, .type t, .type n, b, rfl, .ty n, ht, kit_ty hk, h⟩
theorem b_isi2 {tp : Addr} {t a c : String} {b1 b2 : Bool} (hp : H tp = some (.tup [.ty a, .ty c])) (ht : TyX K H x (.type t)) (h1 : kitB t a = some b1) (h2 : kitB t c = some b2) (h : Q (.bl (b1 || b2)) H) : rIsiT K [x, .ref tp] H Q :=
  ⟨x, tp, _, .type t, [.type a, .type c], _, rfl, hp, .cons (.ty a) (.cons (.ty c) .nil), ht, kit2 h1 h2, h⟩
theorem b_isi {c : V} {tyx u : Value} {b : Bool} (hc : ClsV c u) (ht : TyX K H x tyx) (hk : PySem.W.kitOne K tyx u = some b) (h : Q (.bl b) H) : rIsi K [x, c] H Q := ⟨x, c, tyx, u, b, rfl, hc, ht, hk, h⟩
theorem b_isiT {tp : Addr} {cs : List V} {tyx : Value} {us : List Value} {b : Bool} (hp : H tp = some (.tup cs)) (hc : Paired ClsV cs us) (ht : TyX K H x tyx) (hk : PySem.W.kitAny K tyx us = some b) (h : Q (.bl b) H) : rIsiT K [x, .ref tp] H Q := ⟨x, tp, cs, tyx, us, b, rfl, hp, hc, ht, hk, h⟩
theorem d_eq {d e : PyData} {x y : V} (hd : Dp K H x d) (he : Dp K H y e) (h1 : SeqAt.shaped d = true) (h2 : SeqAt.shaped e = true) (h : Q (.bl (PyData.eqv d e)) H) : rEqD K x y H Q := ⟨d, e, hd, he, h1, h2, h⟩
theorem d_ne {d e : PyData} {x y : V} (hd : Dp K H x d) (he : Dp K H y e) (h1 : SeqAt.shaped d = true) (h2 : SeqAt.shaped e = true) (h : Q (.bl (!PyData.eqv d e)) H) : rNeD K x y H Q := ⟨d, e, hd, he, h1, h2, h⟩
end
/-! rules with the written part told apart (within a comprehension's block it is the def's) -/
section
variable {X : Cx} {K : PySem.W.Frag}
theorem z_ixL (e : X.K = K) : IxR X (rIxL K) := by subst e; exact ix_list
theorem z_ixT (e : X.K = K) : IxR X (rIxT K) := by subst e; exact ix_tup
theorem z_ixQ (e : X.K = K) : IxR X (rIx K) := by subst e; exact ix_seq
theorem z_ixD {w : World} (e : X.K = K) (ew : X.w = w) : IxR X (rIxD K w) := by subst e; subst ew; exact ix_kdict
theorem z_len (e : X.K = K) : CallR X (.builtin "len") (qLen K) := by subst e; exact call_lenN
theorem z_tupOf (e : X.K = K) : CallR X (.type "tuple") (qTupOf K) := by subst e; exact call_tupN
theorem z_listOf (e : X.K = K) : CallR X (.type "list") (qListOf K) := by subst e; exact call_listN
theorem z_in (e : X.K = K) : OpR X (compareOp .In) (rIn K false) := by subst e; exact op_in_seq
theorem z_notIn (e : X.K = K) : OpR X (compareOp .NotIn) (rIn K true) := by subst e; exact op_notIn_seq
theorem z_eqD (e : X.K = K) (hu : X.A.units + 64 < cLine) : OpR X (compareOp .Eq) (rEqD K) := by subst e; exact op_eqD hu
theorem z_neD (e : X.K = K) (hu : X.A.units + 64 < cLine) : OpR X (compareOp .NotEq) (rNeD K) := by subst e; exact op_neD hu
theorem z_inD (e : X.K = K) (hu : X.A.units + 65 < cLine) : OpR X (compareOp .In) (rInD K) := by subst e; exact op_inD hu
theorem z_notInD (e : X.K = K) (hu : X.A.units + 65 < cLine) : OpR X (compareOp .NotIn) (rNotInD K) := by subst e; exact op_notInD hu
theorem z_catA (e : X.K = K) : OpR X (binaryOp .Add) (rCatA K) := by subst e; exact op_catA
theorem z_slL (e : X.K = K) : SlR X (rSlL K) := by subst e; exact sl_list
theorem z_slT (e : X.K = K) : SlR X (rSlA K) := by subst e; exact sl_tupA
theorem z_isi (e : X.K = K) : CallR X (.builtin "isinstance") (rIsi K) := by subst e; exact call_isi
theorem z_isiT (e : X.K = K) : CallR X (.builtin "isinstance") (rIsiT K) := by subst e; exact call_isiT
theorem z_index (e : X.K = K) : MtR X "list.index" (rIndex K) := by subst e; exact mt_index
theorem z_indexD (e : X.K = K) (hu : X.A.units + 65 < cLine) : MtR X "list.index" (rIndexD K) := by subst e; exact mt_indexD hu
theorem z_iL {tg l : Expr} {tl : TE} (e : X.K = K) (h : PE X l tl) : PI X tg l (iList K tl) := by subst e; exact pi_list h
theorem z_iT {tg l : Expr} {tl : TE} (e : X.K = K) (h : PE X l tl) : PI X tg l (iTup K tl) := by subst e; exact pi_tup h
theorem z_fld {o : Expr} {ta : TE} {f : Str} {pos : Pos} (e : X.K = K) (he : PE X o ta) (hb : attributeBase o f X.env (eval o X.env) = eval o X.env) : PE X (.Attribute o f pos) (tFld K ta f) := by subst e; exact pe_fld he hb
theorem z_sfld {o v : Expr} {ta tv : TE} {f : Str} {pos p2 : Pos} (e : X.K = K) (ha : PE X o ta) (hv : PE X v tv) (hs : swapsWith v (some (.Attribute o f p2)) pos.line X.env = pure false) : PS X (.Assign [.Attribute o f p2] v pos) (sFld K ta tv f) := by subst e; exact ps_fld ha hv hs
theorem z_gtup {es : List Expr} {k : Nat} {pos : Pos} {t : TGs} {n : Nat} (e : X.K = K) (hc : X.calm = true) (h : PGs X es t) (hn : (assignEach es X.env).length = n := by rfl) (hst : (assignEach es X.env).findIdx? (·.1) = none := by rfl) : PG X (.Tuple es k pos) (gTup K n t) := by subst e; exact pg_tup hc h hn hst
theorem z_bm0 {o : Expr} {to : TE} {name : Str} {apos cpos : Pos} {T id : String} {r : V → List V → Hp → VK → Prop} (eK : X.K = K) (pa : PlainAttrs T) (slot : Slot T name id) (hty : typeOf (.builtin id) = pure (.type "method_descriptor")) (hm : MtR X id r) (ho : PE X o to) (hbase : attributeBase o name X.env (eval o X.env) = eval o X.env := by rfl) (hline : (apos.endLine == cpos.line) = true := by rfl) : PE X (.Call (.Attribute o name apos) [] [] cpos) (tBM0 K T r to) := by
  subst eK; exact pe_bm0 pa slot hty hm ho hbase hline
theorem z_bm {o e : Expr} {es : List Expr} {to : TE} {t : TA} {name : Str} {apos cpos : Pos} {T id : String} {r : V → List V → Hp → VK → Prop} (eK : X.K = K) (pa : PlainAttrs T) (slot : Slot T name id) (hty : typeOf (.builtin id) = pure (.type "method_descriptor")) (hm : MtR X id r) (ho : PE X o to) (ha : PA X (e :: es) t) (hbase : attributeBase o name X.env (eval o X.env) = eval o X.env := by rfl) (hfew : ((backTo cpos (starEach (e :: es) X.env)).all (fun x => !x.1) && (backToKw cpos (keywordEach [] X.env)).all (fun x => x.1.isSome) && decide ((e :: es).length + ([] : List Keyword).length + (if ([] : List Keyword).isEmpty then 0 else 1) < 30)) = true := by rfl) (hline : (apos.endLine == cpos.line) = true := by rfl) (hs : starEach (e :: es) X.env = (false, eval e X.env) :: starEach es X.env := by rfl) (hplain : (backTo cpos (starEach es X.env)).any (·.1) = false := by rfl) : PE X (.Call (.Attribute o name apos) (e :: es) [] cpos) (tBM K T r to t) := by
  subst eK; exact pe_bm pa slot hty hm ho ha hbase hfew hline hs hplain
end
section
variable {K : PySem.W.Frag} {σ : L2.St} {H : Hp}
theorem cxK {CX : CXT} {P : Program} {w : World} {mg : Str → Option Value} {base : Heap} {N : List Str} {q : Str} {sc : Scope} {f : Addr} {cd : Value} {A : Around} {outer : List Env} {s : Shared} {E : XK} : (cxOf CX P w K mg base N q sc f cd A outer s H E).nox.K = K := rfl
theorem cxK0 {CX : CXT} {P : Program} {w : World} {mg : Str → Option Value} {base : Heap} {N : List Str} {q : Str} {sc : Scope} {f : Addr} {cd : Value} {A : Around} {outer : List Env} {s : Shared} {E : XK} : (cxOf CX P w K mg base N q sc f cd A outer s H E).K = K := rfl
/-- what stood stands, but for the object at r -/
def Kp (r : Addr) (H H' : Hp) : Prop := ∀ a o, a ≠ r → H a = some o → H' a = some o
theorem same_g {H' : Hp} {a : Addr} {o : HO} (e : Same H H') (h : H a = some o) : H' a = some o := e _ _ h
theorem kp_g {H' : Hp} {r a : Addr} {o : HO} (e : Kp r H H') (ne : a ≠ r) (h : H a = some o) : H' a = some o := e _ _ ne h
theorem Kp.refl {r : Addr} : Kp r H H := fun _ _ _ h => h
theorem Kp.trans {r : Addr} {H1 H2 : Hp} (a : Kp r H H1) (b : Kp r H1 H2) : Kp r H H2 := fun c o n h => b c o n (a c o n h)
theorem Kp.of {r : Addr} {H1 : Hp} (a : Same H H1) : Kp r H H1 := fun c o _ h => a c o h
theorem Kp.set {r : Addr} {o : HO} : Kp r H (upd H r o) := fun c u n h => by rw [upd_ne n]; exact h

/-- a statement that goes on: P holds behind it -/
theorem w_cut (P : L2.St → Hp → Prop) (h1 : ∀ N : L2.St → Hp → Prop, (∀ σ' H', P σ' H' → N σ' H') → t ⟨N, rt, bk, ct⟩ σ H) (h2 : ∀ σ' H', P σ' H' → u ⟨nx, rt, bk, ct⟩ σ' H') : tSeq t u ⟨nx, rt, bk, ct⟩ σ H := h1 _ h2
theorem Same.mut {H' : Hp} {p : Addr} {o : HO} (e : Same H H') (h : H p = none) : Same H (upd H' p o) := fun a u ha => by rw [upd_ne (ne_of_none ha h)]; exact e a u ha
/-- a comprehension: Rl what holds of the heap, A over (turn, what is made so far, heap) -/
theorem k_lcR {J : It} {n : Nat} {G : Hp → Prop} {Y : Nat → Hp → V → Hp → Prop} {ws : List Nat} {σ' : L2.St} (hw : wipe σ ws = σ') (wk : Walk J n G Y) (Rl : Hp → Prop) (A : Nat → List V → Hp → Prop) (hG : ∀ H1, Rl H1 → G H1) (h0 : ∀ D, H D = none → Rl (upd H D (.lst [])) ∧ A 0 [] (upd H D (.lst [])))
    (hs : ∀ D i x H1 H' acc, H D = none → i < n → Rl H1 → H1 D = some (.lst acc) → A i acc H1 → Y i H1 x H' → g x σ' H' (kTurn tt te ws σ D (fun H2 => Rl H2 ∧ ∃ acc, H2 D = some (.lst acc) ∧ A (i + 1) acc H2)))
    (hd : ∀ D H' acc, H D = none → Rl H' → H' D = some (.lst acc) → A n acc H' → Q (.ref D) H') : kLc g tt te ws σ Q J H :=
  k_lc hw wk (fun D i H2 => H D = none ∧ Rl H2 ∧ ∃ acc, H2 D = some (.lst acc) ∧ A i acc H2) (fun D nD => ⟨nD, (h0 D nD).1, [], upd_same, (h0 D nD).2⟩) (fun D i H2 _ p => hG H2 p.2.1)
    (fun D i x H1 H' nD hi p y => by
      obtain ⟨_, S, acc, hD, hA⟩ := p
      have e : (fun H2 => H D = none ∧ Rl H2 ∧ ∃ acc, H2 D = some (.lst acc) ∧ A (i + 1) acc H2) = (fun H2 => Rl H2 ∧ ∃ acc, H2 D = some (.lst acc) ∧ A (i + 1) acc H2) := by
        funext H2
        exact propext ⟨fun z => z.2, fun z => ⟨nD, z⟩⟩
      show g x σ' H' (kTurn tt te ws σ D (fun H2 => H D = none ∧ Rl H2 ∧ ∃ acc, H2 D = some (.lst acc) ∧ A (i + 1) acc H2))
      rw [e]
      exact hs D i x H1 H' acc nD hi S hD hA y)
    (fun D H' nD p => by
      obtain ⟨_, S, acc, hD, hA⟩ := p
      exact hd D H' acc nD S hD hA)
/-- a comprehension that leaves all as it was -/
theorem k_lcS {J : It} {n : Nat} {G : Hp → Prop} {Y : Nat → Hp → V → Hp → Prop} {ws : List Nat} {σ' : L2.St} (hw : wipe σ ws = σ') (wk : Walk J n G Y) (A : Nat → List V → Hp → Prop) (hG : ∀ H1, Same H H1 → G H1) (h0 : ∀ D, H D = none → A 0 [] (upd H D (.lst [])))
    (hs : ∀ D i x H1 H' acc, H D = none → i < n → Same H H1 → H1 D = some (.lst acc) → A i acc H1 → Y i H1 x H' → g x σ' H' (kTurn tt te ws σ D (fun H2 => Same H H2 ∧ ∃ acc, H2 D = some (.lst acc) ∧ A (i + 1) acc H2)))
    (hd : ∀ D H' acc, H D = none → Same H H' → H' D = some (.lst acc) → A n acc H' → Q (.ref D) H') : kLc g tt te ws σ Q J H :=
  k_lcR hw wk (fun H2 => Same H H2) A hG (fun D nD => ⟨Same.mut (Same.refl H) nD, h0 D nD⟩) hs hd
theorem r_ixQL {p : Addr} {xs : List V} {i : Int} (hp : SqL K H p xs) (ha : atI xs i = some v) (h : Q v H) : rIx K (.ref p) (.int i) H Q := .inl ⟨p, xs, i, v, rfl, rfl, hp, ha, h⟩
theorem r_ixQT {p : Addr} {xs : List V} {i : Int} (hp : SqT K H p xs) (ha : atI xs i = some v) (h : Q v H) : rIx K (.ref p) (.int i) H Q := .inr (.inl ⟨p, xs, i, v, rfl, rfl, hp, ha, h⟩)
theorem ndT {c : Prop} [Decidable c] (h : ¬ c) : (!decide c) = true := by rw [decide_eq_false h]; rfl
theorem ndF {c : Prop} [Decidable c] (h : c) : (!decide c) = false := by rw [decide_eq_true h]; rfl
theorem e_ifT {b : Bool} (e : b = true) (h : t ⟨nx, rt, bk, ct⟩ σ H) : kIfS t u ⟨nx, rt, bk, ct⟩ σ b H := by rw [e]; exact h
theorem e_ifF {b : Bool} (e : b = false) (h : u ⟨nx, rt, bk, ct⟩ σ H) : kIfS t u ⟨nx, rt, bk, ct⟩ σ b H := by rw [e]; exact iteF h
theorem e_orT {b : Bool} (e : b = true) (h : QB true H) : kOr tu σ QB b H := by rw [e]; exact h
theorem e_orF {b : Bool} (e : b = false) (h : tu σ H QB) : kOr tu σ QB b H := by rw [e]; exact iteF h
theorem e_andT {b : Bool} (e : b = true) (h : tu σ H QB) : kAnd tu σ QB b H := by rw [e]; exact h
theorem e_andF {b : Bool} (e : b = false) (h : QB false H) : kAnd tu σ QB b H := by rw [e]; exact iteF h
theorem e_orVT {b : Bool} (e : b = true) (h : Q (.bl true) H) : kOrV tb σ Q (.bl b) H := by rw [e]; exact ⟨true, rfl, h⟩
theorem e_orVF {b : Bool} (e : b = false) (h : tb σ H Q) : kOrV tb σ Q (.bl b) H := by rw [e]; exact ⟨false, rfl, iteF h⟩
theorem e_andVT {b : Bool} (e : b = true) (h : tb σ H Q) : kAndV tb σ Q (.bl b) H := by rw [e]; exact ⟨true, rfl, h⟩
theorem e_andVF {b : Bool} (e : b = false) (h : Q (.bl false) H) : kAndV tb σ Q (.bl b) H := by rw [e]; exact ⟨false, rfl, iteF h⟩
theorem e_ifET {b : Bool} (e : b = true) (h : ta σ H Q) : kIf ta tb σ Q b H := by rw [e]; exact h
theorem e_ifEF {b : Bool} (e : b = false) (h : tb σ H Q) : kIf ta tb σ Q b H := by rw [e]; exact iteF h
theorem e_chT {b : Bool} (e : b = true) (h : tc σ H fun w' H4 => r' y w' H4 Q) : kChain tc r' σ Q y (.bl b) H := by rw [e]; exact ⟨true, rfl, h⟩
theorem e_chF {b : Bool} (e : b = false) (h : Q (.bl false) H) : kChain tc r' σ Q y (.bl b) H := by rw [e]; exact ⟨false, rfl, iteF h⟩
theorem e_keepT {σ2 : L2.St} {D : Addr} {N : Hp → Prop} {b : Bool} (e : b = true) (h : te σ2 H (kPut D N)) : kKeep te σ2 D N b H := by rw [e]; exact h
theorem e_keepF {σ2 : L2.St} {D : Addr} {N : Hp → Prop} {b : Bool} (e : b = false) (h : N H) : kKeep te σ2 D N b H := by rw [e]; exact iteF h
end
end Bk

/-! Errors: own classes over ValueError, made and raised; isinstance and fields within an except suite; an instance made within a try. -/
namespace Bk
open PySem L2
section
variable {X : Cx} {K : PySem.W.Frag}
/-! ### o.f as a target -/
def gFld (K : PySem.W.Frag) (f : Str) (to : TE) : TG := fun v σ H QS => to σ H (kSFld K f QS σ v)
theorem z_gfld {o : Expr} {f : Str} {pos : Pos} {to : TE} (e : X.K = K) (ho : PE X o to) : PG X (.Attribute o f pos) (gFld K f to) := by
  subst e
  refine ⟨fun pins s σ H v u Q I r h => ?_⟩
  rw [PySem.assign_Attribute]
  refine wpAny_bind (wpAny_holding (thn (ho.run pins s σ H _ I h) fun ov s1 ⟨x, H1, I1, r1, a, C, dx, fs, ex, ea, c, n, l, q⟩ => ?_))
  subst ex
  obtain rfl : ov = Value.ref a := r1
  exact wpAny_bind (wpAny_standAt (wpAny_bind (wpAny_holding (setattr_ok I1 ea c n l r fun s2 I2 => wpAny_release ⟨σ, _, I2, q⟩))))
theorem g_fld {f : Str} {to : TE} {v : V} {σ : L2.St} {H : Hp} {QS : L2.St → Hp → Prop} (h : to σ H (kSFld K f QS σ v)) : gFld K f to v σ H QS := h
/-! ### an instance, made where what its making raises is wished for at the slots -/
def tMakeS (C : Addr) (sp : Sp) (E : L2.St → XK) (t : TA) : TE := fun σ H Q => t σ H (kMake C sp (E σ) Q)
theorem w_makeS {C : Addr} {sp : Sp} {E : L2.St → XK} {t : TA} {σ : L2.St} {H : Hp} {Q : VK} (h : t σ H (kMake C sp (E σ) Q)) : tMakeS C sp E t σ H Q := h
theorem z_makeS {CX : CXT} {k : Nat} {f C : Addr} {fd : FuncData} {ps : List Str} {sp : Sp} {E : L2.St → XK} {x : Str} {p pos : Pos} {e : Expr} {es : List Expr} {t : TA} (M : Mk X.K C f) (F : FnOk X.prog X.w X.K X.mg X.base CX k f fd ps sp) (hr : Room (k + 1) X.A) (hg : Gl X x) (hm : X.mg x = some (.ref C)) (hb : Binds X.K fd ps []) (hx : ∀ σ, PassesAt CX X σ (E σ)) (ha : PA X (e :: es) t)
    (hdb : (x == ("__debug__" : Str)) = false := by decide) (he : starEach (e :: es) X.env = (false, eval e X.env) :: starEach es X.env := by rfl) (hpl : (backTo pos (starEach es X.env)).any (·.1) = false := by rfl) : PE X (.Call (.Name x p) (e :: es) [] pos) (tMakeS C sp E t) := by
  refine ⟨fun pins s σ H Q I h => wpAny_Call_Name_kw (ld_glob I hg hm ?_ hdb)⟩
  refine PySem.W.callWith_K (h₀ := X.base) I.ok.mod.kin M.kp (thn (ha.run pos pins s σ H _ I h) fun us s1 hh => ?_) he hpl
  obtain ⟨vs, H1, I1, rv, q⟩ := hh
  refine ⟨I1.kIn, ?_⟩
  have q1 := q (s1.heap.objs.size + 1) s1.heap.objs.size (I1.hok.fresh (Nat.le_succ _)) (I1.hok.fresh (Nat.le_refl _)) (Nat.ne_of_lt (Nat.lt_succ_self _))
  have I2 := Inv.made (C := C) I1
  have rr : Vals (V.ref (s1.heap.objs.size + 1) :: vs) (Value.ref (s1.heap.objs.size + 1) :: us) := .cons rfl rv
  have hl : (Value.ref (s1.heap.objs.size + 1) :: us).length = ps.length := by rw [← rr.length]; exact F.len _ _ _ _ q1
  have bb := hb _ (Value.ref (s1.heap.objs.size + 1) :: us) I2.kIn (by rw [List.append_nil]; exact hl)
  rw [List.append_nil] at bb
  show wpAny _ _ (call (.ref C) us) _ _ _
  refine wpAny_call (make_map (f := f) I1.kIn M.makes M.init (beq_iff_eq.mp M.fn) (codeAny_mono (F.run _ X.stack _ _ ⟨Value.ref (s1.heap.objs.size + 1) :: us, []⟩ _ _ _ (E σ) (hr.make C us []) (I2.env0.make C us []) bb rr q1) fun r s' hq => ?_))
  match r, hq with
  | .error er, hq => exact hx σ pins _ _ er s' I2 hq
  | .ok (.ret u), hq =>
    obtain ⟨v, H', I3, ru, ev, q3⟩ := I2.after hq
    subst ev
    exact ⟨ru, V.ref (s1.heap.objs.size + 1), H', I3, rfl, q3⟩
  | .ok .next, hq => exact False.elim hq
  | .ok .brk, hq => exact False.elim hq
  | .ok .cont, hq => exact False.elim hq
/-! ### raise C('..') -/
def tRaiseOwn (C : Addr) (W : WX) : TS := fun _ σ H => W (.ref C) none σ H
theorem z_raise {C : Addr} {W : WX} {x m : Str} {j : Nat} {p p2 pos pos2 : Pos} (hc : X.calm = true) (tk : Takes X W) (q : PySem.W.excIn X.K C He.veBase "ValueError.__new__" = true) (gC : X.mg x = some (.ref C)) (kC : PySem.W.keepIn X.K (.ref C) = true)
    (hb : PySem.W.subIn X.K (.ref C) (.type "BaseException") = some true) (ht : PySem.W.typeIn X.K (.ref C) = some (.type "type")) (hg : Gl X x) (hdb : (x == ("__debug__" : Str)) = false := by decide) :
    PS X (.Raise (some (.Call (.Name x p) [.Constant (.str m) j p2] [] pos)) none pos2) (tRaiseOwn C W) := ps_raise hc tk (pmk_own PySem.F.excBase_ValueError q gC kC (raises_own hb ht) hg hdb)
theorem w_raise {C : Addr} {W : WX} {D : Ends} {σ : L2.St} {H : Hp} (h : W (.ref C) none σ H) : tRaiseOwn C W D σ H := h
/-! ### try .. except X as e -/
def tTryAs (K : PySem.W.Frag) (c : Value) (i : Nat) (tb : WX → TS) (ts : Addr → Value → Option Addr → TS) (Wout : WX) : TS := fun D σ H => tb (wAs K c i ts Wout D) D σ H
theorem w_try {c : Value} {i : Nat} {tb : WX → TS} {ts : Addr → Value → Option Addr → TS} {Wout : WX} {D : Ends} {σ : L2.St} {H : Hp} (h : tb (wAs K c i ts Wout D) D σ H) : tTryAs K c i tb ts Wout D σ H := h
theorem z_try {x n : Str} {c : Value} {i : Nat} {body suite : List Stmt} {b0 : Stmt} {np pos pos' : Pos} {tb : WX → TS} {ts : Addr → Value → Option Addr → TS} {Wout : WX} (eK : X.K = K) (hs : X.stack = X.env :: X.outer) (hf : X.env.frame = some X.env.locals) (hN : X.N.Nodup) (hi : X.N[i]? = some n) (hln : X.env.kindOf n = some .local) (hc : Names X x c) (tk : Takes X Wout)
    (hb : ∀ (W : WX) (pn : List (Addr × Obj)) (xe : Value → Shared → Prop), Takes (X.tr pn xe) W → PassesOwn (model X.prog X.w) X.A X.env xe → PSs (X.tr pn xe) body (tb W))
    (hsu : ∀ (a : Addr) (oe : Obj) (cls : Value) (d : Option Addr) (pn : List (Addr × Obj)), Zc cls d oe → (∃ vs, oe.data = .fields vs) → PSs (X.suite a ((a, oe) :: pn)) (b0 :: suite) (ts a cls d)) :
    PS X (.Try body [.ExceptHandler (some (.Name x np)) (some n) (b0 :: suite) pos'] [] [] pos) (tTryAs K c i tb ts Wout) := by
  subst eK
  exact ps_try_as hs hf hN hi hln hc tk hb hsu
/-- what the clause wishes, where it takes the error -/
theorem k_as {c cls : Value} {i : Nat} {ts : Addr → Value → Option Addr → TS} {Wout : WX} {nx bk ct : L2.St → Hp → Prop} {rt : VK} {d : Option Addr} {σ : L2.St} {H : Hp} (he : PySem.W.exmOne K cls c = some true)
    (h : ∀ a, H a = none → ts a cls d ⟨fun σ' H' => nx (σ'.set i none) H', rt, fun σ' H' => bk (σ'.set i none) H', fun σ' H' => ct (σ'.set i none) H'⟩ (σ.set i (some (.ref a))) H) : wAs K c i ts Wout ⟨nx, rt, bk, ct⟩ cls d σ H := ⟨true, he, fun _ => h, fun z => nomatch z⟩
/-! ### isinstance of the error at hand -/
structure XcC (K : PySem.W.Frag) (D : Addr) : Prop where
  cl : (PySem.W.clsIn K D).isSome = true
  ga : PySem.W.findIn K (.ref D) "__getattribute__" = some (some (.builtin "BaseException.__getattribute__"))
  gt : PySem.W.findIn K (.ref D) "__getattr__" = some none
  sb : PySem.W.subIn K (.ref D) (.type "BaseException") = some true
  ha : PySem.W.findIn K (.ref D) "__class__" = some (some (.builtin "object.__class__"))
  hn : PySem.W.specialIn K (.builtin "object.__class__") "__get__" = some (some (.builtin "getset_descriptor.__get__"))
  tk : PySem.W.takesIn K (.builtin "object.__class__") = some true
  mr : PySem.W.mroIn K D (.type "object") = some true
def xcB (K : PySem.W.Frag) (D : Addr) : Bool := (PySem.W.clsIn K D).isSome && (decide (PySem.W.findIn K (.ref D) "__getattribute__" = some (some (.builtin "BaseException.__getattribute__"))) && (decide (PySem.W.findIn K (.ref D) "__getattr__" = some none) && (decide (PySem.W.subIn K (.ref D) (.type "BaseException") = some true) &&
  (decide (PySem.W.findIn K (.ref D) "__class__" = some (some (.builtin "object.__class__"))) && (decide (PySem.W.specialIn K (.builtin "object.__class__") "__get__" = some (some (.builtin "getset_descriptor.__get__"))) && (decide (PySem.W.takesIn K (.builtin "object.__class__") = some true) && decide (PySem.W.mroIn K D (.type "object") = some true)))))))
theorem xcB_ok {D : Addr} (h : xcB K D = true) : XcC K D := by
  unfold xcB at h
  simp only [Bool.and_eq_true, decide_eq_true_eq] at h
  obtain ⟨h1, h2, h3, h4, h5, h6, h7, h8⟩ := h
  exact ⟨h1, h2, h3, h4, h5, h6, h7, h8⟩
def rIsX (K : PySem.W.Frag) (a : Addr) (cls : Value) (d : Option Addr) : List V → Hp → VK → Prop := fun xs H Q => ∃ (D : Addr) (c : V) (cv : Value) (b : Bool), xs = [.ref a, c] ∧ cls = .ref D ∧ XcC K D ∧ (d = none ∨ ∃ dd fs, d = some dd ∧ H dd = some (.xd fs)) ∧ (∀ u, RelV c u → u = cv) ∧ PySem.W.kitOne K (.ref D) cv = some b ∧ Q (.bl b) H
theorem call_isX {a : Addr} {oe : Obj} {cls : Value} {d : Option Addr} {pn : List (Addr × Obj)} (eK : X.K = K) (hz : Zc cls d oe) (hf : ∃ vs, oe.data = .fields vs) : CallR (X.suite a ((a, oe) :: pn)) (.builtin "isinstance") (rIsX K a cls d) := by
  subst eK
  intro pins s σ H xs us Q I r h
  obtain ⟨D, c, cv, b, rfl, rfl, T, hd, hcv, e, q⟩ := h
  match us, r with
  | [u1, u2], .cons rx (.cons rt .nil) =>
    obtain rfl : u1 = Value.ref a := rx
    obtain rfl := hcv _ rt
    have hget := (I.pin (a, oe) (List.mem_append_left _ List.mem_cons_self)).1
    obtain ⟨vs, hv⟩ := hf
    have go : ∀ od, PySem.W.InstAt s.heap a oe D od → wpAny (model (X.suite a ((a, oe) :: pn)).prog (X.suite a ((a, oe) :: pn)).w) (X.suite a ((a, oe) :: pn)).A (call (.builtin "isinstance") [.ref a, u2]) (EP (X.suite a ((a, oe) :: pn)) pins σ Q) (X.suite a ((a, oe) :: pn)).xe s := fun od J =>
      PySem.W.kia_one (PySem.W.kitx_exc T.cl T.ga T.gt T.sb T.ha T.hn T.tk T.mr) I.kIn J e (fun z => nomatch z) fun tk => ⟨.bl b, H, I.kept (t' := tk) fun _ _ z => z, rfl, q⟩
    have nc : PySem.W.notCls oe = true := by unfold PySem.W.notCls; rw [hv] <;> rfl
    rcases hd with hd | ⟨dd, fs, hd, ea⟩
    · exact go none ⟨hget, hz.1, nc, by rw [hz.2, hd]; trivial⟩
    · obtain ⟨mA, hns, _⟩ := (show ObjOk X.prog X.w H s.heap dd (.xd fs) from I.hok dd _ ea)
      obtain ⟨od, ho, _⟩ := lookIn_ns hns
      exact go (some od) ⟨hget, hz.1, nc, by rw [hz.2, hd]; exact ho⟩
theorem b_isX {D a : Addr} {c : V} {cv : Value} {d : Option Addr} {b : Bool} {H : Hp} {Q : VK} (T : XcC K D) (hd : d = none ∨ ∃ dd fs, d = some dd ∧ H dd = some (.xd fs)) (hc : ∀ u, RelV c u → u = cv) (hk : PySem.W.kitOne K (.ref D) cv = some b) (h : Q (.bl b) H) : rIsX K a (.ref D) d [.ref a, c] H Q := ⟨D, c, cv, b, rfl, rfl, T, hd, hc, hk, h⟩
end
end Bk

local macro_rules | `(tactic| walk_at "b") => `(tactic| first | with_reducible assumption | with_reducible rfl | decide | exact decide_eq_true (by omega) | exact decide_eq_false (by omega) | exact Bk.ndT (by omega) | exact Bk.ndF (by omega) | (simp only [beq_self_eq_true, decide_true, Bool.not_true, Bool.not_false]; done))
local macro_rules | `(tactic| walk_at "s") => `(tactic| first | (with_reducible refine' Bk.w_seq ?_) | (with_reducible refine' Bk.w_next ?_) | (with_reducible refine' Bk.w_brk ?_) | (with_reducible refine' Bk.w_cont ?_) | (with_reducible refine' Bk.w_drop ?_) | (with_reducible refine' Bk.w_ret ?_) | (with_reducible refine' Bk.w_retN ?_) | (with_reducible refine' Bk.w_asg ?_) | (with_reducible refine' Bk.w_ifS ?_) | (with_reducible refine' Bk.w_c ?_) | (with_reducible refine' Bk.w_v0 ?_) | (with_reducible refine' Bk.w_v1 ?_) | (with_reducible refine' Bk.w_v2 ?_) | (with_reducible refine' Bk.w_v3 ?_) | (with_reducible refine' Bk.w_v4 ?_) | (with_reducible refine' Bk.w_v5 ?_) | (with_reducible refine' Bk.w_v6 ?_) | (with_reducible refine' Bk.w_v7 ?_) | (with_reducible refine' Bk.w_v8 ?_) | (with_reducible refine' Bk.w_v9 ?_) | (with_reducible refine' Bk.w_v10 ?_) | (with_reducible refine' Bk.w_v11 ?_) | (with_reducible refine' Bk.w_v12 ?_) | (with_reducible refine' Bk.w_v13 ?_) | (with_reducible refine' Bk.w_v14 ?_) | (with_reducible refine' Bk.w_v15 ?_) | (with_reducible refine' Bk.w_v16 ?_) | (with_reducible refine' Bk.w_v17 ?_) | (with_reducible refine' Bk.w_v18 ?_) | (with_reducible refine' Bk.w_v19 ?_) | (with_reducible refine' Bk.w_v20 ?_) | (with_reducible refine' Bk.w_v21 ?_) | (with_reducible refine' Bk.g_n0 ?_) | (with_reducible refine' Bk.g_n1 ?_) | (with_reducible refine' Bk.g_n2 ?_) | (with_reducible refine' Bk.g_n3 ?_) | (with_reducible refine' Bk.g_n4 ?_) | (with_reducible refine' Bk.g_n5 ?_) | (with_reducible refine' Bk.g_n6 ?_) | (with_reducible refine' Bk.g_n7 ?_) | (with_reducible refine' Bk.g_n8 ?_) | (with_reducible refine' Bk.g_n9 ?_) | (with_reducible refine' Bk.g_n10 ?_) | (with_reducible refine' Bk.g_n11 ?_) | (with_reducible refine' Bk.g_n12 ?_) | (with_reducible refine' Bk.g_n13 ?_) | (with_reducible refine' Bk.g_n14 ?_) | (with_reducible refine' Bk.g_n15 ?_) | (with_reducible refine' Bk.g_n16 ?_) | (with_reducible refine' Bk.g_n17 ?_) | (with_reducible refine' Bk.g_n18 ?_) | (with_reducible refine' Bk.g_n19 ?_) | (with_reducible refine' Bk.g_n20 ?_) | (with_reducible refine' Bk.g_n21 ?_) | (with_reducible refine' Bk.w_op ?_) | (with_reducible refine' Bk.k_op ?_) | (with_reducible refine' Bk.w_un ?_) | (with_reducible refine' Bk.r_I0 ?_) | (with_reducible refine' Bk.r_U ?_) | (with_reducible refine' Bk.r_eqI ?_) | (with_reducible refine' Bk.r_neI ?_) | (with_reducible refine' Bk.r_eqB ?_) | (with_reducible refine' Bk.r_neB ?_) | (with_reducible refine' Bk.r_eqS ?_) | (with_reducible refine' Bk.r_neS ?_) | (with_reducible refine' Bk.w_test ?_) | (with_reducible refine' Bk.w_B ?_) | (with_reducible refine' Bk.k_test ?_) | (with_reducible refine' Bk.w_not ?_) | (with_reducible refine' Bk.w_and ?_) | (with_reducible refine' Bk.w_or ?_) | (with_reducible refine' Bk.w_andV ?_) | (with_reducible refine' Bk.w_orV ?_) | (with_reducible refine' Bk.w_notV ?_) | (with_reducible refine' Bk.k_notV ?_) | (with_reducible refine' Bk.w_if ?_) | (with_reducible refine' Bk.w_chain ?_) | (with_reducible refine' Bk.k_chain1 ?_) | (with_reducible refine' Bk.w_nil ?_) | (with_reducible refine' Bk.w_cons ?_) | (with_reducible refine' Bk.k_cons ?_) | (with_reducible refine' Bk.w_tup ?_) | (with_reducible refine' Bk.w_lst ?_) | (with_reducible refine' Bk.w_cb ?_) | (with_reducible refine' Bk.w_call ?_) | (with_reducible refine' Bk.w_make ?_) | (with_reducible refine' Bk.w_meth ?_) | (with_reducible refine' Bk.w_fld ?_) | (with_reducible refine' Bk.w_sfld ?_) | (with_reducible refine' Bk.g_nil ?_) | (with_reducible refine' Bk.g_cons ?_) | (with_reducible refine' Bk.g_sub ?_) | (with_reducible refine' Bk.k_gsub ?_) | (with_reducible refine' Bk.b_abs ?_) | (with_reducible refine' Bk.b_max2 ?_) | (with_reducible refine' Bk.b_min2 ?_) | (with_reducible refine' Bk.b_intB ?_) | (with_reducible refine' Bk.b_intI ?_) | (with_reducible refine' Bk.n_isNT ?_) | (with_reducible refine' Bk.n_isNi ?_) | (with_reducible refine' Bk.n_isNb ?_) | (with_reducible refine' Bk.n_isNs ?_) | (with_reducible refine' Bk.n_isNr ?_) | (with_reducible refine' Bk.n_notNT ?_) | (with_reducible refine' Bk.n_notNi ?_) | (with_reducible refine' Bk.n_notNb ?_) | (with_reducible refine' Bk.n_notNs ?_) | (with_reducible refine' Bk.n_notNr ?_) | (with_reducible refine' Bk.r_isN ?_) | (with_reducible refine' Bk.r_notN ?_) | (with_reducible refine' Bk.r_inC ?_) | (with_reducible refine' Bk.r_notInC ?_) | (with_reducible refine' Bk.w_bm ?_) | (with_reducible refine' Bk.w_bm0 ?_) | (with_reducible refine' Bk.k_bmS ?_) | (with_reducible refine' Bk.w_sl ?_) | (with_reducible refine' Bk.k_sl1 ?_) | (with_reducible refine' Bk.w_nopart ?_) | (with_reducible refine' Bk.w_part ?_) | (with_reducible refine' Bk.k_part ?_) | (with_reducible refine' Bk.w_ilist ?_) | (with_reducible refine' Bk.w_itup ?_) | (with_reducible refine' Bk.w_irng1 ?_) | (with_reducible refine' Bk.w_for ?_) | (with_reducible refine' Bk.w_lc ?_) | (with_reducible refine' Bk.w_yes ?_) | (with_reducible refine' Bk.w_makeS ?_) | (with_reducible refine' Bk.w_raise ?_) | (with_reducible refine' Bk.w_try ?_) | (with_reducible refine' Bk.g_fld ?_) | ((with_reducible refine' Bk.e_ifT ?he ?_); (case he => walk_at "b")) | ((with_reducible refine' Bk.e_ifF ?he ?_); (case he => walk_at "b")) | ((with_reducible refine' Bk.e_orT ?he ?_); (case he => walk_at "b")) | ((with_reducible refine' Bk.e_orF ?he ?_); (case he => walk_at "b")) | ((with_reducible refine' Bk.e_andT ?he ?_); (case he => walk_at "b")) | ((with_reducible refine' Bk.e_andF ?he ?_); (case he => walk_at "b")) | ((with_reducible refine' Bk.e_orVT ?he ?_); (case he => walk_at "b")) | ((with_reducible refine' Bk.e_orVF ?he ?_); (case he => walk_at "b")) | ((with_reducible refine' Bk.e_andVT ?he ?_); (case he => walk_at "b")) | ((with_reducible refine' Bk.e_andVF ?he ?_); (case he => walk_at "b")) | ((with_reducible refine' Bk.e_ifET ?he ?_); (case he => walk_at "b")) | ((with_reducible refine' Bk.e_ifEF ?he ?_); (case he => walk_at "b")) | ((with_reducible refine' Bk.e_chT ?he ?_); (case he => walk_at "b")) | ((with_reducible refine' Bk.e_chF ?he ?_); (case he => walk_at "b")) | ((with_reducible refine' Bk.e_keepT ?he ?_); (case he => walk_at "b")) | ((with_reducible refine' Bk.e_keepF ?he ?_); (case he => walk_at "b")) | ((with_reducible refine' Bk.r_ixL ?hp ?ha ?_); (case hp => walk_at "seqL"); (case ha => walk_at "at")) | ((with_reducible refine' Bk.r_ixT ?hp ?ha ?_); (case hp => walk_at "seqT"); (case ha => walk_at "at")) | ((with_reducible refine' Bk.r_ixQL ?hp ?ha ?_); (case hp => walk_at "seqL"); (case ha => walk_at "at")) | ((with_reducible refine' Bk.r_ixQT ?hp ?ha ?_); (case hp => walk_at "seqT"); (case ha => walk_at "at")) | ((with_reducible refine' Bk.r_setL ?hp ?hj ?_); (case hp => walk_at "hp"); (case hj => walk_at "at")) | ((with_reducible refine' Bk.r_I ?hc ?_); (case hc => walk_at "c")) | ((with_reducible refine' Bk.b_lenL ?hp ?_); (case hp => walk_at "seqL")) | ((with_reducible refine' Bk.b_lenT ?hp ?_); (case hp => walk_at "seqT")) | ((with_reducible refine' Bk.k_fld ?ho ?hc ?hn ?hl ?_); (case ho => walk_at "hp"); (case hc => walk_at "fact"); (case hn => walk_at "fact"); (case hl => walk_at "at")) | ((with_reducible refine' Bk.k_sfld ?ho ?hc ?hn ?hz ?he ?_); (case ho => walk_at "hp"); (case hc => walk_at "fact"); (case hn => walk_at "fact"); (case hz => walk_at "fl"); (case he => walk_at "at")) | ((with_reducible refine' Bk.k_meth ?ho ?hl ?_); (case ho => walk_at "hp"); (case hl => walk_at "at")) | ((with_reducible refine' Bk.g_tup ?hp ?hl ?_); (case hp => walk_at "seqT"); (case hl => walk_at "at")) | ((with_reducible refine' Bk.k_bmL ?hp ?_); (case hp => walk_at "seqL")) | ((with_reducible refine' Bk.k_bm0L ?hp ?_); (case hp => walk_at "seqL")) | ((with_reducible refine' Bk.k_ilist ?hp ?_); (case hp => walk_at "seqL")) | ((with_reducible refine' Bk.k_itup ?hp ?_); (case hp => walk_at "seqT")) | ((with_reducible refine' Bk.k_irng1 ?h1 ?h2 ?_); (case h1 => walk_at "c"); (case h2 => walk_at "c")) | ((with_reducible refine' Bk.k_turn ?he ?_); (case he => walk_at "at")) | ((with_reducible refine' Bk.b_isi1 (b := true) ?ht ?hk ?_); (case ht => walk_at "ty"); (case hk => decide +kernel)) | ((with_reducible refine' Bk.b_isi1 (b := false) ?ht ?hk ?_); (case ht => walk_at "ty"); (case hk => decide +kernel)) | ((with_reducible refine' Bk.b_isi2 (b1 := true) (b2 := true) ?hp ?ht ?h1 ?h2 ?_); (case hp => walk_at "hp"); (case ht => walk_at "ty"); (case h1 => decide +kernel); (case h2 => decide +kernel)) | ((with_reducible refine' Bk.b_isi2 (b1 := true) (b2 := false) ?hp ?ht ?h1 ?h2 ?_); (case hp => walk_at "hp"); (case ht => walk_at "ty"); (case h1 => decide +kernel); (case h2 => decide +kernel)) | ((with_reducible refine' Bk.b_isi2 (b1 := false) (b2 := true) ?hp ?ht ?h1 ?h2 ?_); (case hp => walk_at "hp"); (case ht => walk_at "ty"); (case h1 => decide +kernel); (case h2 => decide +kernel)) | ((with_reducible refine' Bk.b_isi2 (b1 := false) (b2 := false) ?hp ?ht ?h1 ?h2 ?_); (case hp => walk_at "hp"); (case ht => walk_at "ty"); (case h1 => decide +kernel); (case h2 => decide +kernel)) | ((with_reducible refine' Bk.m_append ?hp ?hl ?_); (case hp => walk_at "hp"); (case hl => walk_at "sz")) | ((with_reducible refine' Bk.k_put ?hp ?hl ?_); (case hp => walk_at "hp"); (case hl => walk_at "sz")) | ((with_reducible refine' Bk.s_tup ?hl ?_); (case hl => walk_at "sz"); intro p np S) | ((with_reducible refine' Bk.s_lst ?hl ?_); (case hl => walk_at "sz"); intro p np S) | ((with_reducible refine' Bk.s_tupL ?hp ?_); (case hp => walk_at "seqL"); intro p np S) | ((with_reducible refine' Bk.b_tupT ?hp ?_); (case hp => walk_at "seqT")) | ((with_reducible refine' Bk.s_listOf ?hp ?_); (case hp => walk_at "seqL"); intro p np S) | ((with_reducible refine' Bk.s_cat ?hp ?hb ?hl ?_); (case hp => walk_at "hp"); (case hb => walk_at "hp"); (case hl => walk_at "sz"); intro p np S) | ((with_reducible refine' Bk.s_slL ?hp ?_); (case hp => walk_at "seqL"); intro p np S) | ((with_reducible refine' Bk.b_isX ?hT ?hd ?hc ?hk ?_); (case hT => with_reducible assumption); (case hd => first | exact Or.inl rfl | with_reducible assumption); (case hc => exact fun _ h => h); (case hk => with_reducible assumption)))
local macro_rules | `(tactic| walk_at "sz") => `(tactic| first | with_reducible assumption | (refine Bk.sz_of ?_; first | decide | omega | (simp only [List.length_cons, List.length_nil, List.length_append, List.length_map, List.length_range]; omega) | (simp only [List.length_cons, List.length_nil, List.length_append, List.length_map, List.length_range]; done)) | (refine Bk.sz_lt ?_; first | decide | omega | (simp only [List.length_cons, List.length_nil, List.length_append, List.length_map, List.length_range]; omega) | (simp only [List.length_cons, List.length_nil, List.length_append, List.length_map, List.length_range]; done)))
local macro_rules | `(tactic| walk_at "seqL") => `(tactic| first | with_reducible assumption | ((with_reducible refine' Bk.same_l ?h1 ?h2); (case h1 => with_reducible assumption); (case h2 => with_reducible assumption)) | ((with_reducible refine' L2.SqL.of ?h1); (case h1 => walk_at "hp")) | ((with_reducible refine' Bk.upd_ins_l ?h1 ?h2); (case h2 => walk_at "hp"); (case h1 => walk_at "seqL")))
local macro_rules | `(tactic| walk_at "seqT") => `(tactic| first | with_reducible assumption | ((with_reducible refine' Bk.same_t ?h1 ?h2); (case h1 => with_reducible assumption); (case h2 => with_reducible assumption)) | ((with_reducible refine' L2.SqT.of ?h1); (case h1 => walk_at "hp")) | ((with_reducible refine' Bk.upd_ins_t ?h1 ?h2); (case h2 => walk_at "hp"); (case h1 => walk_at "seqT")) | ((with_reducible refine' Bk.upd_lst_t ?h1 ?h2); (case h2 => walk_at "hp"); (case h1 => walk_at "seqT")))
local macro_rules | `(tactic| walk_at "hp") => `(tactic| first | with_reducible assumption | with_reducible exact L2.upd_same | ((with_reducible refine' Eq.trans (L2.upd_ne ?ne) ?hp); (case ne => walk_at "ne"); (case hp => walk_at "hp")) | ((with_reducible refine' Bk.same_g ?h1 ?h2); (case h1 => with_reducible assumption); (case h2 => walk_at "hp")) | ((with_reducible refine' Bk.kp_g ?h1 ?ne ?h2); (case h1 => with_reducible assumption); (case ne => walk_at "ne"); (case h2 => walk_at "hp")))
local macro_rules | `(tactic| walk_at "ne") => `(tactic| first | with_reducible assumption | ((with_reducible refine Ne.symm ?_); with_reducible assumption) | ((with_reducible refine' L2.ne_of_none ?h1 ?h2); (case h2 => with_reducible assumption); (case h1 => walk_at "hp")) | ((with_reducible refine' Ne.symm (L2.ne_of_none ?h1 ?h2)); (case h2 => with_reducible assumption); (case h1 => walk_at "hp")))
local macro_rules | `(tactic| walk_at "at") => `(tactic| first | with_reducible assumption | rfl)
local macro_rules | `(tactic| walk_at "ty") => `(tactic| first | with_reducible exact L2.TyX.base (.int _) | with_reducible exact L2.TyX.base (.bl _) | with_reducible exact L2.TyX.base (.str _) | with_reducible exact L2.TyX.base .non | ((with_reducible refine' Bk.ty_l ?h1); (case h1 => walk_at "seqL")) | ((with_reducible refine' Bk.ty_t ?h1); (case h1 => walk_at "seqT")))
local macro_rules | `(tactic| walk_at "fl") => `(tactic| exact Nat.lt_of_succ_le (Nat.le_of_ble_eq_true rfl))
local macro_rules | `(tactic| walk_at "fact") => `(tactic| first | with_reducible assumption)
local macro_rules | `(tactic| walk_at "c") => `(tactic| ((try dsimp only); first | omega | decide | (refine Or.inl ⟨?_, ?_⟩ <;> omega) | (refine Or.inr ⟨?_, ?_⟩ <;> omega) | (refine ⟨?_, ?_⟩ <;> first | decide | omega)))
local macro_rules | `(tactic| walk_at "ss") => `(tactic| repeat walk_at "s")

/-! The head's facts, with looks of our own beside. -/
namespace Bk
open PySem L2
def obsX (fa : List He.Fa) (ex : List (PySem.W.Frag → Bool)) (fn : List He.DefD) (K : PySem.W.Frag) : He.AlD := ((He.obsD fa fn K).1 && ex.all fun f => f K, (He.obsD fa fn K).2)
def SaysX (fa : List He.Fa) (ex : List (PySem.W.Frag → Bool)) (fn : List He.DefD) (K : PySem.W.Frag) : Prop := obsX fa ex fn K = He.valD fn
theorem SaysX.two {fa : List He.Fa} {ex : List (PySem.W.Frag → Bool)} {fn : List He.DefD} {K : PySem.W.Frag} (c : SaysX fa ex fn K) : He.SaysD fa fn K ∧ (ex.all fun f => f K) = true := by
  have e0 : obsX fa ex fn K = He.valD fn := c
  have e1 := congrArg Prod.fst e0
  have e2 := congrArg Prod.snd e0
  replace e1 : ((He.obsD fa fn K).1 && ex.all fun f => f K) = true := e1
  rw [Bool.and_eq_true] at e1
  exact ⟨Prod.ext e1.1 e2, e1.2⟩
theorem SaysX.fact {fa : List He.Fa} {ex : List (PySem.W.Frag → Bool)} {fn : List He.DefD} {K : PySem.W.Frag} (c : SaysX fa ex fn K) (i : Nat) {f : He.Fa} (h : fa[i]? = some f) : f.ok K = true := c.two.1.fact i h
theorem SaysX.def_ {fa : List He.Fa} {ex : List (PySem.W.Frag → Bool)} {fn : List He.DefD} {K : PySem.W.Frag} (c : SaysX fa ex fn K) (i : Nat) {d : He.DefD} (h : fn[i]? = some d) : ∃ fd, FunD K d.name d.qual d.params d.body d.scope (d.dvs K) (d.kws K) (He.fAd K d.at_) fd := c.two.1.def_ i h
theorem SaysX.extra {fa : List He.Fa} {ex : List (PySem.W.Frag → Bool)} {fn : List He.DefD} {K : PySem.W.Frag} (c : SaysX fa ex fn K) (i : Nat) {f : PySem.W.Frag → Bool} (h : ex[i]? = some f) : f K = true := List.all_eq_true.mp c.two.2 f (List.mem_of_getElem? h)
def obsXG (n : Nat) (fa : List He.Fa) (ex : List (PySem.W.Frag → Bool)) (fn : List He.DefD) (g : Addr → Option Obj) : He.AlD := obsX fa ex fn (He.frG g (He.asD g n))
def hookX (n : Nat) (fa : List He.Fa) (ex : List (PySem.W.Frag → Bool)) (fn : List He.DefD) : PySem.W.Hook where
  α := He.AlD
  obs := fun s => obsXG n fa ex fn s.heap.get?
  val := fun _ => He.valD fn
  says := fun _ h => ∃ K : PySem.W.Frag, K.In h ∧ SaysX fa ex fn K
  of := fun _ _ e => ⟨_, He.frG_in, e⟩
  keeps := fun _ _ _ hK k => by
    obtain ⟨K, h1, h2⟩ := hK
    exact ⟨K, h1.keeps k, h2⟩
theorem obsXG_eq {n : Nat} {fa : List He.Fa} {ex : List (PySem.W.Frag → Bool)} {fn : List He.DefD} {g : Addr → Option Obj} {s : Shared} (h : ∀ a, g a = s.heap.get? a) : obsXG n fa ex fn g = (hookX n fa ex fn).obs s := by
  obtain rfl : g = s.heap.get? := funext h
  rfl
end Bk

/-! min and max of a tuple or list of ints. -/
namespace Bk
open PySem L2
section
variable {X : Cx} {K : PySem.W.Frag}
theorem fold_least (z : Int) (zs : List Int) : PySem.W.minOf z zs ∈ z :: zs ∧ ∀ y ∈ z :: zs, PySem.W.minOf z zs ≤ y := by
  have key : ∀ (zs : List Int) (z : Int), (zs.foldl (fun a y => if PySem.W.DatumOrd.lt y a = true then y else a) z) ∈ z :: zs ∧ ∀ y ∈ z :: zs, (zs.foldl (fun a y => if PySem.W.DatumOrd.lt y a = true then y else a) z) ≤ y := by
    intro zs
    induction zs with
    | nil => intro z; exact ⟨by simp, fun y hy => by simp at hy; rw [hy]; exact Int.le_refl _⟩
    | cons w r ih =>
      intro z
      show _ ∧ _
      rw [List.foldl_cons]
      have e : (if PySem.W.DatumOrd.lt w z = true then w else z) = if w < z then w else z := by
        show (if decide (w < z) = true then w else z) = _
        simp only [decide_eq_true_eq]
      rw [e]
      have hc : ∀ c : Int, c = (if w < z then w else z) → c ≤ w ∧ c ≤ z ∧ (c = w ∨ c = z) := fun c hc => by
        split at hc <;> omega
      generalize (if w < z then w else z) = c at hc ⊢
      obtain ⟨c1, c2, c3⟩ := hc c rfl
      obtain ⟨h1, h2⟩ := ih c
      have h3 := h2 _ List.mem_cons_self
      refine ⟨?_, fun y hy => ?_⟩
      · rcases List.mem_cons.mp h1 with h | h
        · rw [h]
          rcases c3 with c3 | c3 <;> simp [c3]
        · exact List.mem_cons_of_mem _ (List.mem_cons_of_mem _ h)
      · rcases List.mem_cons.mp hy with h | hy
        · rw [h]; exact Int.le_trans h3 c2
        · rcases List.mem_cons.mp hy with h | hy
          · rw [h]; exact Int.le_trans h3 c1
          · exact h2 y (List.mem_cons_of_mem _ hy)
  exact key zs z
theorem fold_most (z : Int) (zs : List Int) : PySem.W.maxOf z zs ∈ z :: zs ∧ ∀ y ∈ z :: zs, y ≤ PySem.W.maxOf z zs := by
  have key : ∀ (zs : List Int) (z : Int), (zs.foldl (fun a y => if PySem.W.DatumOrd.lt a y = true then y else a) z) ∈ z :: zs ∧ ∀ y ∈ z :: zs, y ≤ (zs.foldl (fun a y => if PySem.W.DatumOrd.lt a y = true then y else a) z) := by
    intro zs
    induction zs with
    | nil => intro z; exact ⟨by simp, fun y hy => by simp at hy; rw [hy]; exact Int.le_refl _⟩
    | cons w r ih =>
      intro z
      show _ ∧ _
      rw [List.foldl_cons]
      have e : (if PySem.W.DatumOrd.lt z w = true then w else z) = if z < w then w else z := by
        show (if decide (z < w) = true then w else z) = _
        simp only [decide_eq_true_eq]
      rw [e]
      have hc : ∀ c : Int, c = (if z < w then w else z) → w ≤ c ∧ z ≤ c ∧ (c = w ∨ c = z) := fun c hc => by
        split at hc <;> omega
      generalize (if z < w then w else z) = c at hc ⊢
      obtain ⟨c1, c2, c3⟩ := hc c rfl
      obtain ⟨h1, h2⟩ := ih c
      have h3 := h2 _ List.mem_cons_self
      refine ⟨?_, fun y hy => ?_⟩
      · rcases List.mem_cons.mp h1 with h | h
        · rw [h]
          rcases c3 with c3 | c3 <;> simp [c3]
        · exact List.mem_cons_of_mem _ (List.mem_cons_of_mem _ h)
      · rcases List.mem_cons.mp hy with h | hy
        · rw [h]; exact Int.le_trans c2 h3
        · rcases List.mem_cons.mp hy with h | hy
          · rw [h]; exact Int.le_trans c1 h3
          · exact h2 y (List.mem_cons_of_mem _ hy)
  exact key zs z
theorem holds_int_is {h : Heap} {v : Value} {n : Int} (q : PySem.W.Holds h v n) : ∃ t, v = .int n t := by
  obtain ⟨as, q⟩ := q
  have q' : PySem.Reads h v (.int n) as := q
  cases q'
  exact ⟨_, rfl⟩
def qMinT (K : PySem.W.Frag) : List V → Hp → VK → Prop := fun xs H Q => ∃ (a : Addr) (zs : List Int), xs = [V.ref a] ∧ SqT K H a (zs.map V.int) ∧ zs ≠ [] ∧ ∀ m, m ∈ zs → (∀ y ∈ zs, m ≤ y) → Q (.int m) H
def qMaxT (K : PySem.W.Frag) : List V → Hp → VK → Prop := fun xs H Q => ∃ (a : Addr) (zs : List Int), xs = [V.ref a] ∧ SqT K H a (zs.map V.int) ∧ zs ≠ [] ∧ ∀ m, m ∈ zs → (∀ y ∈ zs, y ≤ m) → Q (.int m) H
theorem z_minT (eK : X.K = K) (hc : X.calm = true) (hu : X.A.units + 1 < cLine) : CallR X (.builtin "min") (qMinT K) := by
  subst eK
  intro pins s σ H xs us Q I r h
  obtain ⟨a, zs, rfl, hs, hne, q⟩ := h
  obtain ⟨its, rv, hl, _⟩ := I.tuple hs
  match us, r with
  | [u], .cons ru .nil =>
    obtain rfl : u = Value.ref a := ru
    cases zs with
    | nil => exact absurd rfl hne
    | cons z zs =>
      refine PySem.W.min_tuple_datum (α := Int) (x := z) (xs := zs) (I.ok.hd hc) (show s.heap.IsTuple a its.toArray from hl) (PySem.W.HoldAll.of_ints rv.ints) hu fun i v h' tk _ hv hk => ?_
      obtain ⟨t, rfl⟩ := holds_int_is hv
      exact ⟨.int _, H, I.kept hk, ⟨t, rfl⟩, q _ (fold_least z zs).1 (fold_least z zs).2⟩
theorem z_maxT (eK : X.K = K) (hc : X.calm = true) (hu : X.A.units + 1 < cLine) : CallR X (.builtin "max") (qMaxT K) := by
  subst eK
  intro pins s σ H xs us Q I r h
  obtain ⟨a, zs, rfl, hs, hne, q⟩ := h
  obtain ⟨its, rv, hl, _⟩ := I.tuple hs
  match us, r with
  | [u], .cons ru .nil =>
    obtain rfl : u = Value.ref a := ru
    cases zs with
    | nil => exact absurd rfl hne
    | cons z zs =>
      refine PySem.W.max_tuple_datum (α := Int) (x := z) (xs := zs) (I.ok.hd hc) (show s.heap.IsTuple a its.toArray from hl) (PySem.W.HoldAll.of_ints rv.ints) hu fun i v h' tk _ hv hk => ?_
      obtain ⟨t, rfl⟩ := holds_int_is hv
      exact ⟨.int _, H, I.kept hk, ⟨t, rfl⟩, q _ (fold_most z zs).1 (fold_most z zs).2⟩
theorem b_minT {a : Addr} {zs : List Int} {H : Hp} {Q : VK} (hs : SqT K H a (zs.map V.int)) (hne : zs ≠ []) (h : ∀ m, m ∈ zs → (∀ y ∈ zs, m ≤ y) → Q (.int m) H) : qMinT K [.ref a] H Q := ⟨a, zs, rfl, hs, hne, h⟩
theorem b_maxT {a : Addr} {zs : List Int} {H : Hp} {Q : VK} (hs : SqT K H a (zs.map V.int)) (hne : zs ≠ []) (h : ∀ m, m ∈ zs → (∀ y ∈ zs, y ≤ m) → Q (.int m) H) : qMaxT K [.ref a] H Q := ⟨a, zs, rfl, hs, hne, h⟩
end
end Bk

/-! The text by places, and what the top leaves. -/
namespace Bk
open PySem L2
def top (i : Nat) : Stmt := PySem.Challenge.pw_bankrows_k08_rules_that_are_none.main.body.getD i (.Pass ⟨0, 0, 0, 0⟩)
abbrev s_L_taken : Stmt := top 13
theorem sc_L_taken : FnScope ["_law_row", "_law_many", "_law_cell"] ["_law_row", "_law_many"] (defScope s_L_taken) := ⟨rfl, rfl, rfl, by decide +kernel, rfl, by decide +kernel, by decide +kernel⟩
abbrev s_L_alike : Stmt := top 14
theorem sc_L_alike : FnScope ["_law_found", "_law_due", "_law_k"] ["_law_found", "_law_due"] (defScope s_L_alike) := ⟨rfl, rfl, rfl, by decide +kernel, rfl, by decide +kernel, by decide +kernel⟩
abbrev s_L_rules : Stmt := top 15
theorem sc_L_rules : FnScope ["_law_row", "_law_wide", "_law_k"] ["_law_row"] (defScope s_L_rules) := ⟨rfl, rfl, rfl, by decide +kernel, rfl, by decide +kernel, by decide +kernel⟩
abbrev s_Rules_init : Stmt := inClass (top 11) 0
theorem sc_Rules_init : FnScope ["self", "banks", "times", "good", "time"] ["self", "banks", "times"] (defScope s_Rules_init) := ⟨rfl, rfl, rfl, by decide +kernel, rfl, by decide +kernel, by decide +kernel⟩
abbrev s_Rules_banks : Stmt := inClass (top 11) 1
theorem sc_Rules_banks : FnScope ["self"] ["self"] (defScope s_Rules_banks) := ⟨rfl, rfl, rfl, by decide +kernel, rfl, by decide +kernel, by decide +kernel⟩
abbrev s_Rules_times : Stmt := inClass (top 11) 2
theorem sc_Rules_times : FnScope ["self"] ["self"] (defScope s_Rules_times) := ⟨rfl, rfl, rfl, by decide +kernel, rfl, by decide +kernel, by decide +kernel⟩
abbrev s_law : Stmt := top 16
theorem sc_law : FnScope ["_law_script", "_law_row", "_law_turn", "_law_banks", "_law_times", "_law_way", "_law_k", "_law_odd", "_law_good", "_law_told", "e", "_law_other"] ["_law_script"] (defScope s_law) := ⟨rfl, rfl, rfl, by decide +kernel, rfl, by decide +kernel, by decide +kernel⟩
structure Txt (K : PySem.W.Frag) (mg : Str → Option Value) : Prop where
  c_MOST_BANKS : ∃ t, mg "MOST_BANKS" = some (.int 4 t)
  c_MOST_TIME : ∃ t, mg "MOST_TIME" = some (.int 9 t)
  c_TIMES : ∃ t, mg "TIMES" = some (.int 6 t)
  cl_Rules : Cls K (He.ga K "Rules")
  f_Rules_init : Fd K "__init__" "Rules.__init__" s_Rules_init (He.ma K (He.ga K "Rules") "__init__")
  f_Rules_banks : Fd K "banks" "Rules.banks" s_Rules_banks (He.ma K (He.ga K "Rules") "banks")
  f_Rules_times : Fd K "times" "Rules.times" s_Rules_times (He.ma K (He.ga K "Rules") "times")
  f_L_alike : Fd K "_law_alike" "_law_alike" s_L_alike (He.ga K "_law_alike")
  f_L_rules : Fd K "_law_rules" "_law_rules" s_L_rules (He.ga K "_law_rules")
  f_L_taken : Fd K "_law_taken" "_law_taken" s_L_taken (He.ga K "_law_taken")
  f_law : Fd K "law" "law" s_law (He.ga K "law")
  g_BadAsk : mg "BadAsk" = some (.ref (He.ga K "BadAsk"))
  g_BadOrder : mg "BadOrder" = some (.ref (He.ga K "BadOrder"))
  g_BadPlan : mg "BadPlan" = some (.ref (He.ga K "BadPlan"))
  g_BadRules : mg "BadRules" = some (.ref (He.ga K "BadRules"))
  g_BadText : mg "BadText" = some (.ref (He.ga K "BadText"))
  g_BankError : mg "BankError" = some (.ref (He.ga K "BankError"))
  g_Rules : mg "Rules" = some (.ref (He.ga K "Rules"))
  g__law_alike : mg "_law_alike" = some (.ref (He.ga K "_law_alike"))
  g__law_rules : mg "_law_rules" = some (.ref (He.ga K "_law_rules"))
  g__law_taken : mg "_law_taken" = some (.ref (He.ga K "_law_taken"))
  g_law : mg "law" = some (.ref (He.ga K "law"))
  k_BadRules : PySem.W.keepIn K (.ref (He.ga K "BadRules")) = true
  k__law_alike : PySem.W.keepIn K (.ref (He.ga K "_law_alike")) = true
  k__law_rules : PySem.W.keepIn K (.ref (He.ga K "_law_rules")) = true
  k__law_taken : PySem.W.keepIn K (.ref (He.ga K "_law_taken")) = true
  ki_BadRules_BadAsk_f : PySem.W.kitOne K (.ref (He.ga K "BadRules")) (.ref (He.ga K "BadAsk")) = some false
  ki_BadRules_BadOrder_f : PySem.W.kitOne K (.ref (He.ga K "BadRules")) (.ref (He.ga K "BadOrder")) = some false
  ki_BadRules_BadPlan_f : PySem.W.kitOne K (.ref (He.ga K "BadRules")) (.ref (He.ga K "BadPlan")) = some false
  ki_BadRules_BadRules_t : PySem.W.kitOne K (.ref (He.ga K "BadRules")) (.ref (He.ga K "BadRules")) = some true
  ki_BadRules_BadText_f : PySem.W.kitOne K (.ref (He.ga K "BadRules")) (.ref (He.ga K "BadText")) = some false
  ki_BadRules_ValueError_t : PySem.W.kitOne K (.ref (He.ga K "BadRules")) (.type "ValueError") = some true
  me_Rules_banks : Meth K (He.ga K "Rules") "banks" (He.ma K (He.ga K "Rules") "banks")
  me_Rules_times : Meth K (He.ga K "Rules") "times" (He.ma K (He.ga K "Rules") "times")
  mk_Rules : Mk K (He.ga K "Rules") (He.ma K (He.ga K "Rules") "__init__")
  n_ValueError : mg "ValueError" = none
  n_bool : mg "bool" = none
  n_int : mg "int" = none
  n_isinstance : mg "isinstance" = none
  n_len : mg "len" = none
  n_list : mg "list" = none
  n_max : mg "max" = none
  n_min : mg "min" = none
  n_range : mg "range" = none
  n_str : mg "str" = none
  n_tuple : mg "tuple" = none
  na_Rules_gap : NoAttr K (He.ga K "Rules") "gap"
  na_Rules_hold : NoAttr K (He.ga K "Rules") "hold"
  na_Rules_keep : NoAttr K (He.ga K "Rules") "keep"
  na_Rules_many : NoAttr K (He.ga K "Rules") "many"
  na_Rules_open_time : NoAttr K (He.ga K "Rules") "open_time"
  na_Rules_rest : NoAttr K (He.ga K "Rules") "rest"
  na_Rules_told : NoAttr K (He.ga K "Rules") "told"
  na_Rules_wire : NoAttr K (He.ga K "Rules") "wire"
  xb_BadRules : PySem.W.subIn K (.ref (He.ga K "BadRules")) (.type "BaseException") = some true
  xc_BadRules : PySem.W.excIn K (He.ga K "BadRules") He.veBase "ValueError.__new__" = true
  xi_BadRules : XcC K (He.ga K "BadRules")
  xm_BadRules_BankError : PySem.W.exmOne K (.ref (He.ga K "BadRules")) (.ref (He.ga K "BankError")) = some true
  xt_BadRules : PySem.W.typeIn K (.ref (He.ga K "BadRules")) = some (.type "type")
end Bk


/-! Data of any depth: kept by what keeps all; its type; what alike takes. -/
namespace Bk
open PySem L2
section
variable {K : PySem.W.Frag} {H H' : Hp}
mutual
theorem same_dp (e : Same H H') : ∀ (d : PyData) (v : V), Dp K H v d → Dp K H' v d
  | .none, _, h => by cases h; exact .non
  | .bool _, _, h => by cases h; exact .bl _
  | .int _, _, h => by cases h; exact .int _
  | .str _, _, h => by cases h; exact .str _
  | .list ds, _, h => by cases h with | lst h1 h2 => exact .lst (same_l e h1) (same_dps e ds _ h2)
  | .tuple ds, _, h => by cases h with | tup h1 h2 => exact .tup (same_t e h1) (same_dps e ds _ h2)
  | .dict _, _, h => by cases h
theorem same_dps (e : Same H H') : ∀ (ds : List PyData) (vs : List V), DpAll K H vs ds → DpAll K H' vs ds
  | [], _, h => by cases h; exact .nil
  | d :: ds, _, h => by cases h with | cons h1 h2 => exact .cons (same_dp e d _ h1) (same_dps e ds _ h2)
end
theorem dps_len : ∀ {ds : List PyData} {vs : List V}, DpAll K H vs ds → vs.length = ds.length
  | [], _, h => by cases h; rfl
  | d :: ds, _, h => by cases h with | cons h1 h2 => exact congrArg (· + 1) (dps_len h2)
theorem dps_at : ∀ {ds : List PyData} {vs : List V} {i : Nat} {v : V}, DpAll K H vs ds → vs[i]? = some v → ∃ d, ds[i]? = some d ∧ Dp K H v d
  | [], _, i, v, h, e => by cases h; simp at e
  | d :: ds, _, 0, v, h, e => by cases h with | cons h1 h2 => cases Option.some.inj e; exact ⟨d, rfl, h1⟩
  | d :: ds, _, i + 1, v, h, e => by cases h with | cons h1 h2 => exact dps_at (i := i) h2 e
end
mutual
/-- no dict; lists not too long -/
def okD : PyData → Bool
  | .list xs => decide (xs.length ≤ 100000) && okAll xs
  | .tuple xs => decide (xs.length ≤ 100000) && okAll xs
  | .dict _ => false
  | _ => true
def okAll : List PyData → Bool
  | [] => true
  | x :: xs => okD x && okAll xs
end
theorem okAll_at : ∀ {ds : List PyData} {d : PyData}, okAll ds = true → d ∈ ds → okD d = true
  | x :: xs, d, h, m => by
    have h' : (okD x && okAll xs) = true := h
    rw [Bool.and_eq_true] at h'
    rcases List.mem_cons.mp m with e | m
    · rw [e]; exact h'.1
    · exact okAll_at h'.2 m
theorem depth_at : ∀ {ds : List PyData} {d : PyData}, d ∈ ds → d.depth ≤ PyData.depthAll ds
  | x :: xs, d, m => by
    show d.depth ≤ max x.depth (PyData.depthAll xs)
    rcases List.mem_cons.mp m with e | m
    · rw [e]; exact Nat.le_max_left _ _
    · exact Nat.le_trans (depth_at m) (Nat.le_max_right _ _)
/-- its type's name -/
def tyD : PyData → String
  | .none => "NoneType"
  | .bool _ => "bool"
  | .int _ => "int"
  | .str _ => "str"
  | .list _ => "list"
  | .tuple _ => "tuple"
  | .dict _ => "dict"
theorem ty_dp {K : PySem.W.Frag} {H : Hp} : ∀ {d : PyData} {v : V}, Dp K H v d → TyX K H v (.type (tyD d))
  | .none, _, h => by cases h; exact .base .non
  | .bool _, _, h => by cases h; exact .base (.bl _)
  | .int _, _, h => by cases h; exact .base (.int _)
  | .str _, _, h => by cases h; exact .base (.str _)
  | .list ds, _, h => by cases h with | lst h1 h2 => exact ty_l h1
  | .tuple ds, _, h => by cases h with | tup h1 h2 => exact ty_t h1
  | .dict _, _, h => by cases h
/-! ### lists of ints -/
theorem dps_ints {K : PySem.W.Frag} {H : Hp} : ∀ ns : List Int, DpAll K H (ns.map V.int) (ns.map PyData.int)
  | [] => .nil
  | n :: ns => .cons (.int n) (dps_ints ns)
theorem ok_ints : ∀ ns : List Int, okAll (ns.map PyData.int) = true
  | [] => rfl
  | n :: ns => by
    show (okD (.int n) && okAll (ns.map PyData.int)) = true
    rw [ok_ints ns]
    rfl
theorem lay_ints : ∀ ns : List Int, PyData.canLayAll0 (ns.map PyData.int) = true
  | [] => rfl
  | n :: ns => by
    show (PyData.canLay0 (.int n) && PyData.canLayAll0 (ns.map PyData.int)) = true
    rw [lay_ints ns]
    rfl
theorem depth_ints : ∀ ns : List Int, PyData.depthAll (ns.map PyData.int) ≤ 1
  | [] => by decide
  | n :: ns => by
    show max (PyData.depth (.int n)) (PyData.depthAll (ns.map PyData.int)) ≤ 1
    have := depth_ints ns
    have e : PyData.depth (.int n) = 0 := rfl
    omega
theorem shaped_of {d : PyData} (h : d.canLay0 = true) (h2 : d.depth ≤ 64) : SeqAt.shaped d = true := by
  unfold SeqAt.shaped
  rw [h, decide_eq_true h2]
  rfl
theorem shaped_ints (ns : List Int) : SeqAt.shaped (.list (ns.map PyData.int)) = true :=
  shaped_of (lay_ints ns) (by have := depth_ints ns; show PyData.depthAll (ns.map PyData.int) + 1 ≤ 64; omega)
theorem eqv_nil (ds : List PyData) : PyData.eqv (.list ds) (.list []) = ds.isEmpty := by
  show PyData.eqvAll ds [] = ds.isEmpty
  cases ds <;> rfl
theorem filter_take {α : Type} {p : α → Bool} {xs : List α} {i : Nat} {z : α} (h : xs[i]? = some z) : (xs.take (i + 1)).filter p = (xs.take i).filter p ++ if p z = true then [z] else [] := by
  have e : xs.take (i + 1) = xs.take i ++ [z] := by rw [List.take_add_one, h]; rfl
  rw [e, List.filter_append]
  congr 1
  by_cases hp : p z = true
  · rw [if_pos hp, List.filter_cons_of_pos hp]; rfl
  · rw [if_neg hp, List.filter_cons_of_neg hp]; rfl
theorem map_at {α β : Type} {f : α → β} {xs : List α} {i : Nat} {y : β} (h : (xs.map f)[i]? = some y) : ∃ x, xs[i]? = some x ∧ y = f x := by
  rw [List.getElem?_map] at h
  cases q : xs[i]? with
  | none => rw [q] at h; cases h
  | some x => rw [q] at h; exact ⟨x, rfl, (Option.some.inj h).symm⟩
/-! ### tuples of ints, cut and joined -/
theorem s_slT {K : PySem.W.Frag} {H : Hp} {Q : VK} {a : Addr} {ns : List Int} {lo hi : Option Int} (hp : SqT K H a (ns.map V.int)) (h : ∀ q (ms : List Int) H', Same H H' → SqT K H' q (ms.map V.int) → ms.length ≤ ns.length → Q (.ref q) H') : rSlA K (.ref a) lo hi H Q := by
  refine ⟨a, ns.map V.int, rfl, hp, fun _ => h a ns H (Same.refl _) hp (Nat.le_refl _), fun _ q nq => ?_⟩
  have e : cutV (ns.map V.int) lo hi = ((ns.drop (HT.sIx (ns.map V.int).length 0 lo)).take (HT.sIx (ns.map V.int).length (ns.map V.int).length hi - HT.sIx (ns.map V.int).length 0 lo)).map V.int := by
    unfold cutV
    rw [List.map_take, List.map_drop]
  refine h q _ _ (Same.new nq) (by rw [← e]; exact SqT.of upd_same) ?_
  rw [List.length_take, List.length_drop]
  omega
theorem s_catI {K : PySem.W.Frag} {H : Hp} {Q : VK} {a b : Addr} {ns ms : List Int} (ha : SqT K H a (ns.map V.int)) (hb : SqT K H b (ms.map V.int)) (hl : ns.length + ms.length ≤ 100000) (h : ∀ q H', Same H H' → SqT K H' q ((ns ++ ms).map V.int) → Q (.ref q) H') : rCatA K (.ref a) (.ref b) H Q := by
  refine r_catA ha hb (sz_of (by rw [List.length_map, List.length_map]; exact hl)) (fun e => ?_) (fun _ e => ?_) fun _ _ q nq => ?_
  · have e' : ns = [] := List.map_eq_nil_iff.mp e
    exact h b H (Same.refl _) (by rw [e', List.nil_append]; exact hb)
  · have e' : ms = [] := List.map_eq_nil_iff.mp e
    exact h a H (Same.refl _) (by rw [e', List.append_nil]; exact ha)
  · exact h q _ (Same.new nq) (by rw [List.map_append]; exact SqT.of upd_same)
end Bk

/-! A draw: any number below many, whatever the script. -/
namespace Bk
open PySem L2
section
variable {K : PySem.W.Frag} {H H' : Hp} {r : Addr}
/-- the script at s: locked, or of the written part -/
def Scr (K : PySem.W.Frag) (H : Hp) (s : Addr) (ns : List Int) : Prop := (∃ o, H s = some (.frz o (.lst (ns.map V.int)))) ∨ ∀ G : Hp, SqL K G s (ns.map V.int)
theorem Scr.l {s : Addr} {ns : List Int} (h : Scr K H s ns) : SqL K H s (ns.map V.int) := by
  rcases h with ⟨o, h⟩ | h
  · exact .inl (.inr ⟨o, h⟩)
  · exact h H
/-- the row of draws at r: [the script, how many are taken, a mixed number] -/
def RowOk (K : PySem.W.Frag) (H : Hp) (r : Addr) : Prop := ∃ (s : Addr) (ns : List Int) (i m : Int), H r = some (.lst [.ref s, .int i, .int m]) ∧ Scr K H s ns ∧ 0 ≤ i ∧ 0 ≤ m ∧ m < 2147483647
theorem row_same (h : RowOk K H r) (e : Same H H') : RowOk K H' r := by
  obtain ⟨s, ns, i, m, h1, h2, h3⟩ := h
  refine ⟨s, ns, i, m, e _ _ h1, ?_, h3⟩
  rcases h2 with ⟨o, h⟩ | h
  · exact .inl ⟨o, e _ _ h⟩
  · exact .inr h
theorem row_at (h : RowOk K H r) : ∃ xs, H r = some (.lst xs) := by
  obtain ⟨s, ns, i, m, h1, _⟩ := h
  exact ⟨_, h1⟩
theorem ne_of_none' {p : Addr} (h : ∃ xs, H r = some (.lst xs)) (n : H p = none) : p ≠ r := by
  obtain ⟨xs, h⟩ := h
  exact Ne.symm (ne_of_none h n)
/-- another thing changes -/
theorem row_mut {D : Addr} {u o : HO} (h : RowOk K H r) (hD : H D = some u) (hu : ∀ ob v, u ≠ .frz ob v) (ne : D ≠ r) : RowOk K (upd H D o) r := by
  obtain ⟨s, ns, i, m, h1, h2, h3⟩ := h
  refine ⟨s, ns, i, m, by rw [upd_ne (Ne.symm ne)]; exact h1, ?_, h3⟩
  rcases h2 with ⟨ob, h⟩ | h
  · exact .inl ⟨ob, by rw [upd_ne (ne_of h hD (Ne.symm (hu _ _)))]; exact h⟩
  · exact .inr h
/-- a tuple is read on -/
theorem kp_t {p : Addr} {xs : List V} (k : Kp r H H') (h : RowOk K H r) (ht : SqT K H p xs) : SqT K H' p xs := by
  obtain ⟨ys, hy⟩ := row_at h
  refine ht.imp (fun z => ?_) id
  rcases z with z | ⟨ob, z⟩
  · exact .inl (k _ _ (ne_of z hy (by intro q; cases q)) z)
  · exact .inr ⟨ob, k _ _ (ne_of z hy (by intro q; cases q)) z⟩
theorem Kp.mut {D : Addr} {o : HO} (e : Kp r H H') (h : H D = none) : Kp r H (upd H' D o) := fun a u n ha => by rw [upd_ne (ne_of_none ha h)]; exact e a u n ha
theorem Kp.same {H2 : Hp} (a : Kp r H H') (b : Same H' H2) : Kp r H H2 := fun c o n h => b c o (a c o n h)
end
theorem upd_self {H : Hp} {r : Addr} {o : HO} (h : H r = some o) : upd H r o = H := by
  funext b
  by_cases e : b = r
  · rw [e, upd_same, h]
  · rw [upd_ne e]
theorem at_some {α : Type} {xs : List α} {i : Int} (h0 : 0 ≤ i) (h1 : i < xs.length) : ∃ v, xs[i.toNat]? = some v ∧ atI xs i = some v := by
  have h : i.toNat < xs.length := by omega
  refine ⟨xs[i.toNat], List.getElem?_eq_getElem h, ?_⟩
  have q := atI_nat (List.getElem?_eq_getElem h)
  rw [show ((i.toNat : Nat) : Int) = i by omega] at q
  exact q
theorem at_ints {ns : List Int} {i : Int} (h0 : 0 ≤ i) (h1 : i < ns.length) : ∃ z, atI (ns.map V.int) i = some (V.int z) := by
  obtain ⟨v, hv, e⟩ := at_some (xs := ns.map V.int) (i := i) h0 (by rw [List.length_map]; exact h1)
  rw [List.getElem?_map] at hv
  cases q : ns[i.toNat]? with
  | none => rw [q] at hv; cases hv
  | some z => rw [q] at hv; cases hv; exact ⟨z, e⟩
def sp_L_taken (K : PySem.W.Frag) : Sp := fun vs H Q E => ∃ (r : Addr) (many : Int), vs = [.ref r, .int many] ∧ RowOk K H r ∧ 0 < many ∧ ∀ (v : Int) (H' : Hp), 0 ≤ v → v < many → Kp r H H' → RowOk K H' r → Q (.int v) H'
theorem c_taken {K : PySem.W.Frag} {H : Hp} {r : Addr} {many : Int} {Q : VK} {E : XK} (h : RowOk K H r) (hm : 0 < many) (q : ∀ (v : Int) (H' : Hp), 0 ≤ v → v < many → Kp r H H' → RowOk K H' r → Q (.int v) H') : kCall (sp_L_taken K) E Q [.ref r, .int many] H := ⟨r, many, rfl, h, hm, q⟩
theorem row_put {K : PySem.W.Frag} {H : Hp} {r s : Addr} {ns : List Int} {xs : List V} {i m : Int} (hr : H r = some (.lst xs)) (hs : Scr K H s ns) (hi : 0 ≤ i) (hm0 : 0 ≤ m) (hm : m < 2147483647) : RowOk K (upd H r (.lst [.ref s, .int i, .int m])) r := by
  refine ⟨s, ns, i, m, upd_same, ?_, hi, hm0, hm⟩
  rcases hs with ⟨ob, h⟩ | h
  · exact .inl ⟨ob, by rw [upd_ne (ne_of h hr (by intro z; cases z))]; exact h⟩
  · exact .inr h
theorem ok_L_taken {P : Program} {w : World} {K : PySem.W.Frag} {mg : Str → Option Value} {base : Heap} (T : Txt K mg) : Ok P w K mg base CX0 1 (He.ga K "_law_taken") ["_law_row", "_law_many"] (sp_L_taken K) := by
  obtain ⟨fd, F⟩ := T.f_L_taken
  refine ⟨fd, F.ok sc_L_taken (fun vs H Q E h => ?len) (fun cdv A outer s H vs Q E hr h => ⟨_, PSs.nox
      (pss_cons (ps_asg (pe_op op_add (pe_ix (z_ixL (K := K) rfl) (pv 0) pe_int (fun _ _ => rfl)) pe_int) (pg_sub (pv 0) pe_int set_list))
      (pss_cons (ps_if (pt_cmpR op_gt (pe_ix (z_ixL (K := K) rfl) (pv 0) pe_int (fun _ _ => rfl)) (pe_callB (z_len (K := K) rfl) (by rfl) T.n_len (by decide +kernel) (pa_cons (pe_ix (z_ixL (K := K) rfl) (pv 0) pe_int (fun _ _ => rfl)) pa_nil)) (nomark _)) (pss_cons (ps_asg (pe_op op_mod (pe_op op_add (pe_op op_mul (pe_ix (z_ixL (K := K) rfl) (pv 0) pe_int (fun _ _ => rfl)) pe_int) pe_int) pe_int) (pg_sub (pv 0) pe_int set_list))
      (pss_one (ps_ret (pe_op op_mod (pe_op op_fdiv (pe_ix (z_ixL (K := K) rfl) (pv 0) pe_int (fun _ _ => rfl)) pe_int) (pv 1))))) pss_nil)
      (pss_cons (ps_set (i := 2) sc_L_taken.nd rfl (by first | exact Or.inl rfl | exact Or.inr rfl) (pe_ix (z_ixL (K := K) rfl) (pe_ix (z_ixL (K := K) rfl) (pv 0) pe_int (fun _ _ => rfl)) (pe_op op_sub (pe_ix (z_ixL (K := K) rfl) (pv 0) pe_int (fun _ _ => rfl)) pe_int) (fun _ _ => rfl)))
      (pss_cons (ps_asg (pe_op op_mod (pe_op op_add (pe_op op_add (pe_op op_mul (pe_ix (z_ixL (K := K) rfl) (pv 0) pe_int (fun _ _ => rfl)) pe_int) (pv 2)) pe_int) pe_int) (pg_sub (pv 0) pe_int set_list))
      (pss_one (ps_ret (pe_op op_mod (pv 2) (pv 1)))))))), ?read⟩), F.bindsN fun _ _ _ _ _ _ us hl => match us, hl with | [_, _], _ => rfl⟩
  case len =>
    obtain ⟨_, _, rfl, _⟩ := h
    rfl
  case read =>
    obtain ⟨r, many, rfl, ⟨s, ns, i, m, hr0, hs, hi, hm0, hm⟩, hmany, hQ⟩ := h
    refine w_start (σ' := [some _, some _, none]) rfl ?_
    have hs1 : ∀ xs, SqL K (upd H r (.lst xs)) s (ns.map V.int) := fun xs => by
      rcases hs with ⟨ob, h⟩ | h
      · exact .inl (.inr ⟨ob, by rw [upd_ne (ne_of h hr0 (by intro z; cases z))]; exact h⟩)
      · exact h _
    walk_at "ss"
    refine' b_lenL (hs1 _) ?_
    walk_at "ss"
    refine k_if2 (fun c => ?_) (fun c => ?_)
    · walk_at "ss"
      rw [upd_upd]
      exact hQ _ _ (Int.emod_nonneg _ (by omega)) (Int.emod_lt_of_pos _ hmany) Kp.set (row_put (i := i + 1) (m := (m * 48271 + 11) % 2147483647) hr0 hs (by omega) (Int.emod_nonneg _ (by omega)) (Int.emod_lt_of_pos _ (by omega)))
    · have c2 : i < ((ns.map V.int).length : Int) := by
        have := of_decide_eq_false c
        omega
      obtain ⟨z, hz⟩ := at_ints (ns := ns) (i := i + 1 - 1) (by omega) (by rw [List.length_map] at c2; omega)
      walk_at "ss"
      refine' r_ixL (hs1 _) hz ?_
      walk_at "ss"
      rw [upd_upd]
      exact hQ _ _ (Int.emod_nonneg _ (by omega)) (Int.emod_lt_of_pos _ hmany) Kp.set (row_put (i := i + 1) (m := (m * 48271 + z + 11) % 2147483647) hr0 hs (by omega) (Int.emod_nonneg _ (by omega)) (Int.emod_lt_of_pos _ (by omega)))
/-- the law: True at every script -/
def sp_law (K : PySem.W.Frag) : Sp := fun vs H Q E => ∃ (s : Addr) (ns : List Int), vs = [.ref s] ∧ Scr K H s ns ∧ ∀ H', Q (.bl true) H'
theorem scr_of {K : PySem.W.Frag} {H : Hp} {a : Addr} {ns : List Int} (o : Only H) (h : SqL K H a (ns.map V.int)) : Scr K H a ns := by
  rcases h with (h | ⟨ob, h⟩) | h
  · rcases o a with z | ⟨ob, xs, z⟩
    · rw [z] at h; cases h
    · rw [z] at h; cases h
  · exact .inl ⟨ob, h⟩
  · exact .inr fun G => .inr h
end Bk

/-! alike of the same data is True. -/
namespace Bk
open PySem L2
def spN_L_alike (K : PySem.W.Frag) (n : Nat) : Sp := fun vs H Q E => ∃ (x y : V) (d : PyData), vs = [x, y] ∧ Dp K H x d ∧ Dp K H y d ∧ okD d = true ∧ d.depth < n ∧ ∀ H', Same H H' → Q (.bl true) H'
def sp_L_alike (K : PySem.W.Frag) : Sp := spN_L_alike K 8
theorem sp0_L_alike {K : PySem.W.Frag} {vs : List V} {H : Hp} {Q : VK} {E : XK} (h : spN_L_alike K 0 vs H Q E) : False := by
  obtain ⟨_, _, _, _, _, _, _, h, _⟩ := h
  omega
theorem okN_L_alike {P : Program} {w : World} {K : PySem.W.Frag} {mg : Str → Option Value} {base : Heap} (T : Txt K mg) (n : Nat) : Ok P w K mg base CX0 (n + 0) (He.ga K "_law_alike") ["_law_found", "_law_due"] (spN_L_alike K n) := by
  obtain ⟨fd, F⟩ := T.f_L_alike
  have bd : Binds K fd ["_law_found", "_law_due"] [] := F.bindsN fun _ _ _ _ _ _ us hl => match us, hl with | [_, _], _ => rfl
  refine ⟨fd, ?_, bd⟩
  induction n with
  | zero => exact ⟨fun vs H Q E h => (sp0_L_alike h).elim, fun _ _ _ _ _ _ _ _ _ _ _ _ _ h => (sp0_L_alike h).elim⟩
  | succ n ih =>
  have G_L_alike := ih
  have b_L_alike := bd
  have q : FnOk P w K mg base CX0 (n + 0 + 1) (He.ga K "_law_alike") fd ["_law_found", "_law_due"] (spN_L_alike K (n + 1)) := by
    refine F.ok sc_L_alike (fun vs H Q E h => ?len) (fun cdv A outer s H vs Q E hr h => ⟨_, PSs.nox
      (pss_cons (ps_if (PW.pt (pw_or (pt_val (pe_callB (z_isi (K := K) rfl) (by rfl) T.n_isinstance (by decide +kernel) (pa_cons (pv 1) (pa_cons (pe_bltn (v := .ty "tuple") (by rfl) T.n_tuple (by decide +kernel) rfl) pa_nil)))) (pw_or1 (pt_val (pe_callB (z_isi (K := K) rfl) (by rfl) T.n_isinstance (by decide +kernel) (pa_cons (pv 1) (pa_cons (pe_bltn (v := .ty "list") (by rfl) T.n_list (by decide +kernel) rfl) pa_nil))))))) (pss_cons (ps_if (PW.pt (pw_or (pt_cmpR op_ne (pe_callB (z_isi (K := K) rfl) (by rfl) T.n_isinstance (by decide +kernel) (pa_cons (pv 0) (pa_cons (pe_bltn (v := .ty "tuple") (by rfl) T.n_tuple (by decide +kernel) rfl) pa_nil))) (pe_callB (z_isi (K := K) rfl) (by rfl) T.n_isinstance (by decide +kernel) (pa_cons (pv 1) (pa_cons (pe_bltn (v := .ty "tuple") (by rfl) T.n_tuple (by decide +kernel) rfl) pa_nil))) (nomark _)) (pw_or1 (pt_not (pt_val (pe_callB (z_isiT (K := K) rfl) (by rfl) T.n_isinstance (by decide +kernel) (pa_cons (pv 0) (pa_cons (pe_tup (pa_cons (pe_bltn (v := .ty "tuple") (by rfl) T.n_tuple (by decide +kernel) rfl) (pa_cons (pe_bltn (v := .ty "list") (by rfl) T.n_list (by decide +kernel) rfl) pa_nil))) pa_nil)))))))) (pss_one (ps_ret pe_bl)) pss_nil)
      (pss_cons (ps_if (pt_cmpR op_ne (pe_callB (z_len (K := K) rfl) (by rfl) T.n_len (by decide +kernel) (pa_cons (pv 0) pa_nil)) (pe_callB (z_len (K := K) rfl) (by rfl) T.n_len (by decide +kernel) (pa_cons (pv 1) pa_nil)) (nomark _)) (pss_one (ps_ret pe_bl)) pss_nil)
      (pss_one (ps_ret (pe_cmpR (z_eqD (K := K) rfl hr.units) (pe_lc (own := [("_law_k", 2)]) (by rfl) sc_L_alike.nd (pi_range1 rfl T.n_range (pa_cons (pe_callB (z_len (K := K) rfl) (by rfl) T.n_len (by decide +kernel) (pa_cons (pv 1) pa_nil)) pa_nil)) (blkOk_by (own := [("_law_k", 2)]) (N := ["_law_found", "_law_due", "_law_k"]) (sc := defScope s_L_alike) (by decide +kernel)) (fun _ _ _ _ _ => (pg_name (i := 2) sc_L_alike.nd rfl (by first | exact Or.inl rfl | exact Or.inr rfl))) (fun _ _ _ _ _ => (pts_one (pt_not (pt_val (pe_call G_L_alike (hr.mono (by first | decide | omega)) rfl T.g__law_alike T.k__law_alike b_L_alike .nil pass0 (pa_cons (pe_ix (z_ixQ (K := K) rfl) (pv 0) (pv 2) (fun _ _ => rfl)) (pa_cons (pe_ix (z_ixQ (K := K) rfl) (pv 1) (pv 2) (fun _ _ => rfl)) pa_nil))))))) (fun _ _ _ _ _ => (pv 2))) (pe_lst pa_nil) (nomark _)))))) pss_nil)
      (pss_cons (ps_if (PW.pt (pw_or (pt_cmpR op_isNN (pv 1) pe_non (nomark _)) (pw_or1 (pt_cmpR op_isNN (pv 0) pe_non (nomark _))))) (pss_one (ps_ret (pe_and (pe_cmpR op_isNN (pv 1) pe_non (nomark _)) (pe_one (pe_cmpR op_isNN (pv 0) pe_non (nomark _)))))) pss_nil)
      (pss_cons (ps_if (PW.pt (pw_or (pt_val (pe_callB (z_isi (K := K) rfl) (by rfl) T.n_isinstance (by decide +kernel) (pa_cons (pv 1) (pa_cons (pe_bltn (v := .ty "bool") (by rfl) T.n_bool (by decide +kernel) rfl) pa_nil)))) (pw_or1 (pt_val (pe_callB (z_isi (K := K) rfl) (by rfl) T.n_isinstance (by decide +kernel) (pa_cons (pv 0) (pa_cons (pe_bltn (v := .ty "bool") (by rfl) T.n_bool (by decide +kernel) rfl) pa_nil))))))) (pss_one (ps_ret (pe_and (pe_callB (z_isi (K := K) rfl) (by rfl) T.n_isinstance (by decide +kernel) (pa_cons (pv 1) (pa_cons (pe_bltn (v := .ty "bool") (by rfl) T.n_bool (by decide +kernel) rfl) pa_nil))) (pe_and (pe_callB (z_isi (K := K) rfl) (by rfl) T.n_isinstance (by decide +kernel) (pa_cons (pv 0) (pa_cons (pe_bltn (v := .ty "bool") (by rfl) T.n_bool (by decide +kernel) rfl) pa_nil))) (pe_one (pe_cmpR op_eq (pv 0) (pv 1) (nomark _))))))) pss_nil)
      (pss_cons (ps_if (pt_val (pe_callB (z_isi (K := K) rfl) (by rfl) T.n_isinstance (by decide +kernel) (pa_cons (pv 1) (pa_cons (pe_bltn (v := .ty "str") (by rfl) T.n_str (by decide +kernel) rfl) pa_nil)))) (pss_one (ps_ret (pe_and (pe_callB (z_isi (K := K) rfl) (by rfl) T.n_isinstance (by decide +kernel) (pa_cons (pv 0) (pa_cons (pe_bltn (v := .ty "str") (by rfl) T.n_str (by decide +kernel) rfl) pa_nil))) (pe_one (pe_cmpR op_eq (pv 0) (pv 1) (nomark _)))))) pss_nil)
      (pss_one (ps_ret (pe_and (pe_callB (z_isi (K := K) rfl) (by rfl) T.n_isinstance (by decide +kernel) (pa_cons (pv 0) (pa_cons (pe_bltn (v := .ty "int") (by rfl) T.n_int (by decide +kernel) rfl) pa_nil))) (pe_one (pe_cmpR op_eq (pv 0) (pv 1) (nomark _)))))))))), ?read⟩)
    case len =>
      obtain ⟨_, _, _, rfl, _⟩ := h
      rfl
    case read =>
      obtain ⟨x, y, d, rfl, hx, hy, hok, hdep, hQ⟩ := h
      refine w_start (σ' := [some _, some _, none]) rfl ?_
      cases d with
      | none =>
        obtain rfl : x = .non := by cases hx; rfl
        obtain rfl : y = .non := by cases hy; rfl
        walk_at "ss"
        exact hQ _ (Same.refl _)
      | bool b =>
        obtain rfl : x = .bl b := by cases hx; rfl
        obtain rfl : y = .bl b := by cases hy; rfl
        walk_at "ss"
        rw [show (b == b) = true by simp]
        exact hQ _ (Same.refl _)
      | int i =>
        obtain rfl : x = .int i := by cases hx; rfl
        obtain rfl : y = .int i := by cases hy; rfl
        walk_at "ss"
        rw [show decide (i = i) = true by simp]
        exact hQ _ (Same.refl _)
      | str z =>
        obtain rfl : x = .str z := by cases hx; rfl
        obtain rfl : y = .str z := by cases hy; rfl
        walk_at "ss"
        rw [show decide (z = z) = true by simp]
        exact hQ _ (Same.refl _)
      | dict kvs => cases hx
      | list ds =>
        obtain ⟨a, xs, rfl, hxs, hxd⟩ : ∃ a xs, x = .ref a ∧ SqL K H a xs ∧ DpAll K H xs ds := by cases hx with | lst h1 h2 => exact ⟨_, _, rfl, h1, h2⟩
        obtain ⟨b, ys, rfl, hys, hyd⟩ : ∃ a xs, y = .ref a ∧ SqL K H a xs ∧ DpAll K H xs ds := by cases hy with | lst h1 h2 => exact ⟨_, _, rfl, h1, h2⟩
        have l1 := dps_len hxd
        have l2 := dps_len hyd
        have hl : ds.length ≤ 100000 ∧ okAll ds = true := by
          have h' : (decide (ds.length ≤ 100000) && okAll ds) = true := hok
          rw [Bool.and_eq_true] at h'
          exact ⟨of_decide_eq_true h'.1, h'.2⟩
        have hl1 := hl.1
        walk_at "ss"
        refine k_lcS (σ' := [some _, some _, none]) rfl walk_range (fun _ acc _ => acc = []) (fun _ _ => trivial) (fun _ _ => rfl) (fun D i x H1 H' acc nD hi S1 hD hA hY => ?_) (fun D H' acc nD S1 hD hA => ?_)
        · obtain ⟨rfl, rfl⟩ := hY
          obtain ⟨v, hv⟩ : ∃ v, xs[i]? = some v := ⟨xs[i]'(by omega), List.getElem?_eq_getElem (by omega)⟩
          obtain ⟨u, hu⟩ : ∃ u, ys[i]? = some u := ⟨ys[i]'(by omega), List.getElem?_eq_getElem (by omega)⟩
          have av : atI xs (0 + (i : Int)) = some v := by rw [Int.zero_add]; exact atI_nat hv
          have au : atI ys (0 + (i : Int)) = some u := by rw [Int.zero_add]; exact atI_nat hu
          obtain ⟨d1, e1, q1⟩ := dps_at hxd hv
          obtain ⟨d2, e2, q2⟩ := dps_at hyd hu
          rw [e1] at e2
          cases e2
          rename_i p np S
          have S2 : Same H H' := S.trans S1
          walk_at "ss"
          have m := List.mem_of_getElem? e1
          refine ⟨v, u, d1, rfl, same_dp S2 _ _ q1, same_dp S2 _ _ q2, okAll_at hl.2 m, ?_, fun H2 S3 => ?_⟩
          · have := depth_at m
            have e : (PyData.list ds).depth = PyData.depthAll ds + 1 := rfl
            omega
          · walk_at "ss"
            exact ⟨S1.trans S3, acc, S3 _ _ hD, hA⟩
        · subst hA
          rename_i p np S
          walk_at "ss"
          rename_i p2 np2 S2
          refine d_eq (d := .list []) (e := .list []) (.lst (SqL.of (S2 _ _ hD)) .nil) (.lst (SqL.of upd_same) .nil) rfl rfl ?_
          exact hQ _ ((S.trans S1).trans S2)
      | tuple ds =>
        obtain ⟨a, xs, rfl, hxs, hxd⟩ : ∃ a xs, x = .ref a ∧ SqT K H a xs ∧ DpAll K H xs ds := by cases hx with | tup h1 h2 => exact ⟨_, _, rfl, h1, h2⟩
        obtain ⟨b, ys, rfl, hys, hyd⟩ : ∃ a xs, y = .ref a ∧ SqT K H a xs ∧ DpAll K H xs ds := by cases hy with | tup h1 h2 => exact ⟨_, _, rfl, h1, h2⟩
        have l1 := dps_len hxd
        have l2 := dps_len hyd
        have hl : ds.length ≤ 100000 ∧ okAll ds = true := by
          have h' : (decide (ds.length ≤ 100000) && okAll ds) = true := hok
          rw [Bool.and_eq_true] at h'
          exact ⟨of_decide_eq_true h'.1, h'.2⟩
        have hl1 := hl.1
        walk_at "ss"
        refine k_lcS (σ' := [some _, some _, none]) rfl walk_range (fun _ acc _ => acc = []) (fun _ _ => trivial) (fun _ _ => rfl) (fun D i x H1 H' acc nD hi S1 hD hA hY => ?_) (fun D H' acc nD S1 hD hA => ?_)
        · obtain ⟨rfl, rfl⟩ := hY
          obtain ⟨v, hv⟩ : ∃ v, xs[i]? = some v := ⟨xs[i]'(by omega), List.getElem?_eq_getElem (by omega)⟩
          obtain ⟨u, hu⟩ : ∃ u, ys[i]? = some u := ⟨ys[i]'(by omega), List.getElem?_eq_getElem (by omega)⟩
          have av : atI xs (0 + (i : Int)) = some v := by rw [Int.zero_add]; exact atI_nat hv
          have au : atI ys (0 + (i : Int)) = some u := by rw [Int.zero_add]; exact atI_nat hu
          obtain ⟨d1, e1, q1⟩ := dps_at hxd hv
          obtain ⟨d2, e2, q2⟩ := dps_at hyd hu
          rw [e1] at e2
          cases e2
          rename_i p np S
          have S2 : Same H H' := S.trans S1
          walk_at "ss"
          have m := List.mem_of_getElem? e1
          refine ⟨v, u, d1, rfl, same_dp S2 _ _ q1, same_dp S2 _ _ q2, okAll_at hl.2 m, ?_, fun H2 S3 => ?_⟩
          · have := depth_at m
            have e : (PyData.tuple ds).depth = PyData.depthAll ds + 1 := rfl
            omega
          · walk_at "ss"
            exact ⟨S1.trans S3, acc, S3 _ _ hD, hA⟩
        · subst hA
          rename_i p np S
          walk_at "ss"
          rename_i p2 np2 S2
          refine d_eq (d := .list []) (e := .list []) (.lst (SqL.of (S2 _ _ hD)) .nil) (.lst (SqL.of upd_same) .nil) rfl rfl ?_
          exact hQ _ ((S.trans S1).trans S2)
  exact q
theorem ok_L_alike {P : Program} {w : World} {K : PySem.W.Frag} {mg : Str → Option Value} {base : Heap} (T : Txt K mg) : Ok P w K mg base CX0 8 (He.ga K "_law_alike") ["_law_found", "_law_due"] (sp_L_alike K) := okN_L_alike T 8
end Bk

/-! Drawn rules: one to four banks, six times of one to nine. -/
namespace Bk
open PySem L2
/-- six times of one to nine -/
def TimesOk (ts : List Int) : Prop := ts.length = 6 ∧ ∀ z ∈ ts, 1 ≤ z ∧ z ≤ 9
def sp_L_rules (K : PySem.W.Frag) : Sp := fun vs H Q E => ∃ (r : Addr), vs = [.ref r] ∧ RowOk K H r ∧
  ∀ (b : Int) (ts : List Int) (t p : Addr) (H' : Hp), 1 ≤ b → b ≤ 4 → TimesOk ts → Kp r H H' → RowOk K H' r → H' t = some (.tup [.int b, .ref p]) → H' p = some (.tup (ts.map V.int)) → Q (.ref t) H'
theorem ok_L_rules {P : Program} {w : World} {K : PySem.W.Frag} {mg : Str → Option Value} {base : Heap} (T : Txt K mg) : Ok P w K mg base CX0 2 (He.ga K "_law_rules") ["_law_row"] (sp_L_rules K) := by
  obtain ⟨fd, F⟩ := T.f_L_rules
  obtain ⟨fd_L_taken, G_L_taken, b_L_taken⟩ := ok_L_taken (P := P) (w := w) (base := base) T
  refine ⟨fd, F.ok sc_L_rules (fun vs H Q E h => ?len) (fun cdv A outer s H vs Q E hr h => ⟨_, PSs.nox
      (pss_cons (ps_set (i := 1) sc_L_rules.nd rfl (by first | exact Or.inl rfl | exact Or.inr rfl) (pe_ix (z_ixL (K := K) rfl) (pe_lst (pa_cons pe_int (pa_cons pe_int (pa_cons pe_int pa_nil)))) (pe_call G_L_taken (hr.mono (by first | decide | omega)) rfl T.g__law_taken T.k__law_taken b_L_taken .nil pass0 (pa_cons (pv 0) (pa_cons pe_int pa_nil))) (fun _ _ => rfl)))
      (pss_one (ps_ret (pe_tup (pa_cons (pe_op op_add pe_int (pe_call G_L_taken (hr.mono (by first | decide | omega)) rfl T.g__law_taken T.k__law_taken b_L_taken .nil pass0 (pa_cons (pv 0) (pa_cons pe_int pa_nil)))) (pa_cons (pe_callTy (z_tupOf (K := K) rfl) (by rfl) T.n_tuple (by decide +kernel) (pa_cons (pe_lc (own := [("_law_k", 2)]) (tt := tYes) (by rfl) sc_L_rules.nd (pi_range1 rfl T.n_range (pa_cons pe_int pa_nil)) (blkOk_by (own := [("_law_k", 2)]) (N := ["_law_row", "_law_wide", "_law_k"]) (sc := defScope s_L_rules) (by decide +kernel)) (fun _ _ _ _ _ => (pg_name (i := 2) sc_L_rules.nd rfl (by first | exact Or.inl rfl | exact Or.inr rfl))) (fun _ _ _ _ _ => pts_nil) (fun _ _ _ _ _ => (pe_op op_add pe_int (pe_call G_L_taken (hr.mono (by first | decide | omega)) rfl T.g__law_taken T.k__law_taken b_L_taken .nil pass0 (pa_cons (pv 0) (pa_cons (pv 1) pa_nil)))))) pa_nil)) pa_nil)))))), ?read⟩), F.bindsN fun _ _ _ _ _ _ us hl => match us, hl with | [_], _ => rfl⟩
  case len =>
    obtain ⟨_, rfl, _⟩ := h
    rfl
  case read =>
    obtain ⟨r, rfl, hrow, hQ⟩ := h
    refine w_start (σ' := [some _, none, none]) rfl ?_
    walk_at "ss"
    rename_i p0 np0 S0
    refine c_taken (row_same hrow S0) (by omega) (fun v H1 hv0 hv3 k1 r1 => ?_)
    have hp0 : H1 p0 = some (.lst [.int 2, .int 4, .int 9]) := k1 _ _ (ne_of_none' (row_at hrow) np0) upd_same
    obtain ⟨w, hw, hw1, hw2⟩ : ∃ w, atI [V.int 2, V.int 4, V.int 9] v = some (.int w) ∧ 1 ≤ w ∧ w ≤ 9 := by
      rcases (by omega : v = 0 ∨ v = 1 ∨ v = 2) with rfl | rfl | rfl
      · exact ⟨2, rfl, by omega, by omega⟩
      · exact ⟨4, rfl, by omega, by omega⟩
      · exact ⟨9, rfl, by omega, by omega⟩
    walk_at "ss"
    refine c_taken r1 (by omega) (fun b H2 hb0 hb4 k2 r2 => ?_)
    walk_at "ss"
    have k02 : Kp r H H2 := ((Kp.of S0).trans k1).trans k2
    refine k_lcR (σ' := [some _, some _, none]) rfl walk_range (fun H3 => Kp r H2 H3 ∧ RowOk K H3 r) (fun i acc _ => ∃ ts : List Int, acc = ts.map V.int ∧ ts.length = i ∧ ∀ z ∈ ts, 1 ≤ z ∧ z ≤ 9) (fun _ _ => trivial)
      (fun D nD => ⟨⟨Kp.of (Same.new nD), row_same r2 (Same.new nD)⟩, [], rfl, rfl, fun z hz => absurd hz (by simp)⟩) (fun D i x H3 H4 acc nD hi Rl hD hA hY => ?_) (fun D H3 acc nD Rl hD hA => ?_)
    · obtain ⟨rfl, rfl⟩ := hY
      obtain ⟨k3, r3⟩ := Rl
      obtain ⟨ts, rfl, hl, hts⟩ := hA
      walk_at "ss"
      refine c_taken r3 (by omega) (fun z H5 hz0 hz9 k5 r5 => ?_)
      have ne : D ≠ r := ne_of_none' (row_at r2) nD
      have hD5 := k5 _ _ ne hD
      have hlt : (ts.map V.int).length < sizeLine := by
        rw [List.length_map, hl]
        exact sz_lt (by omega)
      walk_at "ss"
      refine ⟨⟨(k3.trans k5).mut nD, row_mut r5 hD5 (fun _ _ z => by cases z) ne⟩, _, upd_same, ts ++ [1 + z], by simp, by simp [hl], fun y hy => ?_⟩
      rcases List.mem_append.mp hy with h | h
      · exact hts y h
      · simp at h
        omega
    · obtain ⟨k3, r3⟩ := Rl
      obtain ⟨ts, rfl, hl, hts⟩ := hA
      walk_at "ss"
      rename_i q nq Sq t nt St
      exact hQ (1 + b) ts t q _ (by omega) (by omega) ⟨hl, hts⟩ (((k02.trans k3).same Sq).same St) (row_same (row_same r3 Sq) St) upd_same (St _ _ upd_same)
theorem c_rules {K : PySem.W.Frag} {H : Hp} {r : Addr} {Q : VK} {E : XK} (h : RowOk K H r) (q : ∀ (b : Int) (ts : List Int) (t p : Addr) (H' : Hp), 1 ≤ b → b ≤ 4 → TimesOk ts → Kp r H H' → RowOk K H' r → H' t = some (.tup [.int b, .ref p]) → H' p = some (.tup (ts.map V.int)) → Q (.ref t) H') : kCall (sp_L_rules K) E Q [.ref r] H := ⟨r, rfl, h, q⟩
end Bk

/-! Rules: made of what the paper tells, else refused. -/
namespace Bk
open PySem L2
/-- a Rules's fields -/
def F_Rules (b : Int) (t : Addr) (z1 z2 z3 z4 z5 z6 : Int) : List (Str × V) := [("many", .int b), ("told", .ref t), ("open_time", .int z1), ("hold", .int z2), ("keep", .int z3), ("rest", .int z4), ("wire", .int z5), ("gap", .int z6)]
/-- a Rules of b banks stands at p; its times at t -/
def RulesAt (K : PySem.W.Frag) (H : Hp) (p : Addr) (b : Int) (ts : List Int) : Prop := ∃ (t dx : Addr) (z1 z2 z3 z4 z5 z6 : Int), ts = [z1, z2, z3, z4, z5, z6] ∧ H p = some (.ins (He.ga K "Rules") dx (F_Rules b t z1 z2 z3 z4 z5 z6)) ∧ SqT K H t (ts.map V.int)
def goodR (b : Int) (ts : List Int) : Prop := 1 ≤ b ∧ b ≤ 4 ∧ TimesOk ts
def sp_Rules_init (K : PySem.W.Frag) : Sp := fun vs H Q E => ∃ (p dx t : Addr) (b : Int) (ts : List Int), vs = [.ref p, .int b, .ref t] ∧ H p = some (.ins (He.ga K "Rules") dx []) ∧ SqT K H t (ts.map V.int) ∧ ts.length ≤ 1000 ∧
  (goodR b ts → ∀ H', RulesAt K H' p b ts → (∀ a o, a ≠ p → H a = some o → H' a = some o) → Q .non H') ∧ (¬ goodR b ts → ∀ H', Same H H' → E (.ref (He.ga K "BadRules")) none H')
theorem ok_Rules_init {P : Program} {w : World} {K : PySem.W.Frag} {mg : Str → Option Value} {base : Heap} (T : Txt K mg) : Ok P w K mg base (L2.CX P w) 1 (He.ma K (He.ga K "Rules") "__init__") ["self", "banks", "times"] (sp_Rules_init K) := by
  obtain ⟨fd, F⟩ := T.f_Rules_init
  obtain ⟨t_MOST_BANKS, c_MOST_BANKS⟩ := T.c_MOST_BANKS
  obtain ⟨t_MOST_TIME, c_MOST_TIME⟩ := T.c_MOST_TIME
  obtain ⟨t_TIMES, c_TIMES⟩ := T.c_TIMES
  have q_cl_Rules := T.cl_Rules
  have q_na_Rules_gap := T.na_Rules_gap
  have q_na_Rules_hold := T.na_Rules_hold
  have q_na_Rules_keep := T.na_Rules_keep
  have q_na_Rules_many := T.na_Rules_many
  have q_na_Rules_open_time := T.na_Rules_open_time
  have q_na_Rules_rest := T.na_Rules_rest
  have q_na_Rules_told := T.na_Rules_told
  have q_na_Rules_wire := T.na_Rules_wire
  refine ⟨fd, F.ok sc_Rules_init (fun vs H Q E h => ?len) (fun cdv A outer s H vs Q E hr h => ⟨_, 
      (pss_cons (ps_set (i := 3) sc_Rules_init.nd rfl (by first | exact Or.inl rfl | exact Or.inr rfl) (pe_and (pe_chain op_le op_le pe_int (pv 1) (pe_glob (v := .int 4) rfl c_MOST_BANKS ⟨_, rfl⟩)) (pe_one (pe_cmpR op_eq (pe_callB (z_len (K := K) rfl) (by rfl) T.n_len (by decide +kernel) (pa_cons (pv 2) pa_nil)) (pe_glob (v := .int 6) rfl c_TIMES ⟨_, rfl⟩) (nomark _)))))
      (pss_cons (ps_if (PW.pt (pw_or (pt_not (pt_val (pv 3))) (pw_or1 (pt_cmpR (z_neD (K := K) rfl hr.units) (pe_lc (own := [("time", 4)]) (by rfl) sc_Rules_init.nd (z_iT (K := K) rfl (pv 2)) (blkOk_by (own := [("time", 4)]) (N := ["self", "banks", "times", "good", "time"]) (sc := defScope s_Rules_init) (by decide +kernel)) (fun _ _ _ _ _ => (pg_name (i := 4) sc_Rules_init.nd rfl (by first | exact Or.inl rfl | exact Or.inr rfl))) (fun _ _ _ _ _ => (pts_one (pt_not (pt_chain op_le op_le pe_int (pv 4) (pe_glob (v := .int 9) rfl c_MOST_TIME ⟨_, rfl⟩))))) (fun _ _ _ _ _ => (pv 4))) (pe_lst pa_nil) (nomark _))))) (pss_one (z_raise rfl (takes_of rfl rfl rfl rfl) T.xc_BadRules T.g_BadRules T.k_BadRules T.xb_BadRules T.xt_BadRules rfl)) pss_nil)
      (pss_cons (z_sfld (K := K) rfl (pv 0) (pv 1) rfl)
      (pss_cons (z_sfld (K := K) rfl (pv 0) (pe_callTy (z_tupOf (K := K) rfl) (by rfl) T.n_tuple (by decide +kernel) (pa_cons (pv 2) pa_nil)) rfl)
      (pss_one (ps_asg (z_fld (K := K) rfl (pv 0) rfl) (z_gtup (K := K) (n := 6) rfl (by rfl) (pgs_cons (z_gfld (K := K) rfl (pv 0)) (pgs_cons (z_gfld (K := K) rfl (pv 0)) (pgs_cons (z_gfld (K := K) rfl (pv 0)) (pgs_cons (z_gfld (K := K) rfl (pv 0)) (pgs_cons (z_gfld (K := K) rfl (pv 0)) (pgs_cons (z_gfld (K := K) rfl (pv 0)) pgs_nil))))))))))))), ?read⟩), F.bindsN fun _ _ _ _ _ _ us hl => match us, hl with | [_, _, _], _ => rfl⟩
  case len =>
    obtain ⟨_, _, _, _, _, rfl, _⟩ := h
    rfl
  case read =>
    obtain ⟨p, dx, t, b, ts, rfl, hp, ht, hl, hgood, hbad⟩ := h
    refine w_start (σ' := [some _, some _, some _, none, none]) rfl ?_
    by_cases h1 : 1 ≤ b
    · by_cases h2 : b ≤ 4
      · by_cases h3 : ts.length = 6
        · have h3' : ((ts.map V.int).length : Int) = 6 := by rw [List.length_map]; omega
          walk_at "ss"
          refine k_lcS (σ' := [some _, some _, some _, some _, none]) rfl walk_tup (fun i acc _ => acc = ((ts.take i).filter fun z => !(decide (1 ≤ z) && decide (z ≤ 9))).map V.int) (fun H1 S => same_t S ht) (fun _ _ => rfl)
            (fun D i x H1 H' acc nD hi S1 hD hA hY => ?_) (fun D H' acc nD S1 hD hA => ?_)
          · obtain ⟨rfl, hx⟩ := hY
            obtain ⟨z, hz, rfl⟩ := map_at hx
            subst hA
            have hlen : ((ts.take i).filter fun z => !(decide (1 ≤ z) && decide (z ≤ 9))).length ≤ 6 := by
              have q1 := List.length_filter_le (fun z => !(decide (1 ≤ z) && decide (z ≤ 9))) (ts.take i)
              have q2 := List.length_take_le i ts
              have q3 : (ts.take i).length ≤ ts.length := by rw [List.length_take]; omega
              omega
            have e := filter_take (p := fun z => !(decide (1 ≤ z) && decide (z ≤ 9))) hz
            by_cases c1 : 1 ≤ z
            · by_cases c2 : z ≤ 9
              · walk_at "ss"
                refine ⟨S1, _, hD, ?_⟩
                rw [e, decide_eq_true c1, decide_eq_true c2]
                simp
              · walk_at "ss"
                refine ⟨Same.mut S1 nD, _, upd_same, ?_⟩
                rw [e, decide_eq_true c1, decide_eq_false c2]
                simp
            · walk_at "ss"
              refine ⟨Same.mut S1 nD, _, upd_same, ?_⟩
              rw [e, decide_eq_false c1]
              simp
          · subst hA
            walk_at "ss"
            rename_i p2 np2 S2
            rw [List.length_map, List.take_length] at hD
            refine d_ne (d := .list (((ts.filter fun z => !(decide (1 ≤ z) && decide (z ≤ 9)))).map PyData.int)) (e := .list []) (.lst (SqL.of (S2 _ _ hD)) (dps_ints _)) (.lst (SqL.of upd_same) .nil) (shaped_ints _) rfl ?_
            rw [eqv_nil]
            by_cases hall : ∀ z ∈ ts, 1 ≤ z ∧ z ≤ 9
            · have ef : (ts.filter fun z => !(decide (1 ≤ z) && decide (z ≤ 9))) = [] := by
                rw [List.filter_eq_nil_iff]
                intro z hz
                have := hall z hz
                simp [this.1, this.2]
              rw [ef]
              obtain ⟨z1, z2, z3, z4, z5, z6, rfl⟩ : ∃ z1 z2 z3 z4 z5 z6, ts = [z1, z2, z3, z4, z5, z6] := match ts, h3 with
                | [z1, z2, z3, z4, z5, z6], _ => ⟨z1, z2, z3, z4, z5, z6, rfl⟩
              have S3 := S1.trans S2
              have hp2 := S3 _ _ hp
              have ht2 : SqT K _ t [.int z1, .int z2, .int z3, .int z4, .int z5, .int z6] := same_t S3 ht
              walk_at "ss"
              have tt : ∀ G : Hp, SqT K G t [.int z1, .int z2, .int z3, .int z4, .int z5, .int z6] → SqT K G t (([z1, z2, z3, z4, z5, z6] : List Int).map V.int) := fun _ h => h
              refine hgood ⟨h1, h2, rfl, hall⟩ _ ⟨t, dx, z1, z2, z3, z4, z5, z6, rfl, upd_same, tt _ (by walk_at "seqT")⟩ fun a o ne ha => ?_
              repeat rw [upd_ne ne]
              exact S3 _ _ ha
            · have ef : (ts.filter fun z => !(decide (1 ≤ z) && decide (z ≤ 9))).isEmpty = false := by
                rw [List.isEmpty_eq_false_iff]
                intro q
                rw [List.filter_eq_nil_iff] at q
                refine hall fun z hz => ?_
                have := q z hz
                simp at this
                exact this
              rw [List.isEmpty_map, ef]
              walk_at "ss"
              exact hbad (fun g => hall g.2.2.2) _ (S1.trans S2)
        · have h3' : ¬ ((ts.map V.int).length : Int) = 6 := by rw [List.length_map]; omega
          walk_at "ss"
          exact hbad (fun g => h3 g.2.2.1) _ (Same.refl _)
      · walk_at "ss"
        exact hbad (fun g => h2 g.2.1) _ (Same.refl _)
    · walk_at "ss"
      exact hbad (fun g => h1 g.1) _ (Same.refl _)
end Bk

/-! Rules: what it tells. -/
namespace Bk
open PySem L2
def sp_Rules_banks (K : PySem.W.Frag) : Sp := fun vs H Q E => ∃ (p : Addr) (b : Int) (ts : List Int), vs = [.ref p] ∧ RulesAt K H p b ts ∧ Q (.int b) H
theorem ok_Rules_banks {P : Program} {w : World} {K : PySem.W.Frag} {mg : Str → Option Value} {base : Heap} (T : Txt K mg) : Ok P w K mg base CX0 1 (He.ma K (He.ga K "Rules") "banks") ["self"] (sp_Rules_banks K) := by
  obtain ⟨fd, F⟩ := T.f_Rules_banks
  have q_cl_Rules := T.cl_Rules
  have q_na_Rules_many := T.na_Rules_many
  refine ⟨fd, F.ok sc_Rules_banks (fun vs H Q E h => ?len) (fun cdv A outer s H vs Q E hr h => ⟨_, PSs.nox
      (pss_one (ps_ret (z_fld (K := K) rfl (pv 0) rfl))), ?read⟩), F.bindsN fun _ _ _ _ _ _ us hl => match us, hl with | [_], _ => rfl⟩
  case len =>
    obtain ⟨_, _, _, rfl, _⟩ := h
    rfl
  case read =>
    obtain ⟨p, b, ts, rfl, ⟨t, dx, z1, z2, z3, z4, z5, z6, rfl, hp, ht⟩, hQ⟩ := h
    refine w_start (σ' := [some _]) rfl ?_
    walk_at "ss"
    exact hQ
def sp_Rules_times (K : PySem.W.Frag) : Sp := fun vs H Q E => ∃ (p : Addr) (b : Int) (ts : List Int), vs = [.ref p] ∧ RulesAt K H p b ts ∧ ∀ t, SqT K H t (ts.map V.int) → Q (.ref t) H
theorem ok_Rules_times {P : Program} {w : World} {K : PySem.W.Frag} {mg : Str → Option Value} {base : Heap} (T : Txt K mg) : Ok P w K mg base CX0 1 (He.ma K (He.ga K "Rules") "times") ["self"] (sp_Rules_times K) := by
  obtain ⟨fd, F⟩ := T.f_Rules_times
  have q_cl_Rules := T.cl_Rules
  have q_na_Rules_told := T.na_Rules_told
  refine ⟨fd, F.ok sc_Rules_times (fun vs H Q E h => ?len) (fun cdv A outer s H vs Q E hr h => ⟨_, PSs.nox
      (pss_one (ps_ret (z_fld (K := K) rfl (pv 0) rfl))), ?read⟩), F.bindsN fun _ _ _ _ _ _ us hl => match us, hl with | [_], _ => rfl⟩
  case len =>
    obtain ⟨_, _, _, rfl, _⟩ := h
    rfl
  case read =>
    obtain ⟨p, b, ts, rfl, ⟨t, dx, z1, z2, z3, z4, z5, z6, rfl, hp, ht⟩, hQ⟩ := h
    refine w_start (σ' := [some _]) rfl ?_
    walk_at "ss"
    exact hQ t ht
end Bk

/-! The law. -/
namespace Bk
open PySem L2
theorem ok_law {P : Program} {w : World} {K : PySem.W.Frag} {mg : Str → Option Value} {base : Heap} {fd : FuncData} (T : Txt K mg) (F : FunD K "law" "law" (defArgs s_law) (defBody s_law) (defScope s_law) [] [] (He.ga K "law") fd) : FnOk P w K mg base CX0 12 (He.ga K "law") fd ["_law_script"] (sp_law K) := by
  obtain ⟨fd_L_rules, G_L_rules, b_L_rules⟩ := ok_L_rules (P := P) (w := w) (base := base) T
  obtain ⟨fd_L_taken, G_L_taken, b_L_taken⟩ := ok_L_taken (P := P) (w := w) (base := base) T
  obtain ⟨fd_Rules_init, G_Rules_init, b_Rules_init⟩ := ok_Rules_init (P := P) (w := w) (base := base) T
  obtain ⟨fd_L_alike, G_L_alike, b_L_alike⟩ := ok_L_alike (P := P) (w := w) (base := base) T
  obtain ⟨fd_Rules_banks, G_Rules_banks, b_Rules_banks⟩ := ok_Rules_banks (P := P) (w := w) (base := base) T
  obtain ⟨fd_Rules_times, G_Rules_times, b_Rules_times⟩ := ok_Rules_times (P := P) (w := w) (base := base) T
  have q_cl_Rules := T.cl_Rules
  have q_me_Rules_banks := T.me_Rules_banks
  have q_me_Rules_times := T.me_Rules_times
  refine F.ok sc_law (fun vs H Q E h => ?len) (fun cdv A outer s H vs Q E hr h => ⟨_, PSs.nox
      (pss_cons (ps_set (i := 1) sc_law.nd rfl (by first | exact Or.inl rfl | exact Or.inr rfl) (pe_lst (pa_cons (pv 0) (pa_cons pe_int (pa_cons pe_int pa_nil)))))
      (pss_cons (ps_for PassesOwn.never rfl (pi_range1 rfl T.n_range (pa_cons pe_int pa_nil)) (pg_name (i := 2) sc_law.nd rfl (by first | exact Or.inl rfl | exact Or.inr rfl)) (pss_cons (ps_asg (pe_call G_L_rules (hr.mono (by first | decide | omega)) rfl T.g__law_rules T.k__law_rules b_L_rules .nil pass0 (pa_cons (pv 1) pa_nil)) (z_gtup (K := K) (n := 2) rfl (by rfl) (pgs_cons (pg_name (i := 3) sc_law.nd rfl (by first | exact Or.inl rfl | exact Or.inr rfl)) (pgs_cons (pg_name (i := 4) sc_law.nd rfl (by first | exact Or.inl rfl | exact Or.inr rfl)) pgs_nil))))
      (pss_cons (ps_set (i := 5) sc_law.nd rfl (by first | exact Or.inl rfl | exact Or.inr rfl) (pe_call G_L_taken (hr.mono (by first | decide | omega)) rfl T.g__law_taken T.k__law_taken b_L_taken .nil pass0 (pa_cons (pv 1) (pa_cons pe_int pa_nil))))
      (pss_cons (ps_set (i := 6) sc_law.nd rfl (by first | exact Or.inl rfl | exact Or.inr rfl) (pe_call G_L_taken (hr.mono (by first | decide | omega)) rfl T.g__law_taken T.k__law_taken b_L_taken .nil pass0 (pa_cons (pv 1) (pa_cons pe_int pa_nil))))
      (pss_cons (ps_if (pt_cmpR op_eq (pv 5) pe_int (nomark _)) (pss_one (ps_set (i := 3) sc_law.nd rfl (by first | exact Or.inl rfl | exact Or.inr rfl) (pe_ix (z_ixL (K := K) rfl) (pe_lst (pa_cons pe_int (pa_cons pe_int (pa_cons (pe_op op_sub pe_int pe_int) (pa_cons (pe_op op_add pe_int (pe_call G_L_taken (hr.mono (by first | decide | omega)) rfl T.g__law_taken T.k__law_taken b_L_taken .nil pass0 (pa_cons (pv 1) (pa_cons pe_int pa_nil)))) pa_nil))))) (pe_call G_L_taken (hr.mono (by first | decide | omega)) rfl T.g__law_taken T.k__law_taken b_L_taken .nil pass0 (pa_cons (pv 1) (pa_cons pe_int pa_nil))) (fun _ _ => rfl)))) pss_nil)
      (pss_cons (ps_if (pt_cmpR op_eq (pv 5) pe_int (nomark _)) (pss_one (ps_set (i := 4) sc_law.nd rfl (by first | exact Or.inl rfl | exact Or.inr rfl) (pe_ix (z_ixL (K := K) rfl) (pe_lst (pa_cons (pe_slice (z_slT (K := K) rfl) (pv 4) po_none (po_some (pv 6))) (pa_cons (pe_op (z_catA (K := K) rfl) (pv 4) (pe_tup (pa_cons pe_int pa_nil))) pa_nil))) (pe_call G_L_taken (hr.mono (by first | decide | omega)) rfl T.g__law_taken T.k__law_taken b_L_taken .nil pass0 (pa_cons (pv 1) (pa_cons pe_int pa_nil))) (fun _ _ => rfl)))) pss_nil)
      (pss_cons (ps_if (pt_cmpR op_eq (pv 5) pe_int (nomark _)) (pss_cons (ps_set (i := 7) sc_law.nd rfl (by first | exact Or.inl rfl | exact Or.inr rfl) (pe_ix (z_ixL (K := K) rfl) (pe_lst (pa_cons pe_int (pa_cons pe_int (pa_cons (pe_op op_sub pe_int pe_int) (pa_cons (pe_op op_add pe_int (pe_call G_L_taken (hr.mono (by first | decide | omega)) rfl T.g__law_taken T.k__law_taken b_L_taken .nil pass0 (pa_cons (pv 1) (pa_cons pe_int pa_nil)))) pa_nil))))) (pe_call G_L_taken (hr.mono (by first | decide | omega)) rfl T.g__law_taken T.k__law_taken b_L_taken .nil pass0 (pa_cons (pv 1) (pa_cons pe_int pa_nil))) (fun _ _ => rfl)))
      (pss_one (ps_set (i := 4) sc_law.nd rfl (by first | exact Or.inl rfl | exact Or.inr rfl) (pe_op (z_catA (K := K) rfl) (pe_op (z_catA (K := K) rfl) (pe_slice (z_slT (K := K) rfl) (pv 4) po_none (po_some (pv 6))) (pe_tup (pa_cons (pv 7) pa_nil))) (pe_slice (z_slT (K := K) rfl) (pv 4) (po_some (pe_op op_add (pv 6) pe_int)) po_none))))) pss_nil)
      (pss_cons (ps_set (i := 8) sc_law.nd rfl (by first | exact Or.inl rfl | exact Or.inr rfl) (pe_and (pe_chain op_le op_le pe_int (pv 3) pe_int) (pe_and (pe_cmpR op_eq (pe_callB (z_len (K := K) rfl) (by rfl) T.n_len (by decide +kernel) (pa_cons (pv 4) pa_nil)) pe_int (nomark _)) (pe_and (pe_cmpR op_gt (pe_callB (z_minT (K := K) rfl rfl (hu_of hr)) (by rfl) T.n_min (by decide +kernel) (pa_cons (pv 4) pa_nil)) pe_int (nomark _)) (pe_one (pe_cmpR op_lt (pe_callB (z_maxT (K := K) rfl rfl (hu_of hr)) (by rfl) T.n_max (by decide +kernel) (pa_cons (pv 4) pa_nil)) pe_int (nomark _)))))))
      (pss_one (z_try (K := K) (i := 10) rfl rfl rfl sc_law.nd rfl rfl ⟨rfl, by decide, Or.inl T.g_BankError⟩ takes0 (fun W pn xe tk _ =>
      (pss_cons (ps_set (i := 9) sc_law.nd rfl (by first | exact Or.inl rfl | exact Or.inr rfl) (z_makeS T.mk_Rules G_Rules_init (hr.mono (by first | decide | omega)) rfl T.g_Rules b_Rules_init (fun σ => passAt tk σ) (pa_cons (pv 3) (pa_cons (pv 4) pa_nil))))
      (pss_one (ps_if (PW.pt (pw_or (pt_not (pt_val (pv 8))) (pw_or1 (pt_not (pt_val (pe_call G_L_alike (hr.mono (by first | decide | omega)) rfl T.g__law_alike T.k__law_alike b_L_alike .nil pass0 (pa_cons (pe_tup (pa_cons (pe_meth0 (pv 9) T.cl_Rules T.me_Rules_banks G_Rules_banks (hr.mono (by first | decide | omega)) b_Rules_banks .nil pass0) (pa_cons (pe_meth0 (pv 9) T.cl_Rules T.me_Rules_times G_Rules_times (hr.mono (by first | decide | omega)) b_Rules_times .nil pass0) pa_nil))) (pa_cons (pe_tup (pa_cons (pv 3) (pa_cons (pv 4) pa_nil))) pa_nil)))))))) (pss_one (ps_ret pe_bl)) pss_nil)))) (fun a oe cls d pn hz hf =>
      (pss_cons (ps_set (i := 11) sc_law.nd rfl (by first | exact Or.inl rfl | exact Or.inr rfl) (pe_or (pe_callB (call_isX (K := K) rfl hz hf) (by rfl) T.n_isinstance (by decide +kernel) (pa_cons (pv 10) (pa_cons (pe_glob (v := .ref (He.ga K "BadAsk")) rfl T.g_BadAsk rfl) pa_nil))) (pe_or (pe_callB (call_isX (K := K) rfl hz hf) (by rfl) T.n_isinstance (by decide +kernel) (pa_cons (pv 10) (pa_cons (pe_glob (v := .ref (He.ga K "BadOrder")) rfl T.g_BadOrder rfl) pa_nil))) (pe_or (pe_callB (call_isX (K := K) rfl hz hf) (by rfl) T.n_isinstance (by decide +kernel) (pa_cons (pv 10) (pa_cons (pe_glob (v := .ref (He.ga K "BadPlan")) rfl T.g_BadPlan rfl) pa_nil))) (pe_one (pe_callB (call_isX (K := K) rfl hz hf) (by rfl) T.n_isinstance (by decide +kernel) (pa_cons (pv 10) (pa_cons (pe_glob (v := .ref (He.ga K "BadText")) rfl T.g_BadText rfl) pa_nil))))))))
      (pss_one (ps_if (PW.pt (pw_or (pt_val (pv 8)) (pw_or (pt_val (pv 11)) (pw_or (pt_not (pt_val (pe_callB (call_isX (K := K) rfl hz hf) (by rfl) T.n_isinstance (by decide +kernel) (pa_cons (pv 10) (pa_cons (pe_glob (v := .ref (He.ga K "BadRules")) rfl T.g_BadRules rfl) pa_nil))))) (pw_or1 (pt_not (pt_val (pe_callB (call_isX (K := K) rfl hz hf) (by rfl) T.n_isinstance (by decide +kernel) (pa_cons (pv 10) (pa_cons (pe_bltn (v := .ty "ValueError") (by rfl) T.n_ValueError (by decide +kernel) rfl) pa_nil)))))))))) (pss_one (ps_ret pe_bl)) pss_nil))))))))))))))
      (pss_one (ps_ret pe_bl)))), ?read⟩)
  case len =>
    obtain ⟨_, _, rfl, _⟩ := h
    rfl
  case read =>
    obtain ⟨s0, ns, rfl, hs, hQ⟩ := h
    refine w_start (σ' := [some _, none, none, none, none, none, none, none, none, none, none, none]) rfl ?_
    walk_at "ss"
    rename_i r nr S0
    have hr0 : RowOk K (upd H r (.lst [.ref s0, .int 0, .int 0])) r := by
      refine ⟨s0, ns, 0, 0, upd_same, ?_, by omega, by omega, by omega⟩
      rcases hs with ⟨o, h⟩ | h
      · exact .inl ⟨o, S0 _ _ h⟩
      · exact .inr h
    generalize upd H r (.lst [.ref s0, .int 0, .int 0]) = H0 at hr0
    refine k_for walk_range (fun i σ H1 => RowOk K H1 r ∧ ∃ o2 o3 o4 o5 o6 o7 o8 o9 o10 o11, σ = [some (.ref s0), some (.ref r), o2, o3, o4, o5, o6, o7, o8, o9, o10, o11]) ⟨hr0, _, _, _, _, _, _, _, _, _, _, rfl⟩ (fun _ _ _ _ _ => trivial) (fun i x σ H1 H1' hi hP hY => ?_) (fun σ H1 hP => ?_)
    · obtain ⟨hrow, o2, o3, o4, o5, o6, o7, o8, o9, o10, o11, rfl⟩ := hP
      obtain ⟨rfl, rfl⟩ := hY
      walk_at "ss"
      refine c_rules hrow (fun b ts t p H2 hb1 hb4 hts k2 r2 ht hp => ?_)
      have hp' := SqT.of (K := K) hp
      walk_at "ss"
      refine c_taken r2 (by omega) (fun way H3 hw0 hw6 k3 r3 => ?_)
      walk_at "ss"
      refine c_taken r3 (by omega) (fun k H4 hk0 hk6 k4 r4 => ?_)
      have t4 : SqT K H4 p (ts.map V.int) := kp_t k4 r3 (kp_t k3 r2 hp')
      walk_at "s"
      refine w_cut (fun σ H' => RowOk K H' r ∧ ∃ (b' : Int) (o2 o7 : Option V), σ = [some (.ref s0), some (.ref r), o2, some (.int b'), some (.ref p), some (.int way), some (.int k), o7, o8, o9, o10, o11] ∧ SqT K H' p (ts.map V.int)) (fun N hN => ?_) (fun σ H5 hP => ?_)
      · walk_at "ss"
        refine k_if2 (fun c => ?_) (fun c => ?_)
        · walk_at "ss"
          refine c_taken r4 (by omega) (fun v H5 hv0 hv1 k5 r5 => ?_)
          walk_at "ss"
          rename_i q nq S5
          refine c_taken (row_same r5 S5) (by omega) (fun v2 H6 hv20 hv21 k6 r6 => ?_)
          have hq6 := k6 _ _ (ne_of_none' (row_at r5) nq) upd_same
          obtain ⟨z, hz⟩ : ∃ z, atI [V.int 0, V.int 5, V.int (0 - 1), V.int (5 + v)] v2 = some (.int z) := by
            rcases (by omega : v2 = 0 ∨ v2 = 1 ∨ v2 = 2 ∨ v2 = 3) with rfl | rfl | rfl | rfl
            · exact ⟨_, rfl⟩
            · exact ⟨_, rfl⟩
            · exact ⟨_, rfl⟩
            · exact ⟨_, rfl⟩
          walk_at "ss"
          exact hN _ _ ⟨r6, z, _, _, rfl, kp_t k6 (row_same r5 S5) (same_t S5 (kp_t k5 r4 t4))⟩
        · walk_at "ss"
          exact hN _ _ ⟨r4, b, _, _, rfl, t4⟩
      · obtain ⟨r5, b', o2', o7', rfl, t5⟩ := hP
        refine w_cut (fun σ H' => RowOk K H' r ∧ ∃ (p' : Addr) (ts' : List Int) (o2 o7 : Option V), σ = [some (.ref s0), some (.ref r), o2, some (.int b'), some (.ref p'), some (.int way), some (.int k), o7, o8, o9, o10, o11] ∧ SqT K H' p' (ts'.map V.int) ∧ ts'.length ≤ 7) (fun N hN => ?_) (fun σ H6 hP => ?_)
        · walk_at "ss"
          refine k_if2 (fun c => ?_) (fun c => ?_)
          · walk_at "ss"
            refine s_slT t5 (fun q ms H6 S6 tq lq => ?_)
            walk_at "ss"
            rename_i pt npt St
            refine s_catI (ns := ts) (ms := [1]) (same_t St (same_t S6 t5)) (SqT.of upd_same) (by have := hts.1; simp [this]) (fun q2 H7 S7 tq2 => ?_)
            walk_at "ss"
            rename_i pl npl Sl
            have r8 := row_same (row_same (row_same (row_same r5 S6) St) S7) Sl
            refine c_taken r8 (by omega) (fun v H8 hv0 hv1 k8 r9 => ?_)
            have hl8 := k8 _ _ (ne_of_none' (row_at (row_same (row_same (row_same r5 S6) St) S7)) npl) upd_same
            have a1 := kp_t k8 r8 (same_t Sl (same_t S7 (same_t St tq)))
            have a2 := kp_t k8 r8 (same_t Sl tq2)
            rcases (by omega : v = 0 ∨ v = 1) with rfl | rfl
            · walk_at "ss"
              exact hN _ _ ⟨r9, q, ms, _, _, rfl, a1, by have := hts.1; omega⟩
            · walk_at "ss"
              exact hN _ _ ⟨r9, q2, ts ++ [1], _, _, rfl, a2, by have := hts.1; simp [this]⟩
          · walk_at "ss"
            exact hN _ _ ⟨r5, p, ts, _, _, rfl, t5, by have := hts.1; omega⟩
        · obtain ⟨r6, p', ts', o2', o7', rfl, t6, l6⟩ := hP
          refine w_cut (fun σ H' => RowOk K H' r ∧ ∃ (p' : Addr) (ts' : List Int) (o2 o7 : Option V), σ = [some (.ref s0), some (.ref r), o2, some (.int b'), some (.ref p'), some (.int way), some (.int k), o7, o8, o9, o10, o11] ∧ SqT K H' p' (ts'.map V.int) ∧ ts'.length ≤ 30) (fun N hN => ?_) (fun σ H7 hP => ?_)
          · walk_at "ss"
            refine k_if2 (fun c => ?_) (fun c => ?_)
            · walk_at "ss"
              refine c_taken r6 (by omega) (fun v H7 hv0 hv1 k7 r7 => ?_)
              walk_at "ss"
              rename_i q nq S7
              refine c_taken (row_same r7 S7) (by omega) (fun v2 H8 hv20 hv21 k8 r8 => ?_)
              have hq8 := k8 _ _ (ne_of_none' (row_at r7) nq) upd_same
              obtain ⟨z, hz⟩ : ∃ z, atI [V.int 0, V.int 10, V.int (0 - 1), V.int (10 + v)] v2 = some (.int z) := by
                rcases (by omega : v2 = 0 ∨ v2 = 1 ∨ v2 = 2 ∨ v2 = 3) with rfl | rfl | rfl | rfl
                · exact ⟨_, rfl⟩
                · exact ⟨_, rfl⟩
                · exact ⟨_, rfl⟩
                · exact ⟨_, rfl⟩
              have t8 := kp_t k8 (row_same r7 S7) (same_t S7 (kp_t k7 r6 t6))
              walk_at "ss"
              refine s_slT t8 (fun q1 m1 H9 S9 tq1 lq1 => ?_)
              walk_at "ss"
              rename_i pt npt St
              refine s_catI (ns := m1) (ms := [z]) (same_t St tq1) (SqT.of upd_same) (by simp; omega) (fun q2 H10 S10 tq2 => ?_)
              walk_at "ss"
              refine s_slT (same_t S10 (same_t St (same_t S9 t8))) (fun q3 m3 H11 S11 tq3 lq3 => ?_)
              refine s_catI (ns := m1 ++ [z]) (ms := m3) (same_t S11 tq2) tq3 (by simp; omega) (fun q4 H12 S12 tq4 => ?_)
              walk_at "ss"
              exact hN _ _ ⟨row_same (row_same (row_same (row_same (row_same r8 S9) St) S10) S11) S12, q4, _, _, _, rfl, tq4, by simp; omega⟩
            · walk_at "ss"
              exact hN _ _ ⟨r6, p', ts', _, _, rfl, t6, by omega⟩
          · obtain ⟨r7, p7, ts7, o2', o7', rfl, t7, l7⟩ := hP
            refine w_cut (fun σ H' => RowOk K H' r ∧ SqT K H' p7 (ts7.map V.int) ∧ ∃ g : Bool, (g = true ↔ goodR b' ts7) ∧ σ = [some (.ref s0), some (.ref r), o2', some (.int b'), some (.ref p7), some (.int way), some (.int k), o7', some (.bl g), o9, o10, o11]) (fun N hN => ?_) (fun σ H8 hP => ?_)
            · by_cases h1 : 1 ≤ b'
              · by_cases h2 : b' ≤ 4
                · by_cases h3 : ts7.length = 6
                  · have h3' : ((ts7.map V.int).length : Int) = 6 := by rw [List.length_map]; omega
                    have hne : ts7 ≠ [] := by intro e; rw [e] at h3; simp at h3
                    walk_at "ss"
                    refine b_minT t7 hne (fun m hm1 hm2 => ?_)
                    by_cases c1 : 0 < m
                    · walk_at "ss"
                      refine b_maxT t7 hne (fun m' hm3 hm4 => ?_)
                      walk_at "ss"
                      refine hN _ _ ⟨r7, t7, decide (m' < 10), ?_, rfl⟩
                      rw [decide_eq_true_eq]
                      constructor
                      · intro c2
                        exact ⟨h1, h2, h3, fun z hz => ⟨by have := hm2 z hz; omega, by have := hm4 z hz; omega⟩⟩
                      · intro g
                        have := (g.2.2.2 m' hm3).2
                        omega
                    · walk_at "ss"
                      exact hN _ _ ⟨r7, t7, false, ⟨(fun z => by cases z), fun g => absurd (g.2.2.2 m hm1).1 (by omega)⟩, rfl⟩
                  · have h3' : ¬ ((ts7.map V.int).length : Int) = 6 := by rw [List.length_map]; omega
                    walk_at "ss"
                    exact hN _ _ ⟨r7, t7, false, ⟨(fun z => by cases z), fun g => absurd g.2.2.1 h3⟩, rfl⟩
                · walk_at "ss"
                  exact hN _ _ ⟨r7, t7, false, ⟨(fun z => by cases z), fun g => absurd g.2.1 h2⟩, rfl⟩
              · walk_at "ss"
                exact hN _ _ ⟨r7, t7, false, ⟨(fun z => by cases z), fun g => absurd g.1 h1⟩, rfl⟩
            · obtain ⟨r8, t8, g, hg, rfl⟩ := hP
              walk_at "ss"
              intro x dx nx ndx ne
              refine ⟨x, dx, p7, b', ts7, rfl, upd_same, same_t (Same.trans (Same.new ndx) (Same.new (by rw [upd_ne (Ne.symm ne)]; exact nx))) t8, by omega, fun gd H9 hR hfr => ⟨rfl, ?_⟩, fun ng H9 S9 => ?_⟩
              · have S9 : Same H8 H9 := Same.made nx ndx (fun a o h1 h2 => hfr a o h2 h1)
                obtain rfl : g = true := hg.mpr gd
                have hR' := hR
                obtain ⟨t9, dx9, z1, z2, z3, z4, z5, z6, rfl, hx9, ht9⟩ := hR
                have t9' := same_t S9 t8
                walk_at "ss"
                refine ⟨x, b', _, rfl, hR', ?_⟩
                walk_at "ss"
                refine ⟨x, b', _, rfl, hR', fun tt htt => ?_⟩
                walk_at "ss"
                rename_i q1 nq1 Sq1 q2 nq2 Sq2
                refine ⟨_, _, .tuple [.int b', .tuple (([z1, z2, z3, z4, z5, z6] : List Int).map .int)], rfl, .tup (SqT.of (Sq2 _ _ upd_same)) (.cons (.int _) (.cons (.tup (same_t Sq2 (same_t Sq1 htt)) (dps_ints _)) .nil)), .tup (SqT.of upd_same) (.cons (.int _) (.cons (.tup (same_t Sq2 (same_t Sq1 t9')) (dps_ints _)) .nil)), rfl, Nat.lt_of_succ_le (Nat.le_of_ble_eq_true rfl), fun H10 S10 => ?_⟩
                walk_at "ss"
                exact ⟨row_same (row_same (row_same (row_same r8 S9) Sq1) Sq2) S10, _, _, _, _, _, _, _, _, _, _, rfl⟩
              · have S8 : Same H8 H9 := Same.trans (Same.trans (Same.new ndx) (Same.new (by rw [upd_ne (Ne.symm ne)]; exact nx))) S9
                obtain rfl : g = false := by
                  cases g with
                  | false => rfl
                  | true => exact absurd (hg.mp rfl) ng
                refine k_as T.xm_BadRules_BankError (fun a na => ?_)
                have i0 := T.xi_BadRules
                have i1 := T.ki_BadRules_BadAsk_f
                have i2 := T.ki_BadRules_BadOrder_f
                have i3 := T.ki_BadRules_BadPlan_f
                have i4 := T.ki_BadRules_BadText_f
                have i5 := T.ki_BadRules_BadRules_t
                have i6 := T.ki_BadRules_ValueError_t
                refine w_start (σ' := [some (.ref s0), some (.ref r), o2', some (.int b'), some (.ref p7), some (.int way), some (.int k), o7', some (.bl false), o9, some (.ref a), o11]) rfl ?_
                walk_at "ss"
                exact ⟨row_same r8 S8, _, _, _, _, _, _, _, _, _, _, rfl⟩
    · obtain ⟨hrow, o2, o3, o4, o5, o6, o7, o8, o9, o10, o11, rfl⟩ := hP
      walk_at "ss"
      exact hQ _
end Bk
namespace Bk
open PySem L2
abbrev R : PySem.W.OpenRow := PySem.W.OpenLaw.row PySem.Challenge.rw_bankrows_k08_rules_that_are_none
def d_Rules_init : He.DefD := ⟨("Rules", some "__init__"), "__init__", "Rules.__init__", defArgs s_Rules_init, defBody s_Rules_init, defScope s_Rules_init, [], []⟩
def d_Rules_banks : He.DefD := ⟨("Rules", some "banks"), "banks", "Rules.banks", defArgs s_Rules_banks, defBody s_Rules_banks, defScope s_Rules_banks, [], []⟩
def d_Rules_times : He.DefD := ⟨("Rules", some "times"), "times", "Rules.times", defArgs s_Rules_times, defBody s_Rules_times, defScope s_Rules_times, [], []⟩
def d_L_alike : He.DefD := ⟨("_law_alike", none), "_law_alike", "_law_alike", defArgs s_L_alike, defBody s_L_alike, defScope s_L_alike, [], []⟩
def d_L_rules : He.DefD := ⟨("_law_rules", none), "_law_rules", "_law_rules", defArgs s_L_rules, defBody s_L_rules, defScope s_L_rules, [], []⟩
def d_L_taken : He.DefD := ⟨("_law_taken", none), "_law_taken", "_law_taken", defArgs s_L_taken, defBody s_L_taken, defScope s_L_taken, [], []⟩
def d_law : He.DefD := ⟨("law", none), "law", "law", defArgs s_law, defBody s_law, defScope s_law, [], []⟩
def fn : List He.DefD := [d_Rules_init, d_Rules_banks, d_Rules_times, d_L_alike, d_L_rules, d_L_taken, d_law]
def fa : List He.Fa := [.int "MOST_BANKS" 4, .int "MOST_TIME" 9, .int "TIMES" 6, .cls "Rules", .glo "BadAsk", .glo "BadOrder", .glo "BadPlan", .glo "BadRules", .glo "BadText", .glo "BankError", .glo "Rules", .glo "_law_alike", .glo "_law_rules", .glo "_law_taken", .glo "law", .keep "BadRules", .keep "_law_alike", .keep "_law_rules", .keep "_law_taken", .meth "Rules" "banks", .meth "Rules" "times", .mkr "Rules", .free "ValueError", .free "bool", .free "int", .free "isinstance", .free "len", .free "list", .free "max", .free "min", .free "range", .free "str", .free "tuple", .noat "Rules" "gap", .noat "Rules" "hold", .noat "Rules" "keep", .noat "Rules" "many", .noat "Rules" "open_time", .noat "Rules" "rest", .noat "Rules" "told", .noat "Rules" "wire", .exc "BadRules", .exm "BadRules" "BankError" true]
def exs : List (PySem.W.Frag → Bool) := [(fun K => decide (PySem.W.kitOne K (.ref (He.ga K "BadRules")) (.ref (He.ga K "BadAsk")) = some false)), (fun K => decide (PySem.W.kitOne K (.ref (He.ga K "BadRules")) (.ref (He.ga K "BadOrder")) = some false)), (fun K => decide (PySem.W.kitOne K (.ref (He.ga K "BadRules")) (.ref (He.ga K "BadPlan")) = some false)), (fun K => decide (PySem.W.kitOne K (.ref (He.ga K "BadRules")) (.ref (He.ga K "BadRules")) = some true)), (fun K => decide (PySem.W.kitOne K (.ref (He.ga K "BadRules")) (.ref (He.ga K "BadText")) = some false)), (fun K => decide (PySem.W.kitOne K (.ref (He.ga K "BadRules")) (.type "ValueError") = some true)), (fun K => xcB K (He.ga K "BadRules"))]
abbrev hk : PySem.W.Hook := hookX 4 fa exs fn
def ob (s : PySem.W.SharedT) : He.AlD := obsXG 4 fa exs fn (HandSHeadRun.getT s)
theorem ob_eq (s : PySem.W.SharedT) : ob s = hk.obs s.abs := obsXG_eq (HandSHeadRun.getT_eq s)
def loose : List Str := ["BankError", "BadRules", "BadAsk", "BadOrder", "BadPlan", "BadText", "MOST_BANKS", "MOST_TIME", "TIMES", "Rules", "_law_taken", "_law_alike", "_law_rules"]
theorem run (w : World) : HandSHeadRun.RunEq R (PySem.W.view R.prog [16]) hk ob 2000 loose w := by
  intro os
  kernel_rfl
theorem facts {P : Program} {w : World} {K : PySem.W.Frag} {h : Heap} {mg : Str → Option Value} (X : K.In h) (G : h.Ns mainGlobals mg) (c : SaysX fa exs fn K) : Txt K mg where
  c_MOST_BANKS := He.int_ok X G (c.fact 0 rfl)
  c_MOST_TIME := He.int_ok X G (c.fact 1 rfl)
  c_TIMES := He.int_ok X G (c.fact 2 rfl)
  cl_Rules := He.cls_ok (c.fact 3 rfl)
  f_Rules_init := c.def_ 0 (d := d_Rules_init) rfl
  f_Rules_banks := c.def_ 1 (d := d_Rules_banks) rfl
  f_Rules_times := c.def_ 2 (d := d_Rules_times) rfl
  f_L_alike := c.def_ 3 (d := d_L_alike) rfl
  f_L_rules := c.def_ 4 (d := d_L_rules) rfl
  f_L_taken := c.def_ 5 (d := d_L_taken) rfl
  f_law := c.def_ 6 (d := d_law) rfl
  g_BadAsk := He.glo_ok X G (c.fact 4 rfl)
  g_BadOrder := He.glo_ok X G (c.fact 5 rfl)
  g_BadPlan := He.glo_ok X G (c.fact 6 rfl)
  g_BadRules := He.glo_ok X G (c.fact 7 rfl)
  g_BadText := He.glo_ok X G (c.fact 8 rfl)
  g_BankError := He.glo_ok X G (c.fact 9 rfl)
  g_Rules := He.glo_ok X G (c.fact 10 rfl)
  g__law_alike := He.glo_ok X G (c.fact 11 rfl)
  g__law_rules := He.glo_ok X G (c.fact 12 rfl)
  g__law_taken := He.glo_ok X G (c.fact 13 rfl)
  g_law := He.glo_ok X G (c.fact 14 rfl)
  k_BadRules := He.keep_ok (c.fact 15 rfl)
  k__law_alike := He.keep_ok (c.fact 16 rfl)
  k__law_rules := He.keep_ok (c.fact 17 rfl)
  k__law_taken := He.keep_ok (c.fact 18 rfl)
  ki_BadRules_BadAsk_f := of_decide_eq_true (c.extra 0 rfl)
  ki_BadRules_BadOrder_f := of_decide_eq_true (c.extra 1 rfl)
  ki_BadRules_BadPlan_f := of_decide_eq_true (c.extra 2 rfl)
  ki_BadRules_BadRules_t := of_decide_eq_true (c.extra 3 rfl)
  ki_BadRules_BadText_f := of_decide_eq_true (c.extra 4 rfl)
  ki_BadRules_ValueError_t := of_decide_eq_true (c.extra 5 rfl)
  me_Rules_banks := He.meth_ok (c.fact 19 rfl)
  me_Rules_times := He.meth_ok (c.fact 20 rfl)
  mk_Rules := He.mkr_ok (c.fact 21 rfl)
  n_ValueError := He.free_ok X G (c.fact 22 rfl)
  n_bool := He.free_ok X G (c.fact 23 rfl)
  n_int := He.free_ok X G (c.fact 24 rfl)
  n_isinstance := He.free_ok X G (c.fact 25 rfl)
  n_len := He.free_ok X G (c.fact 26 rfl)
  n_list := He.free_ok X G (c.fact 27 rfl)
  n_max := He.free_ok X G (c.fact 28 rfl)
  n_min := He.free_ok X G (c.fact 29 rfl)
  n_range := He.free_ok X G (c.fact 30 rfl)
  n_str := He.free_ok X G (c.fact 31 rfl)
  n_tuple := He.free_ok X G (c.fact 32 rfl)
  na_Rules_gap := He.noat_ok (c.fact 33 rfl)
  na_Rules_hold := He.noat_ok (c.fact 34 rfl)
  na_Rules_keep := He.noat_ok (c.fact 35 rfl)
  na_Rules_many := He.noat_ok (c.fact 36 rfl)
  na_Rules_open_time := He.noat_ok (c.fact 37 rfl)
  na_Rules_rest := He.noat_ok (c.fact 38 rfl)
  na_Rules_told := He.noat_ok (c.fact 39 rfl)
  na_Rules_wire := He.noat_ok (c.fact 40 rfl)
  xb_BadRules := (fun c => (He.exc_ok c).2.2.1) (c.fact 41 rfl)
  xc_BadRules := (fun c => (He.exc_ok c).1) (c.fact 41 rfl)
  xi_BadRules := xcB_ok (c.extra 6 rfl)
  xm_BadRules_BankError := He.exm_ok (c.fact 42 rfl)
  xt_BadRules := (fun c => (He.exc_ok c).2.2.2) (c.fact 41 rfl)
end Bk
open PySem PySem.W PySem.Calls PyProof.Rows
set_option maxRecDepth 100000 in
set_option maxHeartbeats 0 in
theorem PySem.Challenge.cw_bankrows_k08_rules_that_are_none_holds : PySem.Challenge.rw_bankrows_k08_rules_that_are_none.Holds := by
  w_on; o_law
  refine HandSHeadRun.head_any (r := OpenLaw.row PySem.Challenge.rw_bankrows_k08_rules_that_are_none) (q := view (OpenLaw.row PySem.Challenge.rw_bankrows_k08_rules_that_are_none).prog [16]) (H := Bk.hk) (ob := Bk.ob) (M := 2000) (loose := Bk.loose) (d := HandSHeadRun.topDef (OpenLaw.row PySem.Challenge.rw_bankrows_k08_rules_that_are_none).prog 16) (kwd := []) Bk.ob_eq
    (by kernel_rfl) (fun s => by kernel_rfl) Bk.run (by kernel_rfl) (by kernel_rfl) (by kernel_rfl) (by rfl) (by first | assumption | decide +kernel) (by decide +kernel) ⟨rfl, rfl, rfl, rfl, rfl, by decide +kernel⟩ ?hw ?hc
  case hw => w_witness2
  case hc =>
    refine L2.walk_ofE (l := PySem.Challenge.rw_bankrows_k08_rules_that_are_none) (n := 63) (k := 12) (x := "_law_script") (CX := L2.CX0) rfl (by decide) (by kernel_rfl) ⟨rfl, by decide, by decide⟩ ?F (fun _ _ _ _ z => z)
    intro w mg fa h Y G hmg0
    obtain ⟨K, KX, c⟩ := Y
    have hmg : mg ("law" : PySem.Str) = some (.ref fa) := by
      have e : (HandSHeadRun.topDef (OpenLaw.row PySem.Challenge.rw_bankrows_k08_rules_that_are_none).prog 16).name = ("law" : PySem.Str) := by kernel_rfl
      rw [← e]
      exact hmg0
    have T : Bk.Txt K mg := Bk.facts (P := (PySem.Challenge.rw_bankrows_k08_rules_that_are_none).prog) (w := w) KX G c
    obtain ⟨fd, F⟩ := T.f_law
    have e : fa = He.ga K "law" := by
      have q := hmg.symm.trans T.g_law
      cases q
      rfl
    subst e
    exact ⟨K, fd, Bk.sp_law K, KX, fun s u => L2.FunD.bindsA (ps := ["_law_script"]) F (fun _ _ _ _ _ _ us hl => match us, hl with | [_], _ => rfl) s [u] rfl, fun H a ns _ hO hS => ⟨a, ns, rfl, Bk.scr_of hO hS, fun _ => rfl⟩, fun base _ _ => Bk.ok_law T F⟩
#print axioms PySem.Challenge.cw_bankrows_k08_rules_that_are_none_holds
