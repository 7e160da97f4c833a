/- Proved: for every input the law DerivThrough of bosketlaw05 returns true, and its arguments read behind the call as before (Rows.DerivThroughSaid). Without a condition. -/
import Derived.Test.YtaefhdklkbohmaaS4
import Derived.Test.YtaefhdklkbohmaaRows
import Derived.WalkKit
import Derived.ProofKit
import Derived.OpenShut
import Derived.ShutString
import Derived.ChangeOld
import Derived.Below
import Derived.SizedLaws
set_option linter.unusedSimpArgs false
set_option linter.unusedVariables false
set_option linter.unusedSectionVars false
/- deriv.Through. -/
namespace Go.Proofs.Ytaefhdklkbohmaa
open Go Go.RowKit
set_option linter.unusedSimpArgs false
set_option maxRecDepth 20000
set_option maxHeartbeats 4000000
theorem atEnd_ct {σ : Env} {s n s' : Nat} {ag : Bool} {t u t' u' : T} (h : pev true σ.get (.load n ag (.tmp s)) = (True, .t u)) (hu : u = t) (ht : ∀ us, t ≠ .tup us) (h' : evT true σ.get (.tmp s') = (True, u')) (hu' : u' = t') (ht' : ∀ us, t' ≠ .tup us) :
    atEnd [.cell s n ag, .tmp s'] (.tup [.sh, .sh]) (.tup [t, t']) .ret σ := by
  subst hu; subst hu'
  refine .inr (.inr ⟨by simp, rfl, ?_, ?_⟩)
  · simp only [resTs, resT, h, h']
  · simp only [resTs, resT, h, h']
    exact ⟨trivial, ht, trivial, ht', trivial⟩
def bytesOf (w : ByteArray) : List Nat := w.data.toList.map UInt8.toNat
theorem bytesOf_length (w : ByteArray) : (bytesOf w).length = w.size := by
  simp only [bytesOf, List.length_map, Array.length_toList]; rfl
theorem bytesOf_at (w : ByteArray) (i : Nat) (h : i < w.size) : (bytesOf w).drop i = (w.data.toList.getD i 0).toNat :: (bytesOf w).drop (i + 1) := by
  have h' : i < (bytesOf w).length := by rw [bytesOf_length]; exact h
  rw [List.drop_eq_getElem_cons h']
  congr 1
  have : i < w.data.size := h
  simp only [bytesOf, List.getElem_map]
  rw [List.getD_eq_getElem?_getD, List.getElem?_eq_getElem (by simpa using this)]
  rfl
theorem byte_lt (w : ByteArray) (i : Nat) : (w.data.toList.getD i 0).toNat < 256 := UInt8.toNat_lt _
def thr (most : Int) : Rx → List Nat → Nat → Option Rx × Nat
  | x, [], i => (.some x, i)
  | x, c :: l, i => match der c x with
    | .none => (.none, i)
    | .some y => if (y.enc.length : Int) > most then (.some y, i) else thr most y l (i + 1)
def thr9I (most : Int) (R : Option Rx × Nat) (w : ByteArray) (m : Nat) (σ : Env) : Prop := ∃ (i : Nat) (x : Rx), i + m = w.size ∧ x.enc.length ≤ 10000 ∧ R = thr most x ((bytesOf w).drop i) i ∧
  σ = [(1, .t (.str w)), (2, .t (.int .i64 most)), (6, .own (.box [.sh, .sh]) (.agg [.bool false, .sl 5 []])), (8, .own (.box [.sh, .sh]) (.agg [.bool false, .sl 5 (x.enc.map pcT)])), (19, .t (.int .i64 (w.size : Int))), (20, .t (.int .i64 (i : Int)))]
theorem through9_bad (r : List Pc) (w : ByteArray) (most : Int) (hl : r.length ≤ 1073741824) (hk : checkS r ≠ 0) : ACalls Try.prog 9 [rxT r, .str w, .int .i64 most] (.tup [.sh, .sh]) (.tup [leftT .none, .int .i64 0]) := by
  refine ACalls.of n9 rfl (m9 _ rfl) q9 (by simp only [List.length_cons, List.length_nil]; decide) (fun C hC => ?_)
  have hN : C.N = 45 := hC
  have hb : (checkS r != 0) = true := by simpa using hk
  repeat' first
    | refine AV.seq ?_
    | refine AV.block ?_
    | ((first | refine AV.reg ?_ | refine AV.regD mixed ?_); simp only [hN, c9R0, c9R1, c9R2, c9R3, c9R4, c9R5, c9R6, c9R7, c9R8, c9R9, c9R10, c9R11, c9R12, rxT, List.length_map, leftT, hb, go_sem, Nat.reduceSub, reduceIte, Nat.reduceEqDiff, Nat.reduceLT, Nat.reduceMul, Nat.reduceAdd, Nat.reduceBEq, Nat.reduceLeDiff, Int.reduceLT, Int.reduceLE, Int.reduceNeg, Int.reduceBEq, Int.reduceBNe, Int.reduceToNat]; repeat (simp (disch := omega) only [wrap_small, getD_map_lt]; try simp only [go_sem, Nat.reduceSub, reduceIte, Nat.reduceEqDiff, Nat.reduceLT, Nat.reduceMul, Nat.reduceAdd, Nat.reduceBEq, Nat.reduceLeDiff, Int.reduceLT, Int.reduceLE, Int.reduceNeg, Int.reduceBEq, Int.reduceBNe, Int.reduceToNat, rxT, List.length_map, leftT, hb]))
    | (refine AV.cond ?_ ?_ (fun hc => ?_) (fun hc => ?_) <;> (try simp only [go_sem, Nat.reduceSub, reduceIte, Nat.reduceEqDiff, Nat.reduceLT, Nat.reduceMul, Nat.reduceAdd, Nat.reduceBEq, Nat.reduceLeDiff, Int.reduceLT, Int.reduceLE, Int.reduceNeg, Int.reduceBEq, Int.reduceBNe, Int.reduceToNat, beq_iff_eq, beq_eq_false_iff_ne] at hc) <;> (try simp only [go_sem, Nat.reduceSub, reduceIte, Nat.reduceEqDiff, Nat.reduceLT, Nat.reduceMul, Nat.reduceAdd, Nat.reduceBEq, Nat.reduceLeDiff, Int.reduceLT, Int.reduceLE, Int.reduceNeg, Int.reduceBEq, Int.reduceBNe, Int.reduceToNat]))
    | ((first | refine AV.skip ?_ | refine AV.exit ?_); simp only [go_sem, Nat.reduceSub, reduceIte, Nat.reduceEqDiff, Nat.reduceLT, Nat.reduceMul, Nat.reduceAdd, Nat.reduceBEq, Nat.reduceLeDiff, Int.reduceLT, Int.reduceLE, Int.reduceNeg, Int.reduceBEq, Int.reduceBNe, Int.reduceToNat])
    | ((first | refine ⟨_, _, clone37_spec r hl, rfl, ?_⟩ | refine ⟨_, _, clone37_spec r hl, ?_⟩ | refine ⟨_, _, fun _ => clone37_spec r hl, rfl, fun _ => trivial, ?_⟩ | refine ⟨_, _, check38_spec r hl, rfl, ?_⟩ | refine ⟨_, _, check38_spec r hl, ?_⟩ | refine ⟨_, _, fun _ => check38_spec r hl, rfl, fun _ => trivial, ?_⟩); (try simp only [go_sem, Nat.reduceSub, reduceIte, Nat.reduceEqDiff, Nat.reduceLT, Nat.reduceMul, Nat.reduceAdd, Nat.reduceBEq, Nat.reduceLeDiff, Int.reduceLT, Int.reduceLE, Int.reduceNeg, Int.reduceBEq, Int.reduceBNe, Int.reduceToNat, rxT, List.length_map, leftT, hb]); repeat (simp (disch := omega) only [wrap_small, getD_map_lt]; try simp only [go_sem, Nat.reduceSub, reduceIte, Nat.reduceEqDiff, Nat.reduceLT, Nat.reduceMul, Nat.reduceAdd, Nat.reduceBEq, Nat.reduceLeDiff, Int.reduceLT, Int.reduceLE, Int.reduceNeg, Int.reduceBEq, Int.reduceBNe, Int.reduceToNat, rxT, List.length_map, leftT, hb]))
    | ((first | refine ⟨.sh, .bool false, rfl, trivial, ?_⟩ | refine ⟨.sh, .bool false, rfl, ?_⟩); try simp only [go_sem, Nat.reduceSub, reduceIte, Nat.reduceEqDiff, Nat.reduceLT, Nat.reduceMul, Nat.reduceAdd, Nat.reduceBEq, Nat.reduceLeDiff, Int.reduceLT, Int.reduceLE, Int.reduceNeg, Int.reduceBEq, Int.reduceBNe, Int.reduceToNat])
    | (refine AV.ret ?_; (try simp only [go_sem, Nat.reduceSub, reduceIte, Nat.reduceEqDiff, Nat.reduceLT, Nat.reduceMul, Nat.reduceAdd, Nat.reduceBEq, Nat.reduceLeDiff, Int.reduceLT, Int.reduceLE, Int.reduceNeg, Int.reduceBEq, Int.reduceBNe, Int.reduceToNat]); first | refine atEnd_t (by simp only [go_sem, Nat.reduceSub, reduceIte, Nat.reduceEqDiff, Nat.reduceLT, Nat.reduceMul, Nat.reduceAdd, Nat.reduceBEq, Nat.reduceLeDiff, Int.reduceLT, Int.reduceLE, Int.reduceNeg, Int.reduceBEq, Int.reduceBNe, Int.reduceToNat] <;> rfl) ?_ (by first | (simp [rxT]; done) | exact leftT_tup _) | refine atEnd_c (by simp only [go_sem, Nat.reduceSub, reduceIte, Nat.reduceEqDiff, Nat.reduceLT, Nat.reduceMul, Nat.reduceAdd, Nat.reduceBEq, Nat.reduceLeDiff, Int.reduceLT, Int.reduceLE, Int.reduceNeg, Int.reduceBEq, Int.reduceBNe, Int.reduceToNat] <;> rfl) ?_ (by first | (simp [rxT]; done) | exact leftT_tup _) | refine atEnd_ct (by simp only [go_sem, Nat.reduceSub, reduceIte, Nat.reduceEqDiff, Nat.reduceLT, Nat.reduceMul, Nat.reduceAdd, Nat.reduceBEq, Nat.reduceLeDiff, Int.reduceLT, Int.reduceLE, Int.reduceNeg, Int.reduceBEq, Int.reduceBNe, Int.reduceToNat] <;> rfl) ?_ (by first | (simp; done) | exact leftT_tup _) (by simp only [go_sem, Nat.reduceSub, reduceIte, Nat.reduceEqDiff, Nat.reduceLT, Nat.reduceMul, Nat.reduceAdd, Nat.reduceBEq, Nat.reduceLeDiff, Int.reduceLT, Int.reduceLE, Int.reduceNeg, Int.reduceBEq, Int.reduceBNe, Int.reduceToNat] <;> rfl) ?_ (by simp) | refine atEnd_o (by simp only [go_sem, Nat.reduceSub, reduceIte, Nat.reduceEqDiff, Nat.reduceLT, Nat.reduceMul, Nat.reduceAdd, Nat.reduceBEq, Nat.reduceLeDiff, Int.reduceLT, Int.reduceLE, Int.reduceNeg, Int.reduceBEq, Int.reduceBNe, Int.reduceToNat] <;> rfl) ?_)
    | (refine And.intro ?_ ?_)
    | (with_reducible intro _)
  all_goals try first | exact True.intro | omega | exact ⟨_, _, rfl⟩ | exact allSolid_pcs _ | exact allSolid_one _ | exact allSolid_bool _ | rfl
theorem through9_spec (t : Rx) (w : ByteArray) (most : Int) (hm : most ≤ 10000) (hl : t.enc.length ≤ 400) (hw : w.size ≤ 1073741824) (hk : checkS t.enc = 0) : ACalls Try.prog 9 [rxT t.enc, .str w, .int .i64 most] (.tup [.sh, .sh]) (.tup [leftT (thr most t (bytesOf w) 0).1, .int .i64 (thr most t (bytesOf w) 0).2]) := by
  refine ACalls.of n9 rfl (m9 _ rfl) q9 (by simp only [List.length_cons, List.length_nil]; decide) (fun C hC => ?_)
  have hN : C.N = 45 := hC
  generalize hR : thr most t (bytesOf w) 0 = R
  repeat' first
    | refine AV.seq ?_
    | refine AV.block ?_
    | ((first | refine AV.reg ?_ | refine AV.regD mixed ?_); simp only [hN, c9R0, c9R1, c9R2, c9R3, c9R4, c9R5, c9R6, c9R7, c9R8, c9R9, c9R10, c9R11, c9R12, rxT, List.length_map, hk, go_sem, Nat.reduceSub, reduceIte, Nat.reduceEqDiff, Nat.reduceLT, Nat.reduceMul, Nat.reduceAdd, Nat.reduceBEq, Nat.reduceLeDiff, Int.reduceLT, Int.reduceLE, Int.reduceNeg, Int.reduceBEq, Int.reduceBNe, Int.reduceToNat]; repeat (simp (disch := omega) only [wrap_small, getD_map_lt]; try simp only [go_sem, Nat.reduceSub, reduceIte, Nat.reduceEqDiff, Nat.reduceLT, Nat.reduceMul, Nat.reduceAdd, Nat.reduceBEq, Nat.reduceLeDiff, Int.reduceLT, Int.reduceLE, Int.reduceNeg, Int.reduceBEq, Int.reduceBNe, Int.reduceToNat, rxT, List.length_map, hk]))
    | (refine AV.cond ?_ ?_ (fun hc => ?_) (fun hc => ?_) <;> (try simp only [go_sem, Nat.reduceSub, reduceIte, Nat.reduceEqDiff, Nat.reduceLT, Nat.reduceMul, Nat.reduceAdd, Nat.reduceBEq, Nat.reduceLeDiff, Int.reduceLT, Int.reduceLE, Int.reduceNeg, Int.reduceBEq, Int.reduceBNe, Int.reduceToNat, beq_iff_eq, beq_eq_false_iff_ne] at hc) <;> (try simp only [go_sem, Nat.reduceSub, reduceIte, Nat.reduceEqDiff, Nat.reduceLT, Nat.reduceMul, Nat.reduceAdd, Nat.reduceBEq, Nat.reduceLeDiff, Int.reduceLT, Int.reduceLE, Int.reduceNeg, Int.reduceBEq, Int.reduceBNe, Int.reduceToNat]))
    | ((first | refine AV.skip ?_ | refine AV.exit ?_); simp only [go_sem, Nat.reduceSub, reduceIte, Nat.reduceEqDiff, Nat.reduceLT, Nat.reduceMul, Nat.reduceAdd, Nat.reduceBEq, Nat.reduceLeDiff, Int.reduceLT, Int.reduceLE, Int.reduceNeg, Int.reduceBEq, Int.reduceBNe, Int.reduceToNat])
    | ((first | refine ⟨_, _, clone37_spec t.enc (by omega), rfl, ?_⟩ | refine ⟨_, _, clone37_spec t.enc (by omega), ?_⟩ | refine ⟨_, _, fun _ => clone37_spec t.enc (by omega), rfl, fun _ => trivial, ?_⟩ | refine ⟨_, _, check38_spec t.enc (by omega), rfl, ?_⟩ | refine ⟨_, _, check38_spec t.enc (by omega), ?_⟩ | refine ⟨_, _, fun _ => check38_spec t.enc (by omega), rfl, fun _ => trivial, ?_⟩); (try simp only [go_sem, Nat.reduceSub, reduceIte, Nat.reduceEqDiff, Nat.reduceLT, Nat.reduceMul, Nat.reduceAdd, Nat.reduceBEq, Nat.reduceLeDiff, Int.reduceLT, Int.reduceLE, Int.reduceNeg, Int.reduceBEq, Int.reduceBNe, Int.reduceToNat, rxT, List.length_map, hk]); repeat (simp (disch := omega) only [wrap_small, getD_map_lt]; try simp only [go_sem, Nat.reduceSub, reduceIte, Nat.reduceEqDiff, Nat.reduceLT, Nat.reduceMul, Nat.reduceAdd, Nat.reduceBEq, Nat.reduceLeDiff, Int.reduceLT, Int.reduceLE, Int.reduceNeg, Int.reduceBEq, Int.reduceBNe, Int.reduceToNat, rxT, List.length_map, hk]))
    | ((first | refine ⟨.sh, .bool false, rfl, trivial, ?_⟩ | refine ⟨.sh, .bool false, rfl, ?_⟩); try simp only [go_sem, Nat.reduceSub, reduceIte, Nat.reduceEqDiff, Nat.reduceLT, Nat.reduceMul, Nat.reduceAdd, Nat.reduceBEq, Nat.reduceLeDiff, Int.reduceLT, Int.reduceLE, Int.reduceNeg, Int.reduceBEq, Int.reduceBNe, Int.reduceToNat])
    | (refine AV.ret ?_; (try simp only [go_sem, Nat.reduceSub, reduceIte, Nat.reduceEqDiff, Nat.reduceLT, Nat.reduceMul, Nat.reduceAdd, Nat.reduceBEq, Nat.reduceLeDiff, Int.reduceLT, Int.reduceLE, Int.reduceNeg, Int.reduceBEq, Int.reduceBNe, Int.reduceToNat]); first | refine atEnd_t (by simp only [go_sem, Nat.reduceSub, reduceIte, Nat.reduceEqDiff, Nat.reduceLT, Nat.reduceMul, Nat.reduceAdd, Nat.reduceBEq, Nat.reduceLeDiff, Int.reduceLT, Int.reduceLE, Int.reduceNeg, Int.reduceBEq, Int.reduceBNe, Int.reduceToNat] <;> rfl) ?_ (by first | (simp [rxT]; done) | exact leftT_tup _) | refine atEnd_c (by simp only [go_sem, Nat.reduceSub, reduceIte, Nat.reduceEqDiff, Nat.reduceLT, Nat.reduceMul, Nat.reduceAdd, Nat.reduceBEq, Nat.reduceLeDiff, Int.reduceLT, Int.reduceLE, Int.reduceNeg, Int.reduceBEq, Int.reduceBNe, Int.reduceToNat] <;> rfl) ?_ (by first | (simp [rxT]; done) | exact leftT_tup _) | refine atEnd_ct (by simp only [go_sem, Nat.reduceSub, reduceIte, Nat.reduceEqDiff, Nat.reduceLT, Nat.reduceMul, Nat.reduceAdd, Nat.reduceBEq, Nat.reduceLeDiff, Int.reduceLT, Int.reduceLE, Int.reduceNeg, Int.reduceBEq, Int.reduceBNe, Int.reduceToNat] <;> rfl) ?_ (by first | (simp; done) | exact leftT_tup _) (by simp only [go_sem, Nat.reduceSub, reduceIte, Nat.reduceEqDiff, Nat.reduceLT, Nat.reduceMul, Nat.reduceAdd, Nat.reduceBEq, Nat.reduceLeDiff, Int.reduceLT, Int.reduceLE, Int.reduceNeg, Int.reduceBEq, Int.reduceBNe, Int.reduceToNat] <;> rfl) ?_ (by simp) | refine atEnd_o (by simp only [go_sem, Nat.reduceSub, reduceIte, Nat.reduceEqDiff, Nat.reduceLT, Nat.reduceMul, Nat.reduceAdd, Nat.reduceBEq, Nat.reduceLeDiff, Int.reduceLT, Int.reduceLE, Int.reduceNeg, Int.reduceBEq, Int.reduceBNe, Int.reduceToNat] <;> rfl) ?_)
    | (refine And.intro ?_ ?_)
    | (with_reducible intro _)
  all_goals try first | exact True.intro | omega | exact ⟨_, _, rfl⟩ | exact allSolid_pcs _ | exact allSolid_one _ | exact allSolid_bool _ | rfl
  refine AV.loopK [1, 2, 6, 8, 19, 20] (by simp only [hN]; decide) (n := w.size) (thr9I most R w) ?_ ⟨0, t, by omega, by omega, hR.symm, by simp only [go_sem, Nat.reduceSub, reduceIte, Nat.reduceEqDiff, Nat.reduceLT, Nat.reduceMul, Nat.reduceAdd, Nat.reduceBEq, Nat.reduceLeDiff, Int.reduceLT, Int.reduceLE, Int.reduceNeg, Int.reduceBEq, Int.reduceBNe, Int.reduceToNat] <;> rfl⟩
  clear hR
  rintro m σ ⟨i, x, h1, h2, h3, rfl⟩
  by_cases hi : i < w.size
  · have hd := bytesOf_at w i hi
    have hc := byte_lt w i
    obtain ⟨c, hce⟩ : ∃ c, (w.data.toList.getD i 0).toNat = c := ⟨_, rfl⟩
    rw [hce] at hd hc
    have hD := derive39_spec c hc x h2
    rw [hd, thr] at h3
    cases hx : der c x with
    | none =>
      rw [hx] at h3
      simp only at h3
      subst h3
      repeat' first
        | refine AV.seq ?_
        | refine AV.block ?_
        | ((first | refine AV.reg ?_ | refine AV.regD mixed ?_); simp only [hN, c9R0, c9R1, c9R2, c9R3, c9R4, c9R5, c9R6, c9R7, c9R8, c9R9, c9R10, c9R11, c9R12, rxT, List.length_map, leftT, hx, hce, oe, Option.isNone_none, Option.isNone_some, go_sem, Nat.reduceSub, reduceIte, Nat.reduceEqDiff, Nat.reduceLT, Nat.reduceMul, Nat.reduceAdd, Nat.reduceBEq, Nat.reduceLeDiff, Int.reduceLT, Int.reduceLE, Int.reduceNeg, Int.reduceBEq, Int.reduceBNe, Int.reduceToNat]; repeat (simp (disch := omega) only [wrap_small, getD_map_lt]; try simp only [go_sem, Nat.reduceSub, reduceIte, Nat.reduceEqDiff, Nat.reduceLT, Nat.reduceMul, Nat.reduceAdd, Nat.reduceBEq, Nat.reduceLeDiff, Int.reduceLT, Int.reduceLE, Int.reduceNeg, Int.reduceBEq, Int.reduceBNe, Int.reduceToNat, rxT, List.length_map, leftT, hx, hce, oe, Option.isNone_none, Option.isNone_some]))
        | (refine AV.cond ?_ ?_ (fun hc => ?_) (fun hc => ?_) <;> (try simp only [go_sem, Nat.reduceSub, reduceIte, Nat.reduceEqDiff, Nat.reduceLT, Nat.reduceMul, Nat.reduceAdd, Nat.reduceBEq, Nat.reduceLeDiff, Int.reduceLT, Int.reduceLE, Int.reduceNeg, Int.reduceBEq, Int.reduceBNe, Int.reduceToNat, beq_iff_eq, beq_eq_false_iff_ne] at hc) <;> (try simp only [go_sem, Nat.reduceSub, reduceIte, Nat.reduceEqDiff, Nat.reduceLT, Nat.reduceMul, Nat.reduceAdd, Nat.reduceBEq, Nat.reduceLeDiff, Int.reduceLT, Int.reduceLE, Int.reduceNeg, Int.reduceBEq, Int.reduceBNe, Int.reduceToNat]))
        | ((first | refine AV.skip ?_ | refine AV.exit ?_); simp only [go_sem, Nat.reduceSub, reduceIte, Nat.reduceEqDiff, Nat.reduceLT, Nat.reduceMul, Nat.reduceAdd, Nat.reduceBEq, Nat.reduceLeDiff, Int.reduceLT, Int.reduceLE, Int.reduceNeg, Int.reduceBEq, Int.reduceBNe, Int.reduceToNat])
        | ((first | refine ⟨_, _, hD, rfl, ?_⟩ | refine ⟨_, _, hD, ?_⟩ | refine ⟨_, _, fun _ => hD, rfl, fun _ => trivial, ?_⟩); (try simp only [go_sem, Nat.reduceSub, reduceIte, Nat.reduceEqDiff, Nat.reduceLT, Nat.reduceMul, Nat.reduceAdd, Nat.reduceBEq, Nat.reduceLeDiff, Int.reduceLT, Int.reduceLE, Int.reduceNeg, Int.reduceBEq, Int.reduceBNe, Int.reduceToNat, rxT, List.length_map, leftT, hx, hce, oe, Option.isNone_none, Option.isNone_some]); repeat (simp (disch := omega) only [wrap_small, getD_map_lt]; try simp only [go_sem, Nat.reduceSub, reduceIte, Nat.reduceEqDiff, Nat.reduceLT, Nat.reduceMul, Nat.reduceAdd, Nat.reduceBEq, Nat.reduceLeDiff, Int.reduceLT, Int.reduceLE, Int.reduceNeg, Int.reduceBEq, Int.reduceBNe, Int.reduceToNat, rxT, List.length_map, leftT, hx, hce, oe, Option.isNone_none, Option.isNone_some]))
        | ((first | refine ⟨.sh, .bool false, rfl, trivial, ?_⟩ | refine ⟨.sh, .bool false, rfl, ?_⟩); try simp only [go_sem, Nat.reduceSub, reduceIte, Nat.reduceEqDiff, Nat.reduceLT, Nat.reduceMul, Nat.reduceAdd, Nat.reduceBEq, Nat.reduceLeDiff, Int.reduceLT, Int.reduceLE, Int.reduceNeg, Int.reduceBEq, Int.reduceBNe, Int.reduceToNat])
        | (refine AV.ret ?_; (try simp only [go_sem, Nat.reduceSub, reduceIte, Nat.reduceEqDiff, Nat.reduceLT, Nat.reduceMul, Nat.reduceAdd, Nat.reduceBEq, Nat.reduceLeDiff, Int.reduceLT, Int.reduceLE, Int.reduceNeg, Int.reduceBEq, Int.reduceBNe, Int.reduceToNat]); first | refine atEnd_t (by simp only [go_sem, Nat.reduceSub, reduceIte, Nat.reduceEqDiff, Nat.reduceLT, Nat.reduceMul, Nat.reduceAdd, Nat.reduceBEq, Nat.reduceLeDiff, Int.reduceLT, Int.reduceLE, Int.reduceNeg, Int.reduceBEq, Int.reduceBNe, Int.reduceToNat] <;> rfl) ?_ (by first | (simp [rxT]; done) | exact leftT_tup _) | refine atEnd_c (by simp only [go_sem, Nat.reduceSub, reduceIte, Nat.reduceEqDiff, Nat.reduceLT, Nat.reduceMul, Nat.reduceAdd, Nat.reduceBEq, Nat.reduceLeDiff, Int.reduceLT, Int.reduceLE, Int.reduceNeg, Int.reduceBEq, Int.reduceBNe, Int.reduceToNat] <;> rfl) ?_ (by first | (simp [rxT]; done) | exact leftT_tup _) | refine atEnd_ct (by simp only [go_sem, Nat.reduceSub, reduceIte, Nat.reduceEqDiff, Nat.reduceLT, Nat.reduceMul, Nat.reduceAdd, Nat.reduceBEq, Nat.reduceLeDiff, Int.reduceLT, Int.reduceLE, Int.reduceNeg, Int.reduceBEq, Int.reduceBNe, Int.reduceToNat] <;> rfl) ?_ (by first | (simp; done) | exact leftT_tup _) (by simp only [go_sem, Nat.reduceSub, reduceIte, Nat.reduceEqDiff, Nat.reduceLT, Nat.reduceMul, Nat.reduceAdd, Nat.reduceBEq, Nat.reduceLeDiff, Int.reduceLT, Int.reduceLE, Int.reduceNeg, Int.reduceBEq, Int.reduceBNe, Int.reduceToNat] <;> rfl) ?_ (by simp) | refine atEnd_o (by simp only [go_sem, Nat.reduceSub, reduceIte, Nat.reduceEqDiff, Nat.reduceLT, Nat.reduceMul, Nat.reduceAdd, Nat.reduceBEq, Nat.reduceLeDiff, Int.reduceLT, Int.reduceLE, Int.reduceNeg, Int.reduceBEq, Int.reduceBNe, Int.reduceToNat] <;> rfl) ?_)
        | (refine And.intro ?_ ?_)
        | (with_reducible intro _)
      all_goals try first | exact True.intro | omega | exact ⟨_, _, rfl⟩ | exact allSolid_pcs _ | exact allSolid_one _ | exact allSolid_bool _ | rfl
    | some y =>
      rw [hx] at h3
      simp only at h3
      by_cases hy : (y.enc.length : Int) > most
      · rw [if_pos hy] at h3
        subst h3
        have hyb : decide ((y.enc.length : Int) > most) = true := by simpa using hy
        repeat' first
          | refine AV.seq ?_
          | refine AV.block ?_
          | ((first | refine AV.reg ?_ | refine AV.regD mixed ?_); simp only [hN, c9R0, c9R1, c9R2, c9R3, c9R4, c9R5, c9R6, c9R7, c9R8, c9R9, c9R10, c9R11, c9R12, rxT, List.length_map, leftT, hx, hce, oe, Option.isNone_none, Option.isNone_some, hyb, go_sem, Nat.reduceSub, reduceIte, Nat.reduceEqDiff, Nat.reduceLT, Nat.reduceMul, Nat.reduceAdd, Nat.reduceBEq, Nat.reduceLeDiff, Int.reduceLT, Int.reduceLE, Int.reduceNeg, Int.reduceBEq, Int.reduceBNe, Int.reduceToNat]; repeat (simp (disch := omega) only [wrap_small, getD_map_lt]; try simp only [go_sem, Nat.reduceSub, reduceIte, Nat.reduceEqDiff, Nat.reduceLT, Nat.reduceMul, Nat.reduceAdd, Nat.reduceBEq, Nat.reduceLeDiff, Int.reduceLT, Int.reduceLE, Int.reduceNeg, Int.reduceBEq, Int.reduceBNe, Int.reduceToNat, rxT, List.length_map, leftT, hx, hce, oe, Option.isNone_none, Option.isNone_some, hyb]))
          | (refine AV.cond ?_ ?_ (fun hc => ?_) (fun hc => ?_) <;> (try simp only [go_sem, Nat.reduceSub, reduceIte, Nat.reduceEqDiff, Nat.reduceLT, Nat.reduceMul, Nat.reduceAdd, Nat.reduceBEq, Nat.reduceLeDiff, Int.reduceLT, Int.reduceLE, Int.reduceNeg, Int.reduceBEq, Int.reduceBNe, Int.reduceToNat, beq_iff_eq, beq_eq_false_iff_ne] at hc) <;> (try simp only [go_sem, Nat.reduceSub, reduceIte, Nat.reduceEqDiff, Nat.reduceLT, Nat.reduceMul, Nat.reduceAdd, Nat.reduceBEq, Nat.reduceLeDiff, Int.reduceLT, Int.reduceLE, Int.reduceNeg, Int.reduceBEq, Int.reduceBNe, Int.reduceToNat]))
          | ((first | refine AV.skip ?_ | refine AV.exit ?_); simp only [go_sem, Nat.reduceSub, reduceIte, Nat.reduceEqDiff, Nat.reduceLT, Nat.reduceMul, Nat.reduceAdd, Nat.reduceBEq, Nat.reduceLeDiff, Int.reduceLT, Int.reduceLE, Int.reduceNeg, Int.reduceBEq, Int.reduceBNe, Int.reduceToNat])
          | ((first | refine ⟨_, _, hD, rfl, ?_⟩ | refine ⟨_, _, hD, ?_⟩ | refine ⟨_, _, fun _ => hD, rfl, fun _ => trivial, ?_⟩); (try simp only [go_sem, Nat.reduceSub, reduceIte, Nat.reduceEqDiff, Nat.reduceLT, Nat.reduceMul, Nat.reduceAdd, Nat.reduceBEq, Nat.reduceLeDiff, Int.reduceLT, Int.reduceLE, Int.reduceNeg, Int.reduceBEq, Int.reduceBNe, Int.reduceToNat, rxT, List.length_map, leftT, hx, hce, oe, Option.isNone_none, Option.isNone_some, hyb]); repeat (simp (disch := omega) only [wrap_small, getD_map_lt]; try simp only [go_sem, Nat.reduceSub, reduceIte, Nat.reduceEqDiff, Nat.reduceLT, Nat.reduceMul, Nat.reduceAdd, Nat.reduceBEq, Nat.reduceLeDiff, Int.reduceLT, Int.reduceLE, Int.reduceNeg, Int.reduceBEq, Int.reduceBNe, Int.reduceToNat, rxT, List.length_map, leftT, hx, hce, oe, Option.isNone_none, Option.isNone_some, hyb]))
          | ((first | refine ⟨.sh, .bool false, rfl, trivial, ?_⟩ | refine ⟨.sh, .bool false, rfl, ?_⟩); try simp only [go_sem, Nat.reduceSub, reduceIte, Nat.reduceEqDiff, Nat.reduceLT, Nat.reduceMul, Nat.reduceAdd, Nat.reduceBEq, Nat.reduceLeDiff, Int.reduceLT, Int.reduceLE, Int.reduceNeg, Int.reduceBEq, Int.reduceBNe, Int.reduceToNat])
          | (refine AV.ret ?_; (try simp only [go_sem, Nat.reduceSub, reduceIte, Nat.reduceEqDiff, Nat.reduceLT, Nat.reduceMul, Nat.reduceAdd, Nat.reduceBEq, Nat.reduceLeDiff, Int.reduceLT, Int.reduceLE, Int.reduceNeg, Int.reduceBEq, Int.reduceBNe, Int.reduceToNat]); first | refine atEnd_t (by simp only [go_sem, Nat.reduceSub, reduceIte, Nat.reduceEqDiff, Nat.reduceLT, Nat.reduceMul, Nat.reduceAdd, Nat.reduceBEq, Nat.reduceLeDiff, Int.reduceLT, Int.reduceLE, Int.reduceNeg, Int.reduceBEq, Int.reduceBNe, Int.reduceToNat] <;> rfl) ?_ (by first | (simp [rxT]; done) | exact leftT_tup _) | refine atEnd_c (by simp only [go_sem, Nat.reduceSub, reduceIte, Nat.reduceEqDiff, Nat.reduceLT, Nat.reduceMul, Nat.reduceAdd, Nat.reduceBEq, Nat.reduceLeDiff, Int.reduceLT, Int.reduceLE, Int.reduceNeg, Int.reduceBEq, Int.reduceBNe, Int.reduceToNat] <;> rfl) ?_ (by first | (simp [rxT]; done) | exact leftT_tup _) | refine atEnd_ct (by simp only [go_sem, Nat.reduceSub, reduceIte, Nat.reduceEqDiff, Nat.reduceLT, Nat.reduceMul, Nat.reduceAdd, Nat.reduceBEq, Nat.reduceLeDiff, Int.reduceLT, Int.reduceLE, Int.reduceNeg, Int.reduceBEq, Int.reduceBNe, Int.reduceToNat] <;> rfl) ?_ (by first | (simp; done) | exact leftT_tup _) (by simp only [go_sem, Nat.reduceSub, reduceIte, Nat.reduceEqDiff, Nat.reduceLT, Nat.reduceMul, Nat.reduceAdd, Nat.reduceBEq, Nat.reduceLeDiff, Int.reduceLT, Int.reduceLE, Int.reduceNeg, Int.reduceBEq, Int.reduceBNe, Int.reduceToNat] <;> rfl) ?_ (by simp) | refine atEnd_o (by simp only [go_sem, Nat.reduceSub, reduceIte, Nat.reduceEqDiff, Nat.reduceLT, Nat.reduceMul, Nat.reduceAdd, Nat.reduceBEq, Nat.reduceLeDiff, Int.reduceLT, Int.reduceLE, Int.reduceNeg, Int.reduceBEq, Int.reduceBNe, Int.reduceToNat] <;> rfl) ?_)
          | (refine And.intro ?_ ?_)
          | (with_reducible intro _)
        all_goals try first | exact True.intro | omega | exact ⟨_, _, rfl⟩ | exact allSolid_pcs _ | exact allSolid_one _ | exact allSolid_bool _ | rfl
      · rw [if_neg hy] at h3
        have hyb : decide ((y.enc.length : Int) > most) = false := by simpa using hy
        repeat' first
          | refine AV.seq ?_
          | refine AV.block ?_
          | ((first | refine AV.reg ?_ | refine AV.regD mixed ?_); simp only [hN, c9R0, c9R1, c9R2, c9R3, c9R4, c9R5, c9R6, c9R7, c9R8, c9R9, c9R10, c9R11, c9R12, rxT, List.length_map, leftT, hx, hce, oe, Option.isNone_none, Option.isNone_some, hyb, go_sem, Nat.reduceSub, reduceIte, Nat.reduceEqDiff, Nat.reduceLT, Nat.reduceMul, Nat.reduceAdd, Nat.reduceBEq, Nat.reduceLeDiff, Int.reduceLT, Int.reduceLE, Int.reduceNeg, Int.reduceBEq, Int.reduceBNe, Int.reduceToNat]; repeat (simp (disch := omega) only [wrap_small, getD_map_lt]; try simp only [go_sem, Nat.reduceSub, reduceIte, Nat.reduceEqDiff, Nat.reduceLT, Nat.reduceMul, Nat.reduceAdd, Nat.reduceBEq, Nat.reduceLeDiff, Int.reduceLT, Int.reduceLE, Int.reduceNeg, Int.reduceBEq, Int.reduceBNe, Int.reduceToNat, rxT, List.length_map, leftT, hx, hce, oe, Option.isNone_none, Option.isNone_some, hyb]))
          | (refine AV.cond ?_ ?_ (fun hc => ?_) (fun hc => ?_) <;> (try simp only [go_sem, Nat.reduceSub, reduceIte, Nat.reduceEqDiff, Nat.reduceLT, Nat.reduceMul, Nat.reduceAdd, Nat.reduceBEq, Nat.reduceLeDiff, Int.reduceLT, Int.reduceLE, Int.reduceNeg, Int.reduceBEq, Int.reduceBNe, Int.reduceToNat, beq_iff_eq, beq_eq_false_iff_ne] at hc) <;> (try simp only [go_sem, Nat.reduceSub, reduceIte, Nat.reduceEqDiff, Nat.reduceLT, Nat.reduceMul, Nat.reduceAdd, Nat.reduceBEq, Nat.reduceLeDiff, Int.reduceLT, Int.reduceLE, Int.reduceNeg, Int.reduceBEq, Int.reduceBNe, Int.reduceToNat]))
          | ((first | refine AV.skip ?_ | refine AV.exit ?_); simp only [go_sem, Nat.reduceSub, reduceIte, Nat.reduceEqDiff, Nat.reduceLT, Nat.reduceMul, Nat.reduceAdd, Nat.reduceBEq, Nat.reduceLeDiff, Int.reduceLT, Int.reduceLE, Int.reduceNeg, Int.reduceBEq, Int.reduceBNe, Int.reduceToNat])
          | ((first | refine ⟨_, _, hD, rfl, ?_⟩ | refine ⟨_, _, hD, ?_⟩ | refine ⟨_, _, fun _ => hD, rfl, fun _ => trivial, ?_⟩); (try simp only [go_sem, Nat.reduceSub, reduceIte, Nat.reduceEqDiff, Nat.reduceLT, Nat.reduceMul, Nat.reduceAdd, Nat.reduceBEq, Nat.reduceLeDiff, Int.reduceLT, Int.reduceLE, Int.reduceNeg, Int.reduceBEq, Int.reduceBNe, Int.reduceToNat, rxT, List.length_map, leftT, hx, hce, oe, Option.isNone_none, Option.isNone_some, hyb]); repeat (simp (disch := omega) only [wrap_small, getD_map_lt]; try simp only [go_sem, Nat.reduceSub, reduceIte, Nat.reduceEqDiff, Nat.reduceLT, Nat.reduceMul, Nat.reduceAdd, Nat.reduceBEq, Nat.reduceLeDiff, Int.reduceLT, Int.reduceLE, Int.reduceNeg, Int.reduceBEq, Int.reduceBNe, Int.reduceToNat, rxT, List.length_map, leftT, hx, hce, oe, Option.isNone_none, Option.isNone_some, hyb]))
          | ((first | refine ⟨.sh, .bool false, rfl, trivial, ?_⟩ | refine ⟨.sh, .bool false, rfl, ?_⟩); try simp only [go_sem, Nat.reduceSub, reduceIte, Nat.reduceEqDiff, Nat.reduceLT, Nat.reduceMul, Nat.reduceAdd, Nat.reduceBEq, Nat.reduceLeDiff, Int.reduceLT, Int.reduceLE, Int.reduceNeg, Int.reduceBEq, Int.reduceBNe, Int.reduceToNat])
          | (refine AV.ret ?_; (try simp only [go_sem, Nat.reduceSub, reduceIte, Nat.reduceEqDiff, Nat.reduceLT, Nat.reduceMul, Nat.reduceAdd, Nat.reduceBEq, Nat.reduceLeDiff, Int.reduceLT, Int.reduceLE, Int.reduceNeg, Int.reduceBEq, Int.reduceBNe, Int.reduceToNat]); first | refine atEnd_t (by simp only [go_sem, Nat.reduceSub, reduceIte, Nat.reduceEqDiff, Nat.reduceLT, Nat.reduceMul, Nat.reduceAdd, Nat.reduceBEq, Nat.reduceLeDiff, Int.reduceLT, Int.reduceLE, Int.reduceNeg, Int.reduceBEq, Int.reduceBNe, Int.reduceToNat] <;> rfl) ?_ (by first | (simp [rxT]; done) | exact leftT_tup _) | refine atEnd_c (by simp only [go_sem, Nat.reduceSub, reduceIte, Nat.reduceEqDiff, Nat.reduceLT, Nat.reduceMul, Nat.reduceAdd, Nat.reduceBEq, Nat.reduceLeDiff, Int.reduceLT, Int.reduceLE, Int.reduceNeg, Int.reduceBEq, Int.reduceBNe, Int.reduceToNat] <;> rfl) ?_ (by first | (simp [rxT]; done) | exact leftT_tup _) | refine atEnd_ct (by simp only [go_sem, Nat.reduceSub, reduceIte, Nat.reduceEqDiff, Nat.reduceLT, Nat.reduceMul, Nat.reduceAdd, Nat.reduceBEq, Nat.reduceLeDiff, Int.reduceLT, Int.reduceLE, Int.reduceNeg, Int.reduceBEq, Int.reduceBNe, Int.reduceToNat] <;> rfl) ?_ (by first | (simp; done) | exact leftT_tup _) (by simp only [go_sem, Nat.reduceSub, reduceIte, Nat.reduceEqDiff, Nat.reduceLT, Nat.reduceMul, Nat.reduceAdd, Nat.reduceBEq, Nat.reduceLeDiff, Int.reduceLT, Int.reduceLE, Int.reduceNeg, Int.reduceBEq, Int.reduceBNe, Int.reduceToNat] <;> rfl) ?_ (by simp) | refine atEnd_o (by simp only [go_sem, Nat.reduceSub, reduceIte, Nat.reduceEqDiff, Nat.reduceLT, Nat.reduceMul, Nat.reduceAdd, Nat.reduceBEq, Nat.reduceLeDiff, Int.reduceLT, Int.reduceLE, Int.reduceNeg, Int.reduceBEq, Int.reduceBNe, Int.reduceToNat] <;> rfl) ?_)
          | (refine And.intro ?_ ?_)
          | (with_reducible intro _)
        all_goals try first | exact True.intro | omega | exact ⟨_, _, rfl⟩ | exact allSolid_pcs _ | exact allSolid_one _ | exact allSolid_bool _ | rfl
        exact ⟨m - 1, by omega, i + 1, y, by omega, by omega, h3, rfl⟩
  · have hnil : (bytesOf w).drop i = [] := List.drop_eq_nil_of_le (by rw [bytesOf_length]; omega)
    rw [hnil, thr] at h3
    subst h3
    have hiw : i = w.size := by omega
    subst hiw
    repeat' first
      | refine AV.seq ?_
      | refine AV.block ?_
      | ((first | refine AV.reg ?_ | refine AV.regD mixed ?_); simp only [hN, c9R0, c9R1, c9R2, c9R3, c9R4, c9R5, c9R6, c9R7, c9R8, c9R9, c9R10, c9R11, c9R12, rxT, List.length_map, leftT, oe, Option.isNone_none, Option.isNone_some, go_sem, Nat.reduceSub, reduceIte, Nat.reduceEqDiff, Nat.reduceLT, Nat.reduceMul, Nat.reduceAdd, Nat.reduceBEq, Nat.reduceLeDiff, Int.reduceLT, Int.reduceLE, Int.reduceNeg, Int.reduceBEq, Int.reduceBNe, Int.reduceToNat]; repeat (simp (disch := omega) only [wrap_small, getD_map_lt]; try simp only [go_sem, Nat.reduceSub, reduceIte, Nat.reduceEqDiff, Nat.reduceLT, Nat.reduceMul, Nat.reduceAdd, Nat.reduceBEq, Nat.reduceLeDiff, Int.reduceLT, Int.reduceLE, Int.reduceNeg, Int.reduceBEq, Int.reduceBNe, Int.reduceToNat, rxT, List.length_map, leftT, oe, Option.isNone_none, Option.isNone_some]))
      | (refine AV.cond ?_ ?_ (fun hc => ?_) (fun hc => ?_) <;> (try simp only [go_sem, Nat.reduceSub, reduceIte, Nat.reduceEqDiff, Nat.reduceLT, Nat.reduceMul, Nat.reduceAdd, Nat.reduceBEq, Nat.reduceLeDiff, Int.reduceLT, Int.reduceLE, Int.reduceNeg, Int.reduceBEq, Int.reduceBNe, Int.reduceToNat, beq_iff_eq, beq_eq_false_iff_ne] at hc) <;> (try simp only [go_sem, Nat.reduceSub, reduceIte, Nat.reduceEqDiff, Nat.reduceLT, Nat.reduceMul, Nat.reduceAdd, Nat.reduceBEq, Nat.reduceLeDiff, Int.reduceLT, Int.reduceLE, Int.reduceNeg, Int.reduceBEq, Int.reduceBNe, Int.reduceToNat]))
      | ((first | refine AV.skip ?_ | refine AV.exit ?_); simp only [go_sem, Nat.reduceSub, reduceIte, Nat.reduceEqDiff, Nat.reduceLT, Nat.reduceMul, Nat.reduceAdd, Nat.reduceBEq, Nat.reduceLeDiff, Int.reduceLT, Int.reduceLE, Int.reduceNeg, Int.reduceBEq, Int.reduceBNe, Int.reduceToNat])
      | (refine AV.ret ?_; (try simp only [go_sem, Nat.reduceSub, reduceIte, Nat.reduceEqDiff, Nat.reduceLT, Nat.reduceMul, Nat.reduceAdd, Nat.reduceBEq, Nat.reduceLeDiff, Int.reduceLT, Int.reduceLE, Int.reduceNeg, Int.reduceBEq, Int.reduceBNe, Int.reduceToNat]); first | refine atEnd_t (by simp only [go_sem, Nat.reduceSub, reduceIte, Nat.reduceEqDiff, Nat.reduceLT, Nat.reduceMul, Nat.reduceAdd, Nat.reduceBEq, Nat.reduceLeDiff, Int.reduceLT, Int.reduceLE, Int.reduceNeg, Int.reduceBEq, Int.reduceBNe, Int.reduceToNat] <;> rfl) ?_ (by first | (simp [rxT]; done) | exact leftT_tup _) | refine atEnd_c (by simp only [go_sem, Nat.reduceSub, reduceIte, Nat.reduceEqDiff, Nat.reduceLT, Nat.reduceMul, Nat.reduceAdd, Nat.reduceBEq, Nat.reduceLeDiff, Int.reduceLT, Int.reduceLE, Int.reduceNeg, Int.reduceBEq, Int.reduceBNe, Int.reduceToNat] <;> rfl) ?_ (by first | (simp [rxT]; done) | exact leftT_tup _) | refine atEnd_ct (by simp only [go_sem, Nat.reduceSub, reduceIte, Nat.reduceEqDiff, Nat.reduceLT, Nat.reduceMul, Nat.reduceAdd, Nat.reduceBEq, Nat.reduceLeDiff, Int.reduceLT, Int.reduceLE, Int.reduceNeg, Int.reduceBEq, Int.reduceBNe, Int.reduceToNat] <;> rfl) ?_ (by first | (simp; done) | exact leftT_tup _) (by simp only [go_sem, Nat.reduceSub, reduceIte, Nat.reduceEqDiff, Nat.reduceLT, Nat.reduceMul, Nat.reduceAdd, Nat.reduceBEq, Nat.reduceLeDiff, Int.reduceLT, Int.reduceLE, Int.reduceNeg, Int.reduceBEq, Int.reduceBNe, Int.reduceToNat] <;> rfl) ?_ (by simp) | refine atEnd_o (by simp only [go_sem, Nat.reduceSub, reduceIte, Nat.reduceEqDiff, Nat.reduceLT, Nat.reduceMul, Nat.reduceAdd, Nat.reduceBEq, Nat.reduceLeDiff, Int.reduceLT, Int.reduceLE, Int.reduceNeg, Int.reduceBEq, Int.reduceBNe, Int.reduceToNat] <;> rfl) ?_)
      | (refine And.intro ?_ ?_)
      | (with_reducible intro _)
    all_goals try first | exact True.intro | omega | exact ⟨_, _, rfl⟩ | exact allSolid_pcs _ | exact allSolid_one _ | exact allSolid_bool _ | rfl
end Go.Proofs.Ytaefhdklkbohmaa
/- bosketref04.spans. -/
namespace Go.Proofs.Ytaefhdklkbohmaa
open Go Go.RowKit
set_option linter.unusedSimpArgs false
set_option maxRecDepth 20000
set_option maxHeartbeats 4000000
def thenB (f g : Nat → Nat → Bool) (a b : Nat) : Bool := (List.range (b + 1)).any fun k => decide (a ≤ k) && (f a k && g k b)
def orB (f g : Nat → Nat → Bool) (a b : Nat) : Bool := decide (a ≤ b) && (f a b || g a b)
def agB (f : Nat → Nat → Bool) : Nat → Nat → Nat → Bool
  | 0, a, b => decide (a = b)
  | m + 1, a, b => decide (a = b) || (List.range (b + 1)).any fun k => decide (a < k) && (f a k && agB f m k b)
def againB (f : Nat → Nat → Bool) (a b : Nat) : Bool := agB f (b - a) a b
def idB (a b : Nat) : Bool := decide (a = b)
def oneB (w : ByteArray) (s : S4) (a b : Nat) : Bool := decide (b = a + 1 ∧ a < w.size) && s.has (w.data.toList.getD a 0).toNat
theorem thenB_iff (f g : Nat → Nat → Bool) (a b : Nat) : thenB f g a b = true ↔ thenP f g a b := by
  unfold thenB thenP
  rw [List.any_eq_true]
  constructor
  · rintro ⟨k, h1, h2⟩
    rw [List.mem_range] at h1
    simp only [Bool.and_eq_true, decide_eq_true_eq] at h2
    exact ⟨k, h2.1, by omega, h2.2.1, h2.2.2⟩
  · rintro ⟨k, h1, h2, h3, h4⟩
    exact ⟨k, by rw [List.mem_range]; omega, by simp [h1, h3, h4]⟩
theorem agB_iff (f : Nat → Nat → Bool) : ∀ (m a b : Nat), b - a ≤ m → (agB f m a b = true ↔ AgP f a b)
  | 0, a, b, h => by
    rw [AgP.iff, agB, decide_eq_true_eq]
    constructor
    · exact .inl
    · rintro (h1 | ⟨k, h1, _, h3⟩)
      · exact h1
      · have := h3.le; omega
  | m + 1, a, b, h => by
    rw [AgP.iff, agB, Bool.or_eq_true, decide_eq_true_eq, List.any_eq_true]
    constructor
    · rintro (h1 | ⟨k, h1, h2⟩)
      · exact .inl h1
      · rw [List.mem_range] at h1
        simp only [Bool.and_eq_true, decide_eq_true_eq] at h2
        exact .inr ⟨k, h2.1, h2.2.1, (agB_iff f m k b (by omega)).1 h2.2.2⟩
    · rintro (h1 | ⟨k, h1, h2, h3⟩)
      · exact .inl h1
      · refine .inr ⟨k, by rw [List.mem_range]; have := h3.le; omega, ?_⟩
        simp [h1, h2, (agB_iff f m k b (by omega)).2 h3]
theorem againB_iff (f : Nat → Nat → Bool) (a b : Nat) : againB f a b = true ↔ AgP f a b := agB_iff f _ a b (Nat.le_refl _)
theorem orB_iff (f g : Nat → Nat → Bool) (a b : Nat) : orB f g a b = true ↔ a ≤ b ∧ (f a b = true ∨ g a b = true) := by simp [orB]
def spansB (w : ByteArray) (p : Pc) (l : List (Nat → Nat → Bool)) : Nat → Nat → Bool :=
  if p.kind = 1 then oneB w p.s else if p.kind = 2 then thenB (l.getD 0 idB) (l.getD 1 idB) else if p.kind = 3 then orB (l.getD 0 idB) (l.getD 1 idB) else if p.kind = 4 then againB (l.getD 0 idB)
  else if p.kind = 5 then thenB (l.getD 0 idB) (againB (l.getD 0 idB)) else if p.kind = 6 then orB idB (l.getD 0 idB) else idB
theorem spans41_0 (s : S4) (w : ByteArray) (hw : w.size ≤ 1000000) : ACalls Try.prog 41 [pcT ⟨0, s⟩, .sl 1 [], .str w] (.sl [.sl [.sh]]) (matT w.size (spansB w ⟨0, s⟩ [])) := by
  have e : spansB w ⟨0, s⟩ [] = fun a b => decide (a = b) := rfl
  rw [e]
  refine ACalls.of n41 rfl (m41 _ rfl) q41 (by simp only [List.length_cons, List.length_nil]; decide) (fun C hC => ?_)
  have hN : C.N = 83 := hC
  repeat' first
    | refine AV.seq ?_
    | refine AV.block ?_
    | ((first | refine AV.reg ?_ | refine AV.regD mixed ?_); simp only [hN, c41R0, c41R1, c41R2, c41R3, c41R4, c41R5, c41R7, c41R6, c41R8, c41R9, c41R10, c41R11, c41R12, c41R13, c41R14, c41R15, c41R16, c41R17, c41R18, c41R19, List.length_map, pcT, S4.ts, go_sem, Nat.reduceSub, reduceIte, Nat.reduceEqDiff, Nat.reduceLT, Nat.reduceMul, Nat.reduceAdd, Nat.reduceBEq, Nat.reduceLeDiff, Int.reduceLT, Int.reduceLE, Int.reduceNeg, Int.reduceBEq, Int.reduceBNe, Int.reduceToNat]; repeat (simp (disch := omega) only [wrap_small, getD_map_lt, getD_range]; try simp only [go_sem, Nat.reduceSub, reduceIte, Nat.reduceEqDiff, Nat.reduceLT, Nat.reduceMul, Nat.reduceAdd, Nat.reduceBEq, Nat.reduceLeDiff, Int.reduceLT, Int.reduceLE, Int.reduceNeg, Int.reduceBEq, Int.reduceBNe, Int.reduceToNat, List.length_map, pcT, S4.ts]))
    | (refine AV.cond ?_ ?_ (fun hc => ?_) (fun hc => ?_) <;> (try simp only [go_sem, Nat.reduceSub, reduceIte, Nat.reduceEqDiff, Nat.reduceLT, Nat.reduceMul, Nat.reduceAdd, Nat.reduceBEq, Nat.reduceLeDiff, Int.reduceLT, Int.reduceLE, Int.reduceNeg, Int.reduceBEq, Int.reduceBNe, Int.reduceToNat, beq_iff_eq, beq_eq_false_iff_ne] at hc) <;> (try simp only [go_sem, Nat.reduceSub, reduceIte, Nat.reduceEqDiff, Nat.reduceLT, Nat.reduceMul, Nat.reduceAdd, Nat.reduceBEq, Nat.reduceLeDiff, Int.reduceLT, Int.reduceLE, Int.reduceNeg, Int.reduceBEq, Int.reduceBNe, Int.reduceToNat]))
    | ((first | refine AV.skip ?_ | refine AV.exit ?_); simp only [go_sem, Nat.reduceSub, reduceIte, Nat.reduceEqDiff, Nat.reduceLT, Nat.reduceMul, Nat.reduceAdd, Nat.reduceBEq, Nat.reduceLeDiff, Int.reduceLT, Int.reduceLE, Int.reduceNeg, Int.reduceBEq, Int.reduceBNe, Int.reduceToNat])
    | ((first | refine ⟨_, _, empty83_spec w.size hw, rfl, ?_⟩ | refine ⟨_, _, empty83_spec w.size hw, ?_⟩ | refine ⟨_, _, fun _ => empty83_spec w.size hw, rfl, fun _ => trivial, ?_⟩); (try simp only [go_sem, Nat.reduceSub, reduceIte, Nat.reduceEqDiff, Nat.reduceLT, Nat.reduceMul, Nat.reduceAdd, Nat.reduceBEq, Nat.reduceLeDiff, Int.reduceLT, Int.reduceLE, Int.reduceNeg, Int.reduceBEq, Int.reduceBNe, Int.reduceToNat, List.length_map, pcT, S4.ts]); repeat (simp (disch := omega) only [wrap_small, getD_map_lt, getD_range]; try simp only [go_sem, Nat.reduceSub, reduceIte, Nat.reduceEqDiff, Nat.reduceLT, Nat.reduceMul, Nat.reduceAdd, Nat.reduceBEq, Nat.reduceLeDiff, Int.reduceLT, Int.reduceLE, Int.reduceNeg, Int.reduceBEq, Int.reduceBNe, Int.reduceToNat, List.length_map, pcT, S4.ts]))
    | ((first | refine ⟨.sh, .bool false, rfl, trivial, ?_⟩ | refine ⟨.sh, .bool false, rfl, ?_⟩); try simp only [go_sem, Nat.reduceSub, reduceIte, Nat.reduceEqDiff, Nat.reduceLT, Nat.reduceMul, Nat.reduceAdd, Nat.reduceBEq, Nat.reduceLeDiff, Int.reduceLT, Int.reduceLE, Int.reduceNeg, Int.reduceBEq, Int.reduceBNe, Int.reduceToNat])
    | (refine AV.ret ?_; (try simp only [go_sem, Nat.reduceSub, reduceIte, Nat.reduceEqDiff, Nat.reduceLT, Nat.reduceMul, Nat.reduceAdd, Nat.reduceBEq, Nat.reduceLeDiff, Int.reduceLT, Int.reduceLE, Int.reduceNeg, Int.reduceBEq, Int.reduceBNe, Int.reduceToNat]); first | refine atEnd_t (by simp only [go_sem, Nat.reduceSub, reduceIte, Nat.reduceEqDiff, Nat.reduceLT, Nat.reduceMul, Nat.reduceAdd, Nat.reduceBEq, Nat.reduceLeDiff, Int.reduceLT, Int.reduceLE, Int.reduceNeg, Int.reduceBEq, Int.reduceBNe, Int.reduceToNat] <;> rfl) ?_ (by first | (simp [rxT]; done) | exact leftT_tup _) | refine atEnd_c (by simp only [go_sem, Nat.reduceSub, reduceIte, Nat.reduceEqDiff, Nat.reduceLT, Nat.reduceMul, Nat.reduceAdd, Nat.reduceBEq, Nat.reduceLeDiff, Int.reduceLT, Int.reduceLE, Int.reduceNeg, Int.reduceBEq, Int.reduceBNe, Int.reduceToNat] <;> rfl) ?_ (by first | (simp [rxT]; done) | exact leftT_tup _) | refine atEnd_ct (by simp only [go_sem, Nat.reduceSub, reduceIte, Nat.reduceEqDiff, Nat.reduceLT, Nat.reduceMul, Nat.reduceAdd, Nat.reduceBEq, Nat.reduceLeDiff, Int.reduceLT, Int.reduceLE, Int.reduceNeg, Int.reduceBEq, Int.reduceBNe, Int.reduceToNat] <;> rfl) ?_ (by first | (simp; done) | exact leftT_tup _) (by simp only [go_sem, Nat.reduceSub, reduceIte, Nat.reduceEqDiff, Nat.reduceLT, Nat.reduceMul, Nat.reduceAdd, Nat.reduceBEq, Nat.reduceLeDiff, Int.reduceLT, Int.reduceLE, Int.reduceNeg, Int.reduceBEq, Int.reduceBNe, Int.reduceToNat] <;> rfl) ?_ (by simp) | refine atEnd_o (by simp only [go_sem, Nat.reduceSub, reduceIte, Nat.reduceEqDiff, Nat.reduceLT, Nat.reduceMul, Nat.reduceAdd, Nat.reduceBEq, Nat.reduceLeDiff, Int.reduceLT, Int.reduceLE, Int.reduceNeg, Int.reduceBEq, Int.reduceBNe, Int.reduceToNat] <;> rfl) ?_)
    | (refine And.intro ?_ ?_)
    | (with_reducible intro _)
  all_goals try first | exact True.intro | omega | exact ⟨_, _, rfl⟩ | exact allSolid_pcs _ | exact allSolid_one _ | exact allSolid_bool _ | rfl
theorem toNat_succ (i : Nat) : ((i : Int) + 1).toNat = i + 1 := by omega
def one41I (w : ByteArray) (s : S4) (m : Nat) (σ : Env) : Prop := ∃ (i : Nat) (h : Nat → Nat → Bool), i + m = w.size ∧ (∀ a b, a ≤ w.size → b ≤ w.size → (h a b = true ↔ a < i ∧ oneB w s a b = true)) ∧
  σ = [(2, .t (.str w)), (3, .own (.box [.sh, .sh, .sh, .sh, .sh]) (.agg (.int .i64 1 :: s.ts))), (7, .own (.sl [.sl [.sh]]) (matT w.size h)), (8, .t (.int .i64 (i : Int)))]
theorem spans41_1 (s : S4) (w : ByteArray) (hw : w.size ≤ 1000000) : ACalls Try.prog 41 [pcT ⟨1, s⟩, .sl 1 [], .str w] (.sl [.sl [.sh]]) (matT w.size (spansB w ⟨1, s⟩ [])) := by
  have e : spansB w ⟨1, s⟩ [] = oneB w s := rfl
  rw [e]
  refine ACalls.of n41 rfl (m41 _ rfl) q41 (by simp only [List.length_cons, List.length_nil]; decide) (fun C hC => ?_)
  have hN : C.N = 83 := hC
  repeat' first
    | refine AV.seq ?_
    | refine AV.block ?_
    | ((first | refine AV.reg ?_ | refine AV.regD mixed ?_); simp only [hN, c41R0, c41R1, c41R2, c41R3, c41R4, c41R5, c41R7, c41R6, c41R8, c41R9, c41R10, c41R11, c41R12, c41R13, c41R14, c41R15, c41R16, c41R17, c41R18, c41R19, List.length_map, pcT, S4.ts, go_sem, Nat.reduceSub, reduceIte, Nat.reduceEqDiff, Nat.reduceLT, Nat.reduceMul, Nat.reduceAdd, Nat.reduceBEq, Nat.reduceLeDiff, Int.reduceLT, Int.reduceLE, Int.reduceNeg, Int.reduceBEq, Int.reduceBNe, Int.reduceToNat]; repeat (simp (disch := omega) only [wrap_small, getD_map_lt, getD_range]; try simp only [go_sem, Nat.reduceSub, reduceIte, Nat.reduceEqDiff, Nat.reduceLT, Nat.reduceMul, Nat.reduceAdd, Nat.reduceBEq, Nat.reduceLeDiff, Int.reduceLT, Int.reduceLE, Int.reduceNeg, Int.reduceBEq, Int.reduceBNe, Int.reduceToNat, List.length_map, pcT, S4.ts]))
    | (refine AV.cond ?_ ?_ (fun hc => ?_) (fun hc => ?_) <;> (try simp only [go_sem, Nat.reduceSub, reduceIte, Nat.reduceEqDiff, Nat.reduceLT, Nat.reduceMul, Nat.reduceAdd, Nat.reduceBEq, Nat.reduceLeDiff, Int.reduceLT, Int.reduceLE, Int.reduceNeg, Int.reduceBEq, Int.reduceBNe, Int.reduceToNat, beq_iff_eq, beq_eq_false_iff_ne] at hc) <;> (try simp only [go_sem, Nat.reduceSub, reduceIte, Nat.reduceEqDiff, Nat.reduceLT, Nat.reduceMul, Nat.reduceAdd, Nat.reduceBEq, Nat.reduceLeDiff, Int.reduceLT, Int.reduceLE, Int.reduceNeg, Int.reduceBEq, Int.reduceBNe, Int.reduceToNat]))
    | ((first | refine AV.skip ?_ | refine AV.exit ?_); simp only [go_sem, Nat.reduceSub, reduceIte, Nat.reduceEqDiff, Nat.reduceLT, Nat.reduceMul, Nat.reduceAdd, Nat.reduceBEq, Nat.reduceLeDiff, Int.reduceLT, Int.reduceLE, Int.reduceNeg, Int.reduceBEq, Int.reduceBNe, Int.reduceToNat])
    | ((first | refine ⟨_, _, none79_spec w.size hw, rfl, ?_⟩ | refine ⟨_, _, none79_spec w.size hw, ?_⟩ | refine ⟨_, _, fun _ => none79_spec w.size hw, rfl, fun _ => trivial, ?_⟩); (try simp only [go_sem, Nat.reduceSub, reduceIte, Nat.reduceEqDiff, Nat.reduceLT, Nat.reduceMul, Nat.reduceAdd, Nat.reduceBEq, Nat.reduceLeDiff, Int.reduceLT, Int.reduceLE, Int.reduceNeg, Int.reduceBEq, Int.reduceBNe, Int.reduceToNat, List.length_map, pcT, S4.ts]); repeat (simp (disch := omega) only [wrap_small, getD_map_lt, getD_range]; try simp only [go_sem, Nat.reduceSub, reduceIte, Nat.reduceEqDiff, Nat.reduceLT, Nat.reduceMul, Nat.reduceAdd, Nat.reduceBEq, Nat.reduceLeDiff, Int.reduceLT, Int.reduceLE, Int.reduceNeg, Int.reduceBEq, Int.reduceBNe, Int.reduceToNat, List.length_map, pcT, S4.ts]))
    | ((first | refine ⟨.sh, .bool false, rfl, trivial, ?_⟩ | refine ⟨.sh, .bool false, rfl, ?_⟩); try simp only [go_sem, Nat.reduceSub, reduceIte, Nat.reduceEqDiff, Nat.reduceLT, Nat.reduceMul, Nat.reduceAdd, Nat.reduceBEq, Nat.reduceLeDiff, Int.reduceLT, Int.reduceLE, Int.reduceNeg, Int.reduceBEq, Int.reduceBNe, Int.reduceToNat])
    | (refine AV.ret ?_; (try simp only [go_sem, Nat.reduceSub, reduceIte, Nat.reduceEqDiff, Nat.reduceLT, Nat.reduceMul, Nat.reduceAdd, Nat.reduceBEq, Nat.reduceLeDiff, Int.reduceLT, Int.reduceLE, Int.reduceNeg, Int.reduceBEq, Int.reduceBNe, Int.reduceToNat]); first | refine atEnd_t (by simp only [go_sem, Nat.reduceSub, reduceIte, Nat.reduceEqDiff, Nat.reduceLT, Nat.reduceMul, Nat.reduceAdd, Nat.reduceBEq, Nat.reduceLeDiff, Int.reduceLT, Int.reduceLE, Int.reduceNeg, Int.reduceBEq, Int.reduceBNe, Int.reduceToNat] <;> rfl) ?_ (by first | (simp [rxT]; done) | exact leftT_tup _) | refine atEnd_c (by simp only [go_sem, Nat.reduceSub, reduceIte, Nat.reduceEqDiff, Nat.reduceLT, Nat.reduceMul, Nat.reduceAdd, Nat.reduceBEq, Nat.reduceLeDiff, Int.reduceLT, Int.reduceLE, Int.reduceNeg, Int.reduceBEq, Int.reduceBNe, Int.reduceToNat] <;> rfl) ?_ (by first | (simp [rxT]; done) | exact leftT_tup _) | refine atEnd_ct (by simp only [go_sem, Nat.reduceSub, reduceIte, Nat.reduceEqDiff, Nat.reduceLT, Nat.reduceMul, Nat.reduceAdd, Nat.reduceBEq, Nat.reduceLeDiff, Int.reduceLT, Int.reduceLE, Int.reduceNeg, Int.reduceBEq, Int.reduceBNe, Int.reduceToNat] <;> rfl) ?_ (by first | (simp; done) | exact leftT_tup _) (by simp only [go_sem, Nat.reduceSub, reduceIte, Nat.reduceEqDiff, Nat.reduceLT, Nat.reduceMul, Nat.reduceAdd, Nat.reduceBEq, Nat.reduceLeDiff, Int.reduceLT, Int.reduceLE, Int.reduceNeg, Int.reduceBEq, Int.reduceBNe, Int.reduceToNat] <;> rfl) ?_ (by simp) | refine atEnd_o (by simp only [go_sem, Nat.reduceSub, reduceIte, Nat.reduceEqDiff, Nat.reduceLT, Nat.reduceMul, Nat.reduceAdd, Nat.reduceBEq, Nat.reduceLeDiff, Int.reduceLT, Int.reduceLE, Int.reduceNeg, Int.reduceBEq, Int.reduceBNe, Int.reduceToNat] <;> rfl) ?_)
    | (refine And.intro ?_ ?_)
    | (with_reducible intro _)
  all_goals try first | exact True.intro | omega | exact ⟨_, _, rfl⟩ | exact allSolid_pcs _ | exact allSolid_one _ | exact allSolid_bool _ | rfl
  refine AV.loopK [2, 3, 7, 8] (by simp only [hN]; decide) (n := w.size) (one41I w s) ?_ ⟨0, fun _ _ => false, by omega, by simp, by simp only [go_sem, Nat.reduceSub, reduceIte, Nat.reduceEqDiff, Nat.reduceLT, Nat.reduceMul, Nat.reduceAdd, Nat.reduceBEq, Nat.reduceLeDiff, Int.reduceLT, Int.reduceLE, Int.reduceNeg, Int.reduceBEq, Int.reduceBNe, Int.reduceToNat] <;> rfl⟩
  rintro m σ ⟨i, h, hi, hh, rfl⟩
  by_cases hi2 : i < w.size
  · obtain ⟨c, hce⟩ : ∃ c, (w.data.toList.getD i 0).toNat = c := ⟨_, rfl⟩
    have hcc := byte_lt w i
    rw [hce] at hcc
    repeat' first
      | refine AV.seq ?_
      | refine AV.block ?_
      | ((first | refine AV.reg ?_ | refine AV.regD mixed ?_); simp only [hN, c41R0, c41R1, c41R2, c41R3, c41R4, c41R5, c41R7, c41R6, c41R8, c41R9, c41R10, c41R11, c41R12, c41R13, c41R14, c41R15, c41R16, c41R17, c41R18, c41R19, List.length_map, pcT, S4.ts, hce, matT, brow, idxs_len, toNat_succ, go_sem, Nat.reduceSub, reduceIte, Nat.reduceEqDiff, Nat.reduceLT, Nat.reduceMul, Nat.reduceAdd, Nat.reduceBEq, Nat.reduceLeDiff, Int.reduceLT, Int.reduceLE, Int.reduceNeg, Int.reduceBEq, Int.reduceBNe, Int.reduceToNat]; repeat (simp (disch := omega) only [wrap_small, getD_map_lt, getD_range]; try simp only [go_sem, Nat.reduceSub, reduceIte, Nat.reduceEqDiff, Nat.reduceLT, Nat.reduceMul, Nat.reduceAdd, Nat.reduceBEq, Nat.reduceLeDiff, Int.reduceLT, Int.reduceLE, Int.reduceNeg, Int.reduceBEq, Int.reduceBNe, Int.reduceToNat, List.length_map, pcT, S4.ts, hce, matT, brow, idxs_len, toNat_succ]))
      | (refine AV.cond ?_ ?_ (fun hc => ?_) (fun hc => ?_) <;> (try simp only [go_sem, Nat.reduceSub, reduceIte, Nat.reduceEqDiff, Nat.reduceLT, Nat.reduceMul, Nat.reduceAdd, Nat.reduceBEq, Nat.reduceLeDiff, Int.reduceLT, Int.reduceLE, Int.reduceNeg, Int.reduceBEq, Int.reduceBNe, Int.reduceToNat, beq_iff_eq, beq_eq_false_iff_ne] at hc) <;> (try simp only [go_sem, Nat.reduceSub, reduceIte, Nat.reduceEqDiff, Nat.reduceLT, Nat.reduceMul, Nat.reduceAdd, Nat.reduceBEq, Nat.reduceLeDiff, Int.reduceLT, Int.reduceLE, Int.reduceNeg, Int.reduceBEq, Int.reduceBNe, Int.reduceToNat]))
      | ((first | refine AV.skip ?_ | refine AV.exit ?_); simp only [go_sem, Nat.reduceSub, reduceIte, Nat.reduceEqDiff, Nat.reduceLT, Nat.reduceMul, Nat.reduceAdd, Nat.reduceBEq, Nat.reduceLeDiff, Int.reduceLT, Int.reduceLE, Int.reduceNeg, Int.reduceBEq, Int.reduceBNe, Int.reduceToNat])
      | ((first | refine ⟨_, _, has17_spec s c hcc, rfl, ?_⟩ | refine ⟨_, _, has17_spec s c hcc, ?_⟩ | refine ⟨_, _, fun _ => has17_spec s c hcc, rfl, fun _ => trivial, ?_⟩); (try simp only [go_sem, Nat.reduceSub, reduceIte, Nat.reduceEqDiff, Nat.reduceLT, Nat.reduceMul, Nat.reduceAdd, Nat.reduceBEq, Nat.reduceLeDiff, Int.reduceLT, Int.reduceLE, Int.reduceNeg, Int.reduceBEq, Int.reduceBNe, Int.reduceToNat, List.length_map, pcT, S4.ts, hce, matT, brow, idxs_len, toNat_succ]); repeat (simp (disch := omega) only [wrap_small, getD_map_lt, getD_range]; try simp only [go_sem, Nat.reduceSub, reduceIte, Nat.reduceEqDiff, Nat.reduceLT, Nat.reduceMul, Nat.reduceAdd, Nat.reduceBEq, Nat.reduceLeDiff, Int.reduceLT, Int.reduceLE, Int.reduceNeg, Int.reduceBEq, Int.reduceBNe, Int.reduceToNat, List.length_map, pcT, S4.ts, hce, matT, brow, idxs_len, toNat_succ]))
      | ((first | refine ⟨.sh, .bool false, rfl, trivial, ?_⟩ | refine ⟨.sh, .bool false, rfl, ?_⟩); try simp only [go_sem, Nat.reduceSub, reduceIte, Nat.reduceEqDiff, Nat.reduceLT, Nat.reduceMul, Nat.reduceAdd, Nat.reduceBEq, Nat.reduceLeDiff, Int.reduceLT, Int.reduceLE, Int.reduceNeg, Int.reduceBEq, Int.reduceBNe, Int.reduceToNat])
      | (refine AV.ret ?_; (try simp only [go_sem, Nat.reduceSub, reduceIte, Nat.reduceEqDiff, Nat.reduceLT, Nat.reduceMul, Nat.reduceAdd, Nat.reduceBEq, Nat.reduceLeDiff, Int.reduceLT, Int.reduceLE, Int.reduceNeg, Int.reduceBEq, Int.reduceBNe, Int.reduceToNat]); first | refine atEnd_t (by simp only [go_sem, Nat.reduceSub, reduceIte, Nat.reduceEqDiff, Nat.reduceLT, Nat.reduceMul, Nat.reduceAdd, Nat.reduceBEq, Nat.reduceLeDiff, Int.reduceLT, Int.reduceLE, Int.reduceNeg, Int.reduceBEq, Int.reduceBNe, Int.reduceToNat] <;> rfl) ?_ (by first | (simp [rxT]; done) | exact leftT_tup _) | refine atEnd_c (by simp only [go_sem, Nat.reduceSub, reduceIte, Nat.reduceEqDiff, Nat.reduceLT, Nat.reduceMul, Nat.reduceAdd, Nat.reduceBEq, Nat.reduceLeDiff, Int.reduceLT, Int.reduceLE, Int.reduceNeg, Int.reduceBEq, Int.reduceBNe, Int.reduceToNat] <;> rfl) ?_ (by first | (simp [rxT]; done) | exact leftT_tup _) | refine atEnd_ct (by simp only [go_sem, Nat.reduceSub, reduceIte, Nat.reduceEqDiff, Nat.reduceLT, Nat.reduceMul, Nat.reduceAdd, Nat.reduceBEq, Nat.reduceLeDiff, Int.reduceLT, Int.reduceLE, Int.reduceNeg, Int.reduceBEq, Int.reduceBNe, Int.reduceToNat] <;> rfl) ?_ (by first | (simp; done) | exact leftT_tup _) (by simp only [go_sem, Nat.reduceSub, reduceIte, Nat.reduceEqDiff, Nat.reduceLT, Nat.reduceMul, Nat.reduceAdd, Nat.reduceBEq, Nat.reduceLeDiff, Int.reduceLT, Int.reduceLE, Int.reduceNeg, Int.reduceBEq, Int.reduceBNe, Int.reduceToNat] <;> rfl) ?_ (by simp) | refine atEnd_o (by simp only [go_sem, Nat.reduceSub, reduceIte, Nat.reduceEqDiff, Nat.reduceLT, Nat.reduceMul, Nat.reduceAdd, Nat.reduceBEq, Nat.reduceLeDiff, Int.reduceLT, Int.reduceLE, Int.reduceNeg, Int.reduceBEq, Int.reduceBNe, Int.reduceToNat] <;> rfl) ?_)
      | (refine And.intro ?_ ?_)
      | (with_reducible intro _)
    all_goals try first | exact True.intro | omega | exact ⟨_, _, rfl⟩ | exact allSolid_pcs _ | exact allSolid_one _ | exact allSolid_bool _ | rfl
    refine ⟨m - 1, by omega, i + 1, up2 h i (i + 1) (s.has c), by omega, ?_, by rw [mat_put]; rfl⟩
    intro a b ha hb
    unfold up2
    split
    · rename_i e1
      obtain ⟨rfl, rfl⟩ := e1
      simp only [oneB, hce]
      simp [hi2]
    · rename_i e1
      rw [hh a b ha hb]
      constructor
      · rintro ⟨h1, h2⟩; exact ⟨by omega, h2⟩
      · rintro ⟨h1, h2⟩
        refine ⟨?_, h2⟩
        simp only [oneB, Bool.and_eq_true, decide_eq_true_eq] at h2
        omega
  · repeat' first
      | refine AV.seq ?_
      | refine AV.block ?_
      | ((first | refine AV.reg ?_ | refine AV.regD mixed ?_); simp only [hN, c41R0, c41R1, c41R2, c41R3, c41R4, c41R5, c41R7, c41R6, c41R8, c41R9, c41R10, c41R11, c41R12, c41R13, c41R14, c41R15, c41R16, c41R17, c41R18, c41R19, List.length_map, pcT, S4.ts, matT, go_sem, Nat.reduceSub, reduceIte, Nat.reduceEqDiff, Nat.reduceLT, Nat.reduceMul, Nat.reduceAdd, Nat.reduceBEq, Nat.reduceLeDiff, Int.reduceLT, Int.reduceLE, Int.reduceNeg, Int.reduceBEq, Int.reduceBNe, Int.reduceToNat]; repeat (simp (disch := omega) only [wrap_small, getD_map_lt, getD_range]; try simp only [go_sem, Nat.reduceSub, reduceIte, Nat.reduceEqDiff, Nat.reduceLT, Nat.reduceMul, Nat.reduceAdd, Nat.reduceBEq, Nat.reduceLeDiff, Int.reduceLT, Int.reduceLE, Int.reduceNeg, Int.reduceBEq, Int.reduceBNe, Int.reduceToNat, List.length_map, pcT, S4.ts, matT]))
      | (refine AV.cond ?_ ?_ (fun hc => ?_) (fun hc => ?_) <;> (try simp only [go_sem, Nat.reduceSub, reduceIte, Nat.reduceEqDiff, Nat.reduceLT, Nat.reduceMul, Nat.reduceAdd, Nat.reduceBEq, Nat.reduceLeDiff, Int.reduceLT, Int.reduceLE, Int.reduceNeg, Int.reduceBEq, Int.reduceBNe, Int.reduceToNat, beq_iff_eq, beq_eq_false_iff_ne] at hc) <;> (try simp only [go_sem, Nat.reduceSub, reduceIte, Nat.reduceEqDiff, Nat.reduceLT, Nat.reduceMul, Nat.reduceAdd, Nat.reduceBEq, Nat.reduceLeDiff, Int.reduceLT, Int.reduceLE, Int.reduceNeg, Int.reduceBEq, Int.reduceBNe, Int.reduceToNat]))
      | ((first | refine AV.skip ?_ | refine AV.exit ?_); simp only [go_sem, Nat.reduceSub, reduceIte, Nat.reduceEqDiff, Nat.reduceLT, Nat.reduceMul, Nat.reduceAdd, Nat.reduceBEq, Nat.reduceLeDiff, Int.reduceLT, Int.reduceLE, Int.reduceNeg, Int.reduceBEq, Int.reduceBNe, Int.reduceToNat])
      | (refine AV.ret ?_; (try simp only [go_sem, Nat.reduceSub, reduceIte, Nat.reduceEqDiff, Nat.reduceLT, Nat.reduceMul, Nat.reduceAdd, Nat.reduceBEq, Nat.reduceLeDiff, Int.reduceLT, Int.reduceLE, Int.reduceNeg, Int.reduceBEq, Int.reduceBNe, Int.reduceToNat]); first | refine atEnd_t (by simp only [go_sem, Nat.reduceSub, reduceIte, Nat.reduceEqDiff, Nat.reduceLT, Nat.reduceMul, Nat.reduceAdd, Nat.reduceBEq, Nat.reduceLeDiff, Int.reduceLT, Int.reduceLE, Int.reduceNeg, Int.reduceBEq, Int.reduceBNe, Int.reduceToNat] <;> rfl) ?_ (by first | (simp [rxT]; done) | exact leftT_tup _) | refine atEnd_c (by simp only [go_sem, Nat.reduceSub, reduceIte, Nat.reduceEqDiff, Nat.reduceLT, Nat.reduceMul, Nat.reduceAdd, Nat.reduceBEq, Nat.reduceLeDiff, Int.reduceLT, Int.reduceLE, Int.reduceNeg, Int.reduceBEq, Int.reduceBNe, Int.reduceToNat] <;> rfl) ?_ (by first | (simp [rxT]; done) | exact leftT_tup _) | refine atEnd_ct (by simp only [go_sem, Nat.reduceSub, reduceIte, Nat.reduceEqDiff, Nat.reduceLT, Nat.reduceMul, Nat.reduceAdd, Nat.reduceBEq, Nat.reduceLeDiff, Int.reduceLT, Int.reduceLE, Int.reduceNeg, Int.reduceBEq, Int.reduceBNe, Int.reduceToNat] <;> rfl) ?_ (by first | (simp; done) | exact leftT_tup _) (by simp only [go_sem, Nat.reduceSub, reduceIte, Nat.reduceEqDiff, Nat.reduceLT, Nat.reduceMul, Nat.reduceAdd, Nat.reduceBEq, Nat.reduceLeDiff, Int.reduceLT, Int.reduceLE, Int.reduceNeg, Int.reduceBEq, Int.reduceBNe, Int.reduceToNat] <;> rfl) ?_ (by simp) | refine atEnd_o (by simp only [go_sem, Nat.reduceSub, reduceIte, Nat.reduceEqDiff, Nat.reduceLT, Nat.reduceMul, Nat.reduceAdd, Nat.reduceBEq, Nat.reduceLeDiff, Int.reduceLT, Int.reduceLE, Int.reduceNeg, Int.reduceBEq, Int.reduceBNe, Int.reduceToNat] <;> rfl) ?_)
      | (refine And.intro ?_ ?_)
      | (with_reducible intro _)
    all_goals try first | exact True.intro | omega | exact ⟨_, _, rfl⟩ | exact allSolid_pcs _ | exact allSolid_one _ | exact allSolid_bool _ | rfl
    refine matT_congr w.size h _ (fun a b ha hb => bool_ext ?_)
    rw [hh a b ha hb]
    constructor
    · rintro ⟨_, h2⟩; exact h2
    · intro h2
      refine ⟨?_, h2⟩
      simp only [oneB, Bool.and_eq_true, decide_eq_true_eq] at h2
      omega
theorem spans41_2 (s : S4) (w : ByteArray) (hw : w.size ≤ 1000000) (f g : Nat → Nat → Bool) : ACalls Try.prog 41 [pcT ⟨2, s⟩, .sl 1 [matT w.size f, matT w.size g], .str w] (.sl [.sl [.sh]]) (matT w.size (spansB w ⟨2, s⟩ [f, g])) := by
  have e : spansB w ⟨2, s⟩ [f, g] = thenB f g := rfl
  rw [e]
  refine ACalls.of n41 rfl (m41 _ rfl) q41 (by simp only [List.length_cons, List.length_nil]; decide) (fun C hC => ?_)
  have hN : C.N = 83 := hC
  repeat' first
    | refine AV.seq ?_
    | refine AV.block ?_
    | ((first | refine AV.reg ?_ | refine AV.regD mixed ?_); simp only [hN, c41R0, c41R1, c41R2, c41R3, c41R4, c41R5, c41R7, c41R6, c41R8, c41R9, c41R10, c41R11, c41R12, c41R13, c41R14, c41R15, c41R16, c41R17, c41R18, c41R19, List.length_map, pcT, S4.ts, matT, go_sem, Nat.reduceSub, reduceIte, Nat.reduceEqDiff, Nat.reduceLT, Nat.reduceMul, Nat.reduceAdd, Nat.reduceBEq, Nat.reduceLeDiff, Int.reduceLT, Int.reduceLE, Int.reduceNeg, Int.reduceBEq, Int.reduceBNe, Int.reduceToNat]; repeat (simp (disch := omega) only [wrap_small, getD_map_lt, getD_range]; try simp only [go_sem, Nat.reduceSub, reduceIte, Nat.reduceEqDiff, Nat.reduceLT, Nat.reduceMul, Nat.reduceAdd, Nat.reduceBEq, Nat.reduceLeDiff, Int.reduceLT, Int.reduceLE, Int.reduceNeg, Int.reduceBEq, Int.reduceBNe, Int.reduceToNat, List.length_map, pcT, S4.ts, matT]))
    | (refine AV.cond ?_ ?_ (fun hc => ?_) (fun hc => ?_) <;> (try simp only [go_sem, Nat.reduceSub, reduceIte, Nat.reduceEqDiff, Nat.reduceLT, Nat.reduceMul, Nat.reduceAdd, Nat.reduceBEq, Nat.reduceLeDiff, Int.reduceLT, Int.reduceLE, Int.reduceNeg, Int.reduceBEq, Int.reduceBNe, Int.reduceToNat, beq_iff_eq, beq_eq_false_iff_ne] at hc) <;> (try simp only [go_sem, Nat.reduceSub, reduceIte, Nat.reduceEqDiff, Nat.reduceLT, Nat.reduceMul, Nat.reduceAdd, Nat.reduceBEq, Nat.reduceLeDiff, Int.reduceLT, Int.reduceLE, Int.reduceNeg, Int.reduceBEq, Int.reduceBNe, Int.reduceToNat]))
    | ((first | refine AV.skip ?_ | refine AV.exit ?_); simp only [go_sem, Nat.reduceSub, reduceIte, Nat.reduceEqDiff, Nat.reduceLT, Nat.reduceMul, Nat.reduceAdd, Nat.reduceBEq, Nat.reduceLeDiff, Int.reduceLT, Int.reduceLE, Int.reduceNeg, Int.reduceBEq, Int.reduceBNe, Int.reduceToNat])
    | ((first | refine ⟨_, _, then80_spec w.size hw f g (thenB f g) (fun a b _ _ => thenB_iff f g a b), rfl, ?_⟩ | refine ⟨_, _, then80_spec w.size hw f g (thenB f g) (fun a b _ _ => thenB_iff f g a b), ?_⟩ | refine ⟨_, _, fun _ => then80_spec w.size hw f g (thenB f g) (fun a b _ _ => thenB_iff f g a b), rfl, fun _ => trivial, ?_⟩); (try simp only [go_sem, Nat.reduceSub, reduceIte, Nat.reduceEqDiff, Nat.reduceLT, Nat.reduceMul, Nat.reduceAdd, Nat.reduceBEq, Nat.reduceLeDiff, Int.reduceLT, Int.reduceLE, Int.reduceNeg, Int.reduceBEq, Int.reduceBNe, Int.reduceToNat, List.length_map, pcT, S4.ts, matT]); repeat (simp (disch := omega) only [wrap_small, getD_map_lt, getD_range]; try simp only [go_sem, Nat.reduceSub, reduceIte, Nat.reduceEqDiff, Nat.reduceLT, Nat.reduceMul, Nat.reduceAdd, Nat.reduceBEq, Nat.reduceLeDiff, Int.reduceLT, Int.reduceLE, Int.reduceNeg, Int.reduceBEq, Int.reduceBNe, Int.reduceToNat, List.length_map, pcT, S4.ts, matT]))
    | ((first | refine ⟨.sh, .bool false, rfl, trivial, ?_⟩ | refine ⟨.sh, .bool false, rfl, ?_⟩); try simp only [go_sem, Nat.reduceSub, reduceIte, Nat.reduceEqDiff, Nat.reduceLT, Nat.reduceMul, Nat.reduceAdd, Nat.reduceBEq, Nat.reduceLeDiff, Int.reduceLT, Int.reduceLE, Int.reduceNeg, Int.reduceBEq, Int.reduceBNe, Int.reduceToNat])
    | (refine AV.ret ?_; (try simp only [go_sem, Nat.reduceSub, reduceIte, Nat.reduceEqDiff, Nat.reduceLT, Nat.reduceMul, Nat.reduceAdd, Nat.reduceBEq, Nat.reduceLeDiff, Int.reduceLT, Int.reduceLE, Int.reduceNeg, Int.reduceBEq, Int.reduceBNe, Int.reduceToNat]); first | refine atEnd_t (by simp only [go_sem, Nat.reduceSub, reduceIte, Nat.reduceEqDiff, Nat.reduceLT, Nat.reduceMul, Nat.reduceAdd, Nat.reduceBEq, Nat.reduceLeDiff, Int.reduceLT, Int.reduceLE, Int.reduceNeg, Int.reduceBEq, Int.reduceBNe, Int.reduceToNat] <;> rfl) ?_ (by first | (simp [rxT]; done) | exact leftT_tup _) | refine atEnd_c (by simp only [go_sem, Nat.reduceSub, reduceIte, Nat.reduceEqDiff, Nat.reduceLT, Nat.reduceMul, Nat.reduceAdd, Nat.reduceBEq, Nat.reduceLeDiff, Int.reduceLT, Int.reduceLE, Int.reduceNeg, Int.reduceBEq, Int.reduceBNe, Int.reduceToNat] <;> rfl) ?_ (by first | (simp [rxT]; done) | exact leftT_tup _) | refine atEnd_ct (by simp only [go_sem, Nat.reduceSub, reduceIte, Nat.reduceEqDiff, Nat.reduceLT, Nat.reduceMul, Nat.reduceAdd, Nat.reduceBEq, Nat.reduceLeDiff, Int.reduceLT, Int.reduceLE, Int.reduceNeg, Int.reduceBEq, Int.reduceBNe, Int.reduceToNat] <;> rfl) ?_ (by first | (simp; done) | exact leftT_tup _) (by simp only [go_sem, Nat.reduceSub, reduceIte, Nat.reduceEqDiff, Nat.reduceLT, Nat.reduceMul, Nat.reduceAdd, Nat.reduceBEq, Nat.reduceLeDiff, Int.reduceLT, Int.reduceLE, Int.reduceNeg, Int.reduceBEq, Int.reduceBNe, Int.reduceToNat] <;> rfl) ?_ (by simp) | refine atEnd_o (by simp only [go_sem, Nat.reduceSub, reduceIte, Nat.reduceEqDiff, Nat.reduceLT, Nat.reduceMul, Nat.reduceAdd, Nat.reduceBEq, Nat.reduceLeDiff, Int.reduceLT, Int.reduceLE, Int.reduceNeg, Int.reduceBEq, Int.reduceBNe, Int.reduceToNat] <;> rfl) ?_)
    | (refine And.intro ?_ ?_)
    | (with_reducible intro _)
  all_goals try first | exact True.intro | omega | exact ⟨_, _, rfl⟩ | exact allSolid_pcs _ | exact allSolid_one _ | exact allSolid_bool _ | rfl
theorem spans41_3 (s : S4) (w : ByteArray) (hw : w.size ≤ 1000000) (f g : Nat → Nat → Bool) : ACalls Try.prog 41 [pcT ⟨3, s⟩, .sl 1 [matT w.size f, matT w.size g], .str w] (.sl [.sl [.sh]]) (matT w.size (spansB w ⟨3, s⟩ [f, g])) := by
  have e : spansB w ⟨3, s⟩ [f, g] = orB f g := rfl
  rw [e]
  refine ACalls.of n41 rfl (m41 _ rfl) q41 (by simp only [List.length_cons, List.length_nil]; decide) (fun C hC => ?_)
  have hN : C.N = 83 := hC
  repeat' first
    | refine AV.seq ?_
    | refine AV.block ?_
    | ((first | refine AV.reg ?_ | refine AV.regD mixed ?_); simp only [hN, c41R0, c41R1, c41R2, c41R3, c41R4, c41R5, c41R7, c41R6, c41R8, c41R9, c41R10, c41R11, c41R12, c41R13, c41R14, c41R15, c41R16, c41R17, c41R18, c41R19, List.length_map, pcT, S4.ts, matT, go_sem, Nat.reduceSub, reduceIte, Nat.reduceEqDiff, Nat.reduceLT, Nat.reduceMul, Nat.reduceAdd, Nat.reduceBEq, Nat.reduceLeDiff, Int.reduceLT, Int.reduceLE, Int.reduceNeg, Int.reduceBEq, Int.reduceBNe, Int.reduceToNat]; repeat (simp (disch := omega) only [wrap_small, getD_map_lt, getD_range]; try simp only [go_sem, Nat.reduceSub, reduceIte, Nat.reduceEqDiff, Nat.reduceLT, Nat.reduceMul, Nat.reduceAdd, Nat.reduceBEq, Nat.reduceLeDiff, Int.reduceLT, Int.reduceLE, Int.reduceNeg, Int.reduceBEq, Int.reduceBNe, Int.reduceToNat, List.length_map, pcT, S4.ts, matT]))
    | (refine AV.cond ?_ ?_ (fun hc => ?_) (fun hc => ?_) <;> (try simp only [go_sem, Nat.reduceSub, reduceIte, Nat.reduceEqDiff, Nat.reduceLT, Nat.reduceMul, Nat.reduceAdd, Nat.reduceBEq, Nat.reduceLeDiff, Int.reduceLT, Int.reduceLE, Int.reduceNeg, Int.reduceBEq, Int.reduceBNe, Int.reduceToNat, beq_iff_eq, beq_eq_false_iff_ne] at hc) <;> (try simp only [go_sem, Nat.reduceSub, reduceIte, Nat.reduceEqDiff, Nat.reduceLT, Nat.reduceMul, Nat.reduceAdd, Nat.reduceBEq, Nat.reduceLeDiff, Int.reduceLT, Int.reduceLE, Int.reduceNeg, Int.reduceBEq, Int.reduceBNe, Int.reduceToNat]))
    | ((first | refine AV.skip ?_ | refine AV.exit ?_); simp only [go_sem, Nat.reduceSub, reduceIte, Nat.reduceEqDiff, Nat.reduceLT, Nat.reduceMul, Nat.reduceAdd, Nat.reduceBEq, Nat.reduceLeDiff, Int.reduceLT, Int.reduceLE, Int.reduceNeg, Int.reduceBEq, Int.reduceBNe, Int.reduceToNat])
    | ((first | refine ⟨_, _, or81_spec w.size hw f g (orB f g) (fun a b _ _ => orB_iff f g a b), rfl, ?_⟩ | refine ⟨_, _, or81_spec w.size hw f g (orB f g) (fun a b _ _ => orB_iff f g a b), ?_⟩ | refine ⟨_, _, fun _ => or81_spec w.size hw f g (orB f g) (fun a b _ _ => orB_iff f g a b), rfl, fun _ => trivial, ?_⟩); (try simp only [go_sem, Nat.reduceSub, reduceIte, Nat.reduceEqDiff, Nat.reduceLT, Nat.reduceMul, Nat.reduceAdd, Nat.reduceBEq, Nat.reduceLeDiff, Int.reduceLT, Int.reduceLE, Int.reduceNeg, Int.reduceBEq, Int.reduceBNe, Int.reduceToNat, List.length_map, pcT, S4.ts, matT]); repeat (simp (disch := omega) only [wrap_small, getD_map_lt, getD_range]; try simp only [go_sem, Nat.reduceSub, reduceIte, Nat.reduceEqDiff, Nat.reduceLT, Nat.reduceMul, Nat.reduceAdd, Nat.reduceBEq, Nat.reduceLeDiff, Int.reduceLT, Int.reduceLE, Int.reduceNeg, Int.reduceBEq, Int.reduceBNe, Int.reduceToNat, List.length_map, pcT, S4.ts, matT]))
    | ((first | refine ⟨.sh, .bool false, rfl, trivial, ?_⟩ | refine ⟨.sh, .bool false, rfl, ?_⟩); try simp only [go_sem, Nat.reduceSub, reduceIte, Nat.reduceEqDiff, Nat.reduceLT, Nat.reduceMul, Nat.reduceAdd, Nat.reduceBEq, Nat.reduceLeDiff, Int.reduceLT, Int.reduceLE, Int.reduceNeg, Int.reduceBEq, Int.reduceBNe, Int.reduceToNat])
    | (refine AV.ret ?_; (try simp only [go_sem, Nat.reduceSub, reduceIte, Nat.reduceEqDiff, Nat.reduceLT, Nat.reduceMul, Nat.reduceAdd, Nat.reduceBEq, Nat.reduceLeDiff, Int.reduceLT, Int.reduceLE, Int.reduceNeg, Int.reduceBEq, Int.reduceBNe, Int.reduceToNat]); first | refine atEnd_t (by simp only [go_sem, Nat.reduceSub, reduceIte, Nat.reduceEqDiff, Nat.reduceLT, Nat.reduceMul, Nat.reduceAdd, Nat.reduceBEq, Nat.reduceLeDiff, Int.reduceLT, Int.reduceLE, Int.reduceNeg, Int.reduceBEq, Int.reduceBNe, Int.reduceToNat] <;> rfl) ?_ (by first | (simp [rxT]; done) | exact leftT_tup _) | refine atEnd_c (by simp only [go_sem, Nat.reduceSub, reduceIte, Nat.reduceEqDiff, Nat.reduceLT, Nat.reduceMul, Nat.reduceAdd, Nat.reduceBEq, Nat.reduceLeDiff, Int.reduceLT, Int.reduceLE, Int.reduceNeg, Int.reduceBEq, Int.reduceBNe, Int.reduceToNat] <;> rfl) ?_ (by first | (simp [rxT]; done) | exact leftT_tup _) | refine atEnd_ct (by simp only [go_sem, Nat.reduceSub, reduceIte, Nat.reduceEqDiff, Nat.reduceLT, Nat.reduceMul, Nat.reduceAdd, Nat.reduceBEq, Nat.reduceLeDiff, Int.reduceLT, Int.reduceLE, Int.reduceNeg, Int.reduceBEq, Int.reduceBNe, Int.reduceToNat] <;> rfl) ?_ (by first | (simp; done) | exact leftT_tup _) (by simp only [go_sem, Nat.reduceSub, reduceIte, Nat.reduceEqDiff, Nat.reduceLT, Nat.reduceMul, Nat.reduceAdd, Nat.reduceBEq, Nat.reduceLeDiff, Int.reduceLT, Int.reduceLE, Int.reduceNeg, Int.reduceBEq, Int.reduceBNe, Int.reduceToNat] <;> rfl) ?_ (by simp) | refine atEnd_o (by simp only [go_sem, Nat.reduceSub, reduceIte, Nat.reduceEqDiff, Nat.reduceLT, Nat.reduceMul, Nat.reduceAdd, Nat.reduceBEq, Nat.reduceLeDiff, Int.reduceLT, Int.reduceLE, Int.reduceNeg, Int.reduceBEq, Int.reduceBNe, Int.reduceToNat] <;> rfl) ?_)
    | (refine And.intro ?_ ?_)
    | (with_reducible intro _)
  all_goals try first | exact True.intro | omega | exact ⟨_, _, rfl⟩ | exact allSolid_pcs _ | exact allSolid_one _ | exact allSolid_bool _ | rfl
theorem spans41_4 (s : S4) (w : ByteArray) (hw : w.size ≤ 1000000) (f : Nat → Nat → Bool) : ACalls Try.prog 41 [pcT ⟨4, s⟩, .sl 1 [matT w.size f], .str w] (.sl [.sl [.sh]]) (matT w.size (spansB w ⟨4, s⟩ [f])) := by
  have e : spansB w ⟨4, s⟩ [f] = againB f := rfl
  rw [e]
  refine ACalls.of n41 rfl (m41 _ rfl) q41 (by simp only [List.length_cons, List.length_nil]; decide) (fun C hC => ?_)
  have hN : C.N = 83 := hC
  repeat' first
    | refine AV.seq ?_
    | refine AV.block ?_
    | ((first | refine AV.reg ?_ | refine AV.regD mixed ?_); simp only [hN, c41R0, c41R1, c41R2, c41R3, c41R4, c41R5, c41R7, c41R6, c41R8, c41R9, c41R10, c41R11, c41R12, c41R13, c41R14, c41R15, c41R16, c41R17, c41R18, c41R19, List.length_map, pcT, S4.ts, matT, go_sem, Nat.reduceSub, reduceIte, Nat.reduceEqDiff, Nat.reduceLT, Nat.reduceMul, Nat.reduceAdd, Nat.reduceBEq, Nat.reduceLeDiff, Int.reduceLT, Int.reduceLE, Int.reduceNeg, Int.reduceBEq, Int.reduceBNe, Int.reduceToNat]; repeat (simp (disch := omega) only [wrap_small, getD_map_lt, getD_range]; try simp only [go_sem, Nat.reduceSub, reduceIte, Nat.reduceEqDiff, Nat.reduceLT, Nat.reduceMul, Nat.reduceAdd, Nat.reduceBEq, Nat.reduceLeDiff, Int.reduceLT, Int.reduceLE, Int.reduceNeg, Int.reduceBEq, Int.reduceBNe, Int.reduceToNat, List.length_map, pcT, S4.ts, matT]))
    | (refine AV.cond ?_ ?_ (fun hc => ?_) (fun hc => ?_) <;> (try simp only [go_sem, Nat.reduceSub, reduceIte, Nat.reduceEqDiff, Nat.reduceLT, Nat.reduceMul, Nat.reduceAdd, Nat.reduceBEq, Nat.reduceLeDiff, Int.reduceLT, Int.reduceLE, Int.reduceNeg, Int.reduceBEq, Int.reduceBNe, Int.reduceToNat, beq_iff_eq, beq_eq_false_iff_ne] at hc) <;> (try simp only [go_sem, Nat.reduceSub, reduceIte, Nat.reduceEqDiff, Nat.reduceLT, Nat.reduceMul, Nat.reduceAdd, Nat.reduceBEq, Nat.reduceLeDiff, Int.reduceLT, Int.reduceLE, Int.reduceNeg, Int.reduceBEq, Int.reduceBNe, Int.reduceToNat]))
    | ((first | refine AV.skip ?_ | refine AV.exit ?_); simp only [go_sem, Nat.reduceSub, reduceIte, Nat.reduceEqDiff, Nat.reduceLT, Nat.reduceMul, Nat.reduceAdd, Nat.reduceBEq, Nat.reduceLeDiff, Int.reduceLT, Int.reduceLE, Int.reduceNeg, Int.reduceBEq, Int.reduceBNe, Int.reduceToNat])
    | ((first | refine ⟨_, _, again82_spec w.size hw f (againB f) (fun a b _ _ => againB_iff f a b), rfl, ?_⟩ | refine ⟨_, _, again82_spec w.size hw f (againB f) (fun a b _ _ => againB_iff f a b), ?_⟩ | refine ⟨_, _, fun _ => again82_spec w.size hw f (againB f) (fun a b _ _ => againB_iff f a b), rfl, fun _ => trivial, ?_⟩); (try simp only [go_sem, Nat.reduceSub, reduceIte, Nat.reduceEqDiff, Nat.reduceLT, Nat.reduceMul, Nat.reduceAdd, Nat.reduceBEq, Nat.reduceLeDiff, Int.reduceLT, Int.reduceLE, Int.reduceNeg, Int.reduceBEq, Int.reduceBNe, Int.reduceToNat, List.length_map, pcT, S4.ts, matT]); repeat (simp (disch := omega) only [wrap_small, getD_map_lt, getD_range]; try simp only [go_sem, Nat.reduceSub, reduceIte, Nat.reduceEqDiff, Nat.reduceLT, Nat.reduceMul, Nat.reduceAdd, Nat.reduceBEq, Nat.reduceLeDiff, Int.reduceLT, Int.reduceLE, Int.reduceNeg, Int.reduceBEq, Int.reduceBNe, Int.reduceToNat, List.length_map, pcT, S4.ts, matT]))
    | ((first | refine ⟨.sh, .bool false, rfl, trivial, ?_⟩ | refine ⟨.sh, .bool false, rfl, ?_⟩); try simp only [go_sem, Nat.reduceSub, reduceIte, Nat.reduceEqDiff, Nat.reduceLT, Nat.reduceMul, Nat.reduceAdd, Nat.reduceBEq, Nat.reduceLeDiff, Int.reduceLT, Int.reduceLE, Int.reduceNeg, Int.reduceBEq, Int.reduceBNe, Int.reduceToNat])
    | (refine AV.ret ?_; (try simp only [go_sem, Nat.reduceSub, reduceIte, Nat.reduceEqDiff, Nat.reduceLT, Nat.reduceMul, Nat.reduceAdd, Nat.reduceBEq, Nat.reduceLeDiff, Int.reduceLT, Int.reduceLE, Int.reduceNeg, Int.reduceBEq, Int.reduceBNe, Int.reduceToNat]); first | refine atEnd_t (by simp only [go_sem, Nat.reduceSub, reduceIte, Nat.reduceEqDiff, Nat.reduceLT, Nat.reduceMul, Nat.reduceAdd, Nat.reduceBEq, Nat.reduceLeDiff, Int.reduceLT, Int.reduceLE, Int.reduceNeg, Int.reduceBEq, Int.reduceBNe, Int.reduceToNat] <;> rfl) ?_ (by first | (simp [rxT]; done) | exact leftT_tup _) | refine atEnd_c (by simp only [go_sem, Nat.reduceSub, reduceIte, Nat.reduceEqDiff, Nat.reduceLT, Nat.reduceMul, Nat.reduceAdd, Nat.reduceBEq, Nat.reduceLeDiff, Int.reduceLT, Int.reduceLE, Int.reduceNeg, Int.reduceBEq, Int.reduceBNe, Int.reduceToNat] <;> rfl) ?_ (by first | (simp [rxT]; done) | exact leftT_tup _) | refine atEnd_ct (by simp only [go_sem, Nat.reduceSub, reduceIte, Nat.reduceEqDiff, Nat.reduceLT, Nat.reduceMul, Nat.reduceAdd, Nat.reduceBEq, Nat.reduceLeDiff, Int.reduceLT, Int.reduceLE, Int.reduceNeg, Int.reduceBEq, Int.reduceBNe, Int.reduceToNat] <;> rfl) ?_ (by first | (simp; done) | exact leftT_tup _) (by simp only [go_sem, Nat.reduceSub, reduceIte, Nat.reduceEqDiff, Nat.reduceLT, Nat.reduceMul, Nat.reduceAdd, Nat.reduceBEq, Nat.reduceLeDiff, Int.reduceLT, Int.reduceLE, Int.reduceNeg, Int.reduceBEq, Int.reduceBNe, Int.reduceToNat] <;> rfl) ?_ (by simp) | refine atEnd_o (by simp only [go_sem, Nat.reduceSub, reduceIte, Nat.reduceEqDiff, Nat.reduceLT, Nat.reduceMul, Nat.reduceAdd, Nat.reduceBEq, Nat.reduceLeDiff, Int.reduceLT, Int.reduceLE, Int.reduceNeg, Int.reduceBEq, Int.reduceBNe, Int.reduceToNat] <;> rfl) ?_)
    | (refine And.intro ?_ ?_)
    | (with_reducible intro _)
  all_goals try first | exact True.intro | omega | exact ⟨_, _, rfl⟩ | exact allSolid_pcs _ | exact allSolid_one _ | exact allSolid_bool _ | rfl
theorem spans41_5 (s : S4) (w : ByteArray) (hw : w.size ≤ 1000000) (f : Nat → Nat → Bool) : ACalls Try.prog 41 [pcT ⟨5, s⟩, .sl 1 [matT w.size f], .str w] (.sl [.sl [.sh]]) (matT w.size (spansB w ⟨5, s⟩ [f])) := by
  have e : spansB w ⟨5, s⟩ [f] = thenB f (againB f) := rfl
  rw [e]
  refine ACalls.of n41 rfl (m41 _ rfl) q41 (by simp only [List.length_cons, List.length_nil]; decide) (fun C hC => ?_)
  have hN : C.N = 83 := hC
  repeat' first
    | refine AV.seq ?_
    | refine AV.block ?_
    | ((first | refine AV.reg ?_ | refine AV.regD mixed ?_); simp only [hN, c41R0, c41R1, c41R2, c41R3, c41R4, c41R5, c41R7, c41R6, c41R8, c41R9, c41R10, c41R11, c41R12, c41R13, c41R14, c41R15, c41R16, c41R17, c41R18, c41R19, List.length_map, pcT, S4.ts, matT, go_sem, Nat.reduceSub, reduceIte, Nat.reduceEqDiff, Nat.reduceLT, Nat.reduceMul, Nat.reduceAdd, Nat.reduceBEq, Nat.reduceLeDiff, Int.reduceLT, Int.reduceLE, Int.reduceNeg, Int.reduceBEq, Int.reduceBNe, Int.reduceToNat]; repeat (simp (disch := omega) only [wrap_small, getD_map_lt, getD_range]; try simp only [go_sem, Nat.reduceSub, reduceIte, Nat.reduceEqDiff, Nat.reduceLT, Nat.reduceMul, Nat.reduceAdd, Nat.reduceBEq, Nat.reduceLeDiff, Int.reduceLT, Int.reduceLE, Int.reduceNeg, Int.reduceBEq, Int.reduceBNe, Int.reduceToNat, List.length_map, pcT, S4.ts, matT]))
    | (refine AV.cond ?_ ?_ (fun hc => ?_) (fun hc => ?_) <;> (try simp only [go_sem, Nat.reduceSub, reduceIte, Nat.reduceEqDiff, Nat.reduceLT, Nat.reduceMul, Nat.reduceAdd, Nat.reduceBEq, Nat.reduceLeDiff, Int.reduceLT, Int.reduceLE, Int.reduceNeg, Int.reduceBEq, Int.reduceBNe, Int.reduceToNat, beq_iff_eq, beq_eq_false_iff_ne] at hc) <;> (try simp only [go_sem, Nat.reduceSub, reduceIte, Nat.reduceEqDiff, Nat.reduceLT, Nat.reduceMul, Nat.reduceAdd, Nat.reduceBEq, Nat.reduceLeDiff, Int.reduceLT, Int.reduceLE, Int.reduceNeg, Int.reduceBEq, Int.reduceBNe, Int.reduceToNat]))
    | ((first | refine AV.skip ?_ | refine AV.exit ?_); simp only [go_sem, Nat.reduceSub, reduceIte, Nat.reduceEqDiff, Nat.reduceLT, Nat.reduceMul, Nat.reduceAdd, Nat.reduceBEq, Nat.reduceLeDiff, Int.reduceLT, Int.reduceLE, Int.reduceNeg, Int.reduceBEq, Int.reduceBNe, Int.reduceToNat])
    | ((first | refine ⟨_, _, again82_spec w.size hw f (againB f) (fun a b _ _ => againB_iff f a b), rfl, ?_⟩ | refine ⟨_, _, again82_spec w.size hw f (againB f) (fun a b _ _ => againB_iff f a b), ?_⟩ | refine ⟨_, _, fun _ => again82_spec w.size hw f (againB f) (fun a b _ _ => againB_iff f a b), rfl, fun _ => trivial, ?_⟩ | refine ⟨_, _, then80_spec w.size hw f (againB f) (thenB f (againB f)) (fun a b _ _ => thenB_iff f (againB f) a b), rfl, ?_⟩ | refine ⟨_, _, then80_spec w.size hw f (againB f) (thenB f (againB f)) (fun a b _ _ => thenB_iff f (againB f) a b), ?_⟩ | refine ⟨_, _, fun _ => then80_spec w.size hw f (againB f) (thenB f (againB f)) (fun a b _ _ => thenB_iff f (againB f) a b), rfl, fun _ => trivial, ?_⟩); (try simp only [go_sem, Nat.reduceSub, reduceIte, Nat.reduceEqDiff, Nat.reduceLT, Nat.reduceMul, Nat.reduceAdd, Nat.reduceBEq, Nat.reduceLeDiff, Int.reduceLT, Int.reduceLE, Int.reduceNeg, Int.reduceBEq, Int.reduceBNe, Int.reduceToNat, List.length_map, pcT, S4.ts, matT]); repeat (simp (disch := omega) only [wrap_small, getD_map_lt, getD_range]; try simp only [go_sem, Nat.reduceSub, reduceIte, Nat.reduceEqDiff, Nat.reduceLT, Nat.reduceMul, Nat.reduceAdd, Nat.reduceBEq, Nat.reduceLeDiff, Int.reduceLT, Int.reduceLE, Int.reduceNeg, Int.reduceBEq, Int.reduceBNe, Int.reduceToNat, List.length_map, pcT, S4.ts, matT]))
    | ((first | refine ⟨.sh, .bool false, rfl, trivial, ?_⟩ | refine ⟨.sh, .bool false, rfl, ?_⟩); try simp only [go_sem, Nat.reduceSub, reduceIte, Nat.reduceEqDiff, Nat.reduceLT, Nat.reduceMul, Nat.reduceAdd, Nat.reduceBEq, Nat.reduceLeDiff, Int.reduceLT, Int.reduceLE, Int.reduceNeg, Int.reduceBEq, Int.reduceBNe, Int.reduceToNat])
    | (refine AV.ret ?_; (try simp only [go_sem, Nat.reduceSub, reduceIte, Nat.reduceEqDiff, Nat.reduceLT, Nat.reduceMul, Nat.reduceAdd, Nat.reduceBEq, Nat.reduceLeDiff, Int.reduceLT, Int.reduceLE, Int.reduceNeg, Int.reduceBEq, Int.reduceBNe, Int.reduceToNat]); first | refine atEnd_t (by simp only [go_sem, Nat.reduceSub, reduceIte, Nat.reduceEqDiff, Nat.reduceLT, Nat.reduceMul, Nat.reduceAdd, Nat.reduceBEq, Nat.reduceLeDiff, Int.reduceLT, Int.reduceLE, Int.reduceNeg, Int.reduceBEq, Int.reduceBNe, Int.reduceToNat] <;> rfl) ?_ (by first | (simp [rxT]; done) | exact leftT_tup _) | refine atEnd_c (by simp only [go_sem, Nat.reduceSub, reduceIte, Nat.reduceEqDiff, Nat.reduceLT, Nat.reduceMul, Nat.reduceAdd, Nat.reduceBEq, Nat.reduceLeDiff, Int.reduceLT, Int.reduceLE, Int.reduceNeg, Int.reduceBEq, Int.reduceBNe, Int.reduceToNat] <;> rfl) ?_ (by first | (simp [rxT]; done) | exact leftT_tup _) | refine atEnd_ct (by simp only [go_sem, Nat.reduceSub, reduceIte, Nat.reduceEqDiff, Nat.reduceLT, Nat.reduceMul, Nat.reduceAdd, Nat.reduceBEq, Nat.reduceLeDiff, Int.reduceLT, Int.reduceLE, Int.reduceNeg, Int.reduceBEq, Int.reduceBNe, Int.reduceToNat] <;> rfl) ?_ (by first | (simp; done) | exact leftT_tup _) (by simp only [go_sem, Nat.reduceSub, reduceIte, Nat.reduceEqDiff, Nat.reduceLT, Nat.reduceMul, Nat.reduceAdd, Nat.reduceBEq, Nat.reduceLeDiff, Int.reduceLT, Int.reduceLE, Int.reduceNeg, Int.reduceBEq, Int.reduceBNe, Int.reduceToNat] <;> rfl) ?_ (by simp) | refine atEnd_o (by simp only [go_sem, Nat.reduceSub, reduceIte, Nat.reduceEqDiff, Nat.reduceLT, Nat.reduceMul, Nat.reduceAdd, Nat.reduceBEq, Nat.reduceLeDiff, Int.reduceLT, Int.reduceLE, Int.reduceNeg, Int.reduceBEq, Int.reduceBNe, Int.reduceToNat] <;> rfl) ?_)
    | (refine And.intro ?_ ?_)
    | (with_reducible intro _)
  all_goals try first | exact True.intro | omega | exact ⟨_, _, rfl⟩ | exact allSolid_pcs _ | exact allSolid_one _ | exact allSolid_bool _ | rfl
theorem spans41_6 (s : S4) (w : ByteArray) (hw : w.size ≤ 1000000) (f : Nat → Nat → Bool) : ACalls Try.prog 41 [pcT ⟨6, s⟩, .sl 1 [matT w.size f], .str w] (.sl [.sl [.sh]]) (matT w.size (spansB w ⟨6, s⟩ [f])) := by
  have e : spansB w ⟨6, s⟩ [f] = orB idB f := rfl
  rw [e]
  refine ACalls.of n41 rfl (m41 _ rfl) q41 (by simp only [List.length_cons, List.length_nil]; decide) (fun C hC => ?_)
  have hN : C.N = 83 := hC
  repeat' first
    | refine AV.seq ?_
    | refine AV.block ?_
    | ((first | refine AV.reg ?_ | refine AV.regD mixed ?_); simp only [hN, c41R0, c41R1, c41R2, c41R3, c41R4, c41R5, c41R7, c41R6, c41R8, c41R9, c41R10, c41R11, c41R12, c41R13, c41R14, c41R15, c41R16, c41R17, c41R18, c41R19, List.length_map, pcT, S4.ts, matT, go_sem, Nat.reduceSub, reduceIte, Nat.reduceEqDiff, Nat.reduceLT, Nat.reduceMul, Nat.reduceAdd, Nat.reduceBEq, Nat.reduceLeDiff, Int.reduceLT, Int.reduceLE, Int.reduceNeg, Int.reduceBEq, Int.reduceBNe, Int.reduceToNat]; repeat (simp (disch := omega) only [wrap_small, getD_map_lt, getD_range]; try simp only [go_sem, Nat.reduceSub, reduceIte, Nat.reduceEqDiff, Nat.reduceLT, Nat.reduceMul, Nat.reduceAdd, Nat.reduceBEq, Nat.reduceLeDiff, Int.reduceLT, Int.reduceLE, Int.reduceNeg, Int.reduceBEq, Int.reduceBNe, Int.reduceToNat, List.length_map, pcT, S4.ts, matT]))
    | (refine AV.cond ?_ ?_ (fun hc => ?_) (fun hc => ?_) <;> (try simp only [go_sem, Nat.reduceSub, reduceIte, Nat.reduceEqDiff, Nat.reduceLT, Nat.reduceMul, Nat.reduceAdd, Nat.reduceBEq, Nat.reduceLeDiff, Int.reduceLT, Int.reduceLE, Int.reduceNeg, Int.reduceBEq, Int.reduceBNe, Int.reduceToNat, beq_iff_eq, beq_eq_false_iff_ne] at hc) <;> (try simp only [go_sem, Nat.reduceSub, reduceIte, Nat.reduceEqDiff, Nat.reduceLT, Nat.reduceMul, Nat.reduceAdd, Nat.reduceBEq, Nat.reduceLeDiff, Int.reduceLT, Int.reduceLE, Int.reduceNeg, Int.reduceBEq, Int.reduceBNe, Int.reduceToNat]))
    | ((first | refine AV.skip ?_ | refine AV.exit ?_); simp only [go_sem, Nat.reduceSub, reduceIte, Nat.reduceEqDiff, Nat.reduceLT, Nat.reduceMul, Nat.reduceAdd, Nat.reduceBEq, Nat.reduceLeDiff, Int.reduceLT, Int.reduceLE, Int.reduceNeg, Int.reduceBEq, Int.reduceBNe, Int.reduceToNat])
    | ((first | refine ⟨_, _, empty83_spec w.size hw, rfl, ?_⟩ | refine ⟨_, _, empty83_spec w.size hw, ?_⟩ | refine ⟨_, _, fun _ => empty83_spec w.size hw, rfl, fun _ => trivial, ?_⟩ | refine ⟨_, _, or81_spec w.size hw idB f (orB idB f) (fun a b _ _ => orB_iff idB f a b), rfl, ?_⟩ | refine ⟨_, _, or81_spec w.size hw idB f (orB idB f) (fun a b _ _ => orB_iff idB f a b), ?_⟩ | refine ⟨_, _, fun _ => or81_spec w.size hw idB f (orB idB f) (fun a b _ _ => orB_iff idB f a b), rfl, fun _ => trivial, ?_⟩); (try simp only [go_sem, Nat.reduceSub, reduceIte, Nat.reduceEqDiff, Nat.reduceLT, Nat.reduceMul, Nat.reduceAdd, Nat.reduceBEq, Nat.reduceLeDiff, Int.reduceLT, Int.reduceLE, Int.reduceNeg, Int.reduceBEq, Int.reduceBNe, Int.reduceToNat, List.length_map, pcT, S4.ts, matT]); repeat (simp (disch := omega) only [wrap_small, getD_map_lt, getD_range]; try simp only [go_sem, Nat.reduceSub, reduceIte, Nat.reduceEqDiff, Nat.reduceLT, Nat.reduceMul, Nat.reduceAdd, Nat.reduceBEq, Nat.reduceLeDiff, Int.reduceLT, Int.reduceLE, Int.reduceNeg, Int.reduceBEq, Int.reduceBNe, Int.reduceToNat, List.length_map, pcT, S4.ts, matT]))
    | ((first | refine ⟨.sh, .bool false, rfl, trivial, ?_⟩ | refine ⟨.sh, .bool false, rfl, ?_⟩); try simp only [go_sem, Nat.reduceSub, reduceIte, Nat.reduceEqDiff, Nat.reduceLT, Nat.reduceMul, Nat.reduceAdd, Nat.reduceBEq, Nat.reduceLeDiff, Int.reduceLT, Int.reduceLE, Int.reduceNeg, Int.reduceBEq, Int.reduceBNe, Int.reduceToNat])
    | (refine AV.ret ?_; (try simp only [go_sem, Nat.reduceSub, reduceIte, Nat.reduceEqDiff, Nat.reduceLT, Nat.reduceMul, Nat.reduceAdd, Nat.reduceBEq, Nat.reduceLeDiff, Int.reduceLT, Int.reduceLE, Int.reduceNeg, Int.reduceBEq, Int.reduceBNe, Int.reduceToNat]); first | refine atEnd_t (by simp only [go_sem, Nat.reduceSub, reduceIte, Nat.reduceEqDiff, Nat.reduceLT, Nat.reduceMul, Nat.reduceAdd, Nat.reduceBEq, Nat.reduceLeDiff, Int.reduceLT, Int.reduceLE, Int.reduceNeg, Int.reduceBEq, Int.reduceBNe, Int.reduceToNat] <;> rfl) ?_ (by first | (simp [rxT]; done) | exact leftT_tup _) | refine atEnd_c (by simp only [go_sem, Nat.reduceSub, reduceIte, Nat.reduceEqDiff, Nat.reduceLT, Nat.reduceMul, Nat.reduceAdd, Nat.reduceBEq, Nat.reduceLeDiff, Int.reduceLT, Int.reduceLE, Int.reduceNeg, Int.reduceBEq, Int.reduceBNe, Int.reduceToNat] <;> rfl) ?_ (by first | (simp [rxT]; done) | exact leftT_tup _) | refine atEnd_ct (by simp only [go_sem, Nat.reduceSub, reduceIte, Nat.reduceEqDiff, Nat.reduceLT, Nat.reduceMul, Nat.reduceAdd, Nat.reduceBEq, Nat.reduceLeDiff, Int.reduceLT, Int.reduceLE, Int.reduceNeg, Int.reduceBEq, Int.reduceBNe, Int.reduceToNat] <;> rfl) ?_ (by first | (simp; done) | exact leftT_tup _) (by simp only [go_sem, Nat.reduceSub, reduceIte, Nat.reduceEqDiff, Nat.reduceLT, Nat.reduceMul, Nat.reduceAdd, Nat.reduceBEq, Nat.reduceLeDiff, Int.reduceLT, Int.reduceLE, Int.reduceNeg, Int.reduceBEq, Int.reduceBNe, Int.reduceToNat] <;> rfl) ?_ (by simp) | refine atEnd_o (by simp only [go_sem, Nat.reduceSub, reduceIte, Nat.reduceEqDiff, Nat.reduceLT, Nat.reduceMul, Nat.reduceAdd, Nat.reduceBEq, Nat.reduceLeDiff, Int.reduceLT, Int.reduceLE, Int.reduceNeg, Int.reduceBEq, Int.reduceBNe, Int.reduceToNat] <;> rfl) ?_)
    | (refine And.intro ?_ ?_)
    | (with_reducible intro _)
  all_goals try first | exact True.intro | omega | exact ⟨_, _, rfl⟩ | exact allSolid_pcs _ | exact allSolid_one _ | exact allSolid_bool _ | rfl
  all_goals trace_state
end Go.Proofs.Ytaefhdklkbohmaa
/- bosketref04.Has. -/
namespace Go.Proofs.Ytaefhdklkbohmaa
open Go Go.RowKit
set_option linter.unusedSimpArgs false
set_option maxRecDepth 20000
set_option maxHeartbeats 4000000
theorem allSolid_mat (n : Nat) (f : Nat → Nat → Bool) : allSolid [matT n f] := by
  intro y hy
  obtain rfl := List.mem_singleton.1 hy
  rfl
theorem flat_mat (n : Nat) (f : Nat → Nat → Bool) : K.flat (.sl [.sl [.sh]]) (matT n f) := by
  intro x hx
  obtain ⟨i, _, rfl⟩ := List.mem_map.1 hx
  simp only [brow, T.leaves, K.flats, List.headD_cons, K.flat, T.elems, and_true]
  intro y hy
  obtain ⟨j, _, rfl⟩ := List.mem_map.1 hy
  simp [T.leaves, K.flats, K.flat, T.flat, T.flat1]
def has11I (r : List Pc) (w : ByteArray) (m : Nat) (σ : Env) : Prop := ∃ (i : Nat) (st : List (Nat → Nat → Bool)), i + m = r.length ∧ st.length ≤ i ∧ fitsGo (r.drop i) st.length = true ∧ runM (spansB w) r [] = runM (spansB w) (r.drop i) st ∧
  σ = [(0, .t (rxT r)), (1, .t (.str w)), (5, .own (.sl [.sh]) (.sl 1 (st.map (matT w.size)))), (6, .t (.int .i64 (i : Int)))]
theorem has11_spec (r : List Pc) (w : ByteArray) (hr : r.length ≤ 1073741820) (hw : w.size ≤ 1000000) (hf : fitsGo r 0 = true) : ACalls Try.prog 11 [rxT r, .str w] .sh (.bool ((runM (spansB w) r []).getD 0 idB 0 w.size)) := by
  refine ACalls.of n11 rfl (m11 _ rfl) q11 (by simp only [List.length_cons, List.length_nil]; decide) (fun C hC => ?_)
  have hN : C.N = 48 := hC
  repeat' first
    | refine AV.seq ?_
    | refine AV.block ?_
    | ((first | refine AV.reg ?_ | refine AV.regD mixed ?_); simp only [hN, c11R0, c11R1, c11R2, c11R3, c11R5, c11R6, c11R7, c11R4, c11R8, rxT, List.length_map, go_sem, Nat.reduceSub, reduceIte, Nat.reduceEqDiff, Nat.reduceLT, Nat.reduceMul, Nat.reduceAdd, Nat.reduceBEq, Nat.reduceLeDiff, Int.reduceLT, Int.reduceLE, Int.reduceNeg, Int.reduceBEq, Int.reduceBNe, Int.reduceToNat]; repeat (simp (disch := omega) only [wrap_small, getD_map_lt, getD_range]; try simp only [go_sem, Nat.reduceSub, reduceIte, Nat.reduceEqDiff, Nat.reduceLT, Nat.reduceMul, Nat.reduceAdd, Nat.reduceBEq, Nat.reduceLeDiff, Int.reduceLT, Int.reduceLE, Int.reduceNeg, Int.reduceBEq, Int.reduceBNe, Int.reduceToNat, rxT, List.length_map]))
    | (refine AV.cond ?_ ?_ (fun hc => ?_) (fun hc => ?_) <;> (try simp only [go_sem, Nat.reduceSub, reduceIte, Nat.reduceEqDiff, Nat.reduceLT, Nat.reduceMul, Nat.reduceAdd, Nat.reduceBEq, Nat.reduceLeDiff, Int.reduceLT, Int.reduceLE, Int.reduceNeg, Int.reduceBEq, Int.reduceBNe, Int.reduceToNat, beq_iff_eq, beq_eq_false_iff_ne] at hc) <;> (try simp only [go_sem, Nat.reduceSub, reduceIte, Nat.reduceEqDiff, Nat.reduceLT, Nat.reduceMul, Nat.reduceAdd, Nat.reduceBEq, Nat.reduceLeDiff, Int.reduceLT, Int.reduceLE, Int.reduceNeg, Int.reduceBEq, Int.reduceBNe, Int.reduceToNat]))
    | ((first | refine AV.skip ?_ | refine AV.exit ?_); simp only [go_sem, Nat.reduceSub, reduceIte, Nat.reduceEqDiff, Nat.reduceLT, Nat.reduceMul, Nat.reduceAdd, Nat.reduceBEq, Nat.reduceLeDiff, Int.reduceLT, Int.reduceLE, Int.reduceNeg, Int.reduceBEq, Int.reduceBNe, Int.reduceToNat])
    | (refine AV.ret ?_; (try simp only [go_sem, Nat.reduceSub, reduceIte, Nat.reduceEqDiff, Nat.reduceLT, Nat.reduceMul, Nat.reduceAdd, Nat.reduceBEq, Nat.reduceLeDiff, Int.reduceLT, Int.reduceLE, Int.reduceNeg, Int.reduceBEq, Int.reduceBNe, Int.reduceToNat]); first | refine atEnd_t (by simp only [go_sem, Nat.reduceSub, reduceIte, Nat.reduceEqDiff, Nat.reduceLT, Nat.reduceMul, Nat.reduceAdd, Nat.reduceBEq, Nat.reduceLeDiff, Int.reduceLT, Int.reduceLE, Int.reduceNeg, Int.reduceBEq, Int.reduceBNe, Int.reduceToNat] <;> rfl) ?_ (by first | (simp [rxT]; done) | exact leftT_tup _) | refine atEnd_c (by simp only [go_sem, Nat.reduceSub, reduceIte, Nat.reduceEqDiff, Nat.reduceLT, Nat.reduceMul, Nat.reduceAdd, Nat.reduceBEq, Nat.reduceLeDiff, Int.reduceLT, Int.reduceLE, Int.reduceNeg, Int.reduceBEq, Int.reduceBNe, Int.reduceToNat] <;> rfl) ?_ (by first | (simp [rxT]; done) | exact leftT_tup _) | refine atEnd_ct (by simp only [go_sem, Nat.reduceSub, reduceIte, Nat.reduceEqDiff, Nat.reduceLT, Nat.reduceMul, Nat.reduceAdd, Nat.reduceBEq, Nat.reduceLeDiff, Int.reduceLT, Int.reduceLE, Int.reduceNeg, Int.reduceBEq, Int.reduceBNe, Int.reduceToNat] <;> rfl) ?_ (by first | (simp; done) | exact leftT_tup _) (by simp only [go_sem, Nat.reduceSub, reduceIte, Nat.reduceEqDiff, Nat.reduceLT, Nat.reduceMul, Nat.reduceAdd, Nat.reduceBEq, Nat.reduceLeDiff, Int.reduceLT, Int.reduceLE, Int.reduceNeg, Int.reduceBEq, Int.reduceBNe, Int.reduceToNat] <;> rfl) ?_ (by simp) | refine atEnd_o (by simp only [go_sem, Nat.reduceSub, reduceIte, Nat.reduceEqDiff, Nat.reduceLT, Nat.reduceMul, Nat.reduceAdd, Nat.reduceBEq, Nat.reduceLeDiff, Int.reduceLT, Int.reduceLE, Int.reduceNeg, Int.reduceBEq, Int.reduceBNe, Int.reduceToNat] <;> rfl) ?_)
    | (refine And.intro ?_ ?_)
    | (with_reducible intro _)
  all_goals try first | exact True.intro | omega | exact ⟨_, _, rfl⟩ | exact allSolid_pcs _ | exact allSolid_one _ | exact allSolid_bool _ | rfl
  refine AV.loopK [0, 1, 5, 6] (by simp only [hN]; decide) (n := r.length) (has11I r w) ?_ ⟨0, [], by omega, by simp, hf, rfl, by simp only [go_sem, Nat.reduceSub, reduceIte, Nat.reduceEqDiff, Nat.reduceLT, Nat.reduceMul, Nat.reduceAdd, Nat.reduceBEq, Nat.reduceLeDiff, Int.reduceLT, Int.reduceLE, Int.reduceNeg, Int.reduceBEq, Int.reduceBNe, Int.reduceToNat] <;> rfl⟩
  rintro m σ ⟨i, st, h1, h2, h3, h4, rfl⟩
  by_cases hi : i < r.length
  · have hd : r.drop i = r[i] :: r.drop (i + 1) := List.drop_eq_getElem_cons hi
    rw [hd] at h3 h4
    obtain ⟨pk, ps, hp⟩ : ∃ pk ps, r[i] = ⟨pk, ps⟩ := ⟨_, _, rfl⟩
    rw [hp] at h3 h4
    rcases fits_next _ _ _ h3 with ⟨hk, h5⟩ | ⟨hk, st', f, rfl, h5⟩ | ⟨hk, st', f, g, rfl, h5⟩
    · have hw0 : IntKind.i64.wrap ((st.length : Int) - 0) = (st.length : Int) := by rw [wrap_small] <;> omega
      have hs0 : st.length - st.length = 0 := by omega
      have hd0 : (st.map (matT w.size)).drop st.length = [] := by simp
      have ht0 : (st.map (matT w.size)).take st.length = st.map (matT w.size) := List.take_of_length_le (by simp)
      rcases hk with hk | hk <;> simp only at hk <;> subst hk
      · repeat' first
          | refine AV.seq ?_
          | refine AV.block ?_
          | ((first | refine AV.reg ?_ | refine AV.regD mixed ?_); simp only [hN, c11R0, c11R1, c11R2, c11R3, c11R5, c11R6, c11R7, c11R4, c11R8, rxT, List.length_map, hp, pcT, S4.ts, tk0, hw0, hs0, hd0, ht0, matT, go_sem, Nat.reduceSub, reduceIte, Nat.reduceEqDiff, Nat.reduceLT, Nat.reduceMul, Nat.reduceAdd, Nat.reduceBEq, Nat.reduceLeDiff, Int.reduceLT, Int.reduceLE, Int.reduceNeg, Int.reduceBEq, Int.reduceBNe, Int.reduceToNat]; repeat (simp (disch := omega) only [wrap_small, getD_map_lt, getD_range]; try simp only [go_sem, Nat.reduceSub, reduceIte, Nat.reduceEqDiff, Nat.reduceLT, Nat.reduceMul, Nat.reduceAdd, Nat.reduceBEq, Nat.reduceLeDiff, Int.reduceLT, Int.reduceLE, Int.reduceNeg, Int.reduceBEq, Int.reduceBNe, Int.reduceToNat, rxT, List.length_map, hp, pcT, S4.ts, tk0, hw0, hs0, hd0, ht0, matT]))
          | (refine AV.cond ?_ ?_ (fun hc => ?_) (fun hc => ?_) <;> (try simp only [go_sem, Nat.reduceSub, reduceIte, Nat.reduceEqDiff, Nat.reduceLT, Nat.reduceMul, Nat.reduceAdd, Nat.reduceBEq, Nat.reduceLeDiff, Int.reduceLT, Int.reduceLE, Int.reduceNeg, Int.reduceBEq, Int.reduceBNe, Int.reduceToNat, beq_iff_eq, beq_eq_false_iff_ne] at hc) <;> (try simp only [go_sem, Nat.reduceSub, reduceIte, Nat.reduceEqDiff, Nat.reduceLT, Nat.reduceMul, Nat.reduceAdd, Nat.reduceBEq, Nat.reduceLeDiff, Int.reduceLT, Int.reduceLE, Int.reduceNeg, Int.reduceBEq, Int.reduceBNe, Int.reduceToNat]))
          | ((first | refine AV.skip ?_ | refine AV.exit ?_); simp only [go_sem, Nat.reduceSub, reduceIte, Nat.reduceEqDiff, Nat.reduceLT, Nat.reduceMul, Nat.reduceAdd, Nat.reduceBEq, Nat.reduceLeDiff, Int.reduceLT, Int.reduceLE, Int.reduceNeg, Int.reduceBEq, Int.reduceBNe, Int.reduceToNat])
          | ((first | refine ⟨_, _, takes40_spec _, rfl, ?_⟩ | refine ⟨_, _, takes40_spec _, ?_⟩ | refine ⟨_, _, fun _ => takes40_spec _, rfl, fun _ => trivial, ?_⟩ | refine ⟨_, _, spans41_0 ps w hw, flat_mat _ _, rfl, ?_⟩ | refine ⟨_, _, spans41_0 ps w hw, flat_mat _ _, ?_⟩ | refine ⟨_, _, fun _ => spans41_0 ps w hw, flat_mat _ _, rfl, fun _ => trivial, ?_⟩); (try simp only [go_sem, Nat.reduceSub, reduceIte, Nat.reduceEqDiff, Nat.reduceLT, Nat.reduceMul, Nat.reduceAdd, Nat.reduceBEq, Nat.reduceLeDiff, Int.reduceLT, Int.reduceLE, Int.reduceNeg, Int.reduceBEq, Int.reduceBNe, Int.reduceToNat, rxT, List.length_map, hp, pcT, S4.ts, tk0, hw0, hs0, hd0, ht0, matT]); repeat (simp (disch := omega) only [wrap_small, getD_map_lt, getD_range]; try simp only [go_sem, Nat.reduceSub, reduceIte, Nat.reduceEqDiff, Nat.reduceLT, Nat.reduceMul, Nat.reduceAdd, Nat.reduceBEq, Nat.reduceLeDiff, Int.reduceLT, Int.reduceLE, Int.reduceNeg, Int.reduceBEq, Int.reduceBNe, Int.reduceToNat, rxT, List.length_map, hp, pcT, S4.ts, tk0, hw0, hs0, hd0, ht0, matT]))
          | ((first | refine ⟨.sh, .bool false, rfl, trivial, ?_⟩ | refine ⟨.sh, .bool false, rfl, ?_⟩); try simp only [go_sem, Nat.reduceSub, reduceIte, Nat.reduceEqDiff, Nat.reduceLT, Nat.reduceMul, Nat.reduceAdd, Nat.reduceBEq, Nat.reduceLeDiff, Int.reduceLT, Int.reduceLE, Int.reduceNeg, Int.reduceBEq, Int.reduceBNe, Int.reduceToNat])
          | (refine AV.ret ?_; (try simp only [go_sem, Nat.reduceSub, reduceIte, Nat.reduceEqDiff, Nat.reduceLT, Nat.reduceMul, Nat.reduceAdd, Nat.reduceBEq, Nat.reduceLeDiff, Int.reduceLT, Int.reduceLE, Int.reduceNeg, Int.reduceBEq, Int.reduceBNe, Int.reduceToNat]); first | refine atEnd_t (by simp only [go_sem, Nat.reduceSub, reduceIte, Nat.reduceEqDiff, Nat.reduceLT, Nat.reduceMul, Nat.reduceAdd, Nat.reduceBEq, Nat.reduceLeDiff, Int.reduceLT, Int.reduceLE, Int.reduceNeg, Int.reduceBEq, Int.reduceBNe, Int.reduceToNat] <;> rfl) ?_ (by first | (simp [rxT]; done) | exact leftT_tup _) | refine atEnd_c (by simp only [go_sem, Nat.reduceSub, reduceIte, Nat.reduceEqDiff, Nat.reduceLT, Nat.reduceMul, Nat.reduceAdd, Nat.reduceBEq, Nat.reduceLeDiff, Int.reduceLT, Int.reduceLE, Int.reduceNeg, Int.reduceBEq, Int.reduceBNe, Int.reduceToNat] <;> rfl) ?_ (by first | (simp [rxT]; done) | exact leftT_tup _) | refine atEnd_ct (by simp only [go_sem, Nat.reduceSub, reduceIte, Nat.reduceEqDiff, Nat.reduceLT, Nat.reduceMul, Nat.reduceAdd, Nat.reduceBEq, Nat.reduceLeDiff, Int.reduceLT, Int.reduceLE, Int.reduceNeg, Int.reduceBEq, Int.reduceBNe, Int.reduceToNat] <;> rfl) ?_ (by first | (simp; done) | exact leftT_tup _) (by simp only [go_sem, Nat.reduceSub, reduceIte, Nat.reduceEqDiff, Nat.reduceLT, Nat.reduceMul, Nat.reduceAdd, Nat.reduceBEq, Nat.reduceLeDiff, Int.reduceLT, Int.reduceLE, Int.reduceNeg, Int.reduceBEq, Int.reduceBNe, Int.reduceToNat] <;> rfl) ?_ (by simp) | refine atEnd_o (by simp only [go_sem, Nat.reduceSub, reduceIte, Nat.reduceEqDiff, Nat.reduceLT, Nat.reduceMul, Nat.reduceAdd, Nat.reduceBEq, Nat.reduceLeDiff, Int.reduceLT, Int.reduceLE, Int.reduceNeg, Int.reduceBEq, Int.reduceBNe, Int.reduceToNat] <;> rfl) ?_)
          | (refine And.intro ?_ ?_)
          | (with_reducible intro _)
        all_goals try first | exact True.intro | omega | exact ⟨_, _, rfl⟩ | exact allSolid_pcs _ | exact allSolid_one _ | exact allSolid_bool _ | rfl
        · exact allSolid_mat _ _
        · exact ⟨m - 1, by omega, i + 1, st ++ [spansB w ⟨0, ps⟩ []], by omega, by simp; omega, by simpa using h5, by rw [h4, runM_leaf _ _ _ _ tk0], by simp [rxT, matT]⟩
      · repeat' first
          | refine AV.seq ?_
          | refine AV.block ?_
          | ((first | refine AV.reg ?_ | refine AV.regD mixed ?_); simp only [hN, c11R0, c11R1, c11R2, c11R3, c11R5, c11R6, c11R7, c11R4, c11R8, rxT, List.length_map, hp, pcT, S4.ts, tk1, hw0, hs0, hd0, ht0, matT, go_sem, Nat.reduceSub, reduceIte, Nat.reduceEqDiff, Nat.reduceLT, Nat.reduceMul, Nat.reduceAdd, Nat.reduceBEq, Nat.reduceLeDiff, Int.reduceLT, Int.reduceLE, Int.reduceNeg, Int.reduceBEq, Int.reduceBNe, Int.reduceToNat]; repeat (simp (disch := omega) only [wrap_small, getD_map_lt, getD_range]; try simp only [go_sem, Nat.reduceSub, reduceIte, Nat.reduceEqDiff, Nat.reduceLT, Nat.reduceMul, Nat.reduceAdd, Nat.reduceBEq, Nat.reduceLeDiff, Int.reduceLT, Int.reduceLE, Int.reduceNeg, Int.reduceBEq, Int.reduceBNe, Int.reduceToNat, rxT, List.length_map, hp, pcT, S4.ts, tk1, hw0, hs0, hd0, ht0, matT]))
          | (refine AV.cond ?_ ?_ (fun hc => ?_) (fun hc => ?_) <;> (try simp only [go_sem, Nat.reduceSub, reduceIte, Nat.reduceEqDiff, Nat.reduceLT, Nat.reduceMul, Nat.reduceAdd, Nat.reduceBEq, Nat.reduceLeDiff, Int.reduceLT, Int.reduceLE, Int.reduceNeg, Int.reduceBEq, Int.reduceBNe, Int.reduceToNat, beq_iff_eq, beq_eq_false_iff_ne] at hc) <;> (try simp only [go_sem, Nat.reduceSub, reduceIte, Nat.reduceEqDiff, Nat.reduceLT, Nat.reduceMul, Nat.reduceAdd, Nat.reduceBEq, Nat.reduceLeDiff, Int.reduceLT, Int.reduceLE, Int.reduceNeg, Int.reduceBEq, Int.reduceBNe, Int.reduceToNat]))
          | ((first | refine AV.skip ?_ | refine AV.exit ?_); simp only [go_sem, Nat.reduceSub, reduceIte, Nat.reduceEqDiff, Nat.reduceLT, Nat.reduceMul, Nat.reduceAdd, Nat.reduceBEq, Nat.reduceLeDiff, Int.reduceLT, Int.reduceLE, Int.reduceNeg, Int.reduceBEq, Int.reduceBNe, Int.reduceToNat])
          | ((first | refine ⟨_, _, takes40_spec _, rfl, ?_⟩ | refine ⟨_, _, takes40_spec _, ?_⟩ | refine ⟨_, _, fun _ => takes40_spec _, rfl, fun _ => trivial, ?_⟩ | refine ⟨_, _, spans41_1 ps w hw, flat_mat _ _, rfl, ?_⟩ | refine ⟨_, _, spans41_1 ps w hw, flat_mat _ _, ?_⟩ | refine ⟨_, _, fun _ => spans41_1 ps w hw, flat_mat _ _, rfl, fun _ => trivial, ?_⟩); (try simp only [go_sem, Nat.reduceSub, reduceIte, Nat.reduceEqDiff, Nat.reduceLT, Nat.reduceMul, Nat.reduceAdd, Nat.reduceBEq, Nat.reduceLeDiff, Int.reduceLT, Int.reduceLE, Int.reduceNeg, Int.reduceBEq, Int.reduceBNe, Int.reduceToNat, rxT, List.length_map, hp, pcT, S4.ts, tk1, hw0, hs0, hd0, ht0, matT]); repeat (simp (disch := omega) only [wrap_small, getD_map_lt, getD_range]; try simp only [go_sem, Nat.reduceSub, reduceIte, Nat.reduceEqDiff, Nat.reduceLT, Nat.reduceMul, Nat.reduceAdd, Nat.reduceBEq, Nat.reduceLeDiff, Int.reduceLT, Int.reduceLE, Int.reduceNeg, Int.reduceBEq, Int.reduceBNe, Int.reduceToNat, rxT, List.length_map, hp, pcT, S4.ts, tk1, hw0, hs0, hd0, ht0, matT]))
          | ((first | refine ⟨.sh, .bool false, rfl, trivial, ?_⟩ | refine ⟨.sh, .bool false, rfl, ?_⟩); try simp only [go_sem, Nat.reduceSub, reduceIte, Nat.reduceEqDiff, Nat.reduceLT, Nat.reduceMul, Nat.reduceAdd, Nat.reduceBEq, Nat.reduceLeDiff, Int.reduceLT, Int.reduceLE, Int.reduceNeg, Int.reduceBEq, Int.reduceBNe, Int.reduceToNat])
          | (refine AV.ret ?_; (try simp only [go_sem, Nat.reduceSub, reduceIte, Nat.reduceEqDiff, Nat.reduceLT, Nat.reduceMul, Nat.reduceAdd, Nat.reduceBEq, Nat.reduceLeDiff, Int.reduceLT, Int.reduceLE, Int.reduceNeg, Int.reduceBEq, Int.reduceBNe, Int.reduceToNat]); first | refine atEnd_t (by simp only [go_sem, Nat.reduceSub, reduceIte, Nat.reduceEqDiff, Nat.reduceLT, Nat.reduceMul, Nat.reduceAdd, Nat.reduceBEq, Nat.reduceLeDiff, Int.reduceLT, Int.reduceLE, Int.reduceNeg, Int.reduceBEq, Int.reduceBNe, Int.reduceToNat] <;> rfl) ?_ (by first | (simp [rxT]; done) | exact leftT_tup _) | refine atEnd_c (by simp only [go_sem, Nat.reduceSub, reduceIte, Nat.reduceEqDiff, Nat.reduceLT, Nat.reduceMul, Nat.reduceAdd, Nat.reduceBEq, Nat.reduceLeDiff, Int.reduceLT, Int.reduceLE, Int.reduceNeg, Int.reduceBEq, Int.reduceBNe, Int.reduceToNat] <;> rfl) ?_ (by first | (simp [rxT]; done) | exact leftT_tup _) | refine atEnd_ct (by simp only [go_sem, Nat.reduceSub, reduceIte, Nat.reduceEqDiff, Nat.reduceLT, Nat.reduceMul, Nat.reduceAdd, Nat.reduceBEq, Nat.reduceLeDiff, Int.reduceLT, Int.reduceLE, Int.reduceNeg, Int.reduceBEq, Int.reduceBNe, Int.reduceToNat] <;> rfl) ?_ (by first | (simp; done) | exact leftT_tup _) (by simp only [go_sem, Nat.reduceSub, reduceIte, Nat.reduceEqDiff, Nat.reduceLT, Nat.reduceMul, Nat.reduceAdd, Nat.reduceBEq, Nat.reduceLeDiff, Int.reduceLT, Int.reduceLE, Int.reduceNeg, Int.reduceBEq, Int.reduceBNe, Int.reduceToNat] <;> rfl) ?_ (by simp) | refine atEnd_o (by simp only [go_sem, Nat.reduceSub, reduceIte, Nat.reduceEqDiff, Nat.reduceLT, Nat.reduceMul, Nat.reduceAdd, Nat.reduceBEq, Nat.reduceLeDiff, Int.reduceLT, Int.reduceLE, Int.reduceNeg, Int.reduceBEq, Int.reduceBNe, Int.reduceToNat] <;> rfl) ?_)
          | (refine And.intro ?_ ?_)
          | (with_reducible intro _)
        all_goals try first | exact True.intro | omega | exact ⟨_, _, rfl⟩ | exact allSolid_pcs _ | exact allSolid_one _ | exact allSolid_bool _ | rfl
        · exact allSolid_mat _ _
        · exact ⟨m - 1, by omega, i + 1, st ++ [spansB w ⟨1, ps⟩ []], by omega, by simp; omega, by simpa using h5, by rw [h4, runM_leaf _ _ _ _ tk1], by simp [rxT, matT]⟩
    · have hl : (st' ++ [f]).length = st'.length + 1 := by simp
      rw [hl] at h2
      have hw0 : IntKind.i64.wrap (((st'.length + 1 : Nat) : Int) - 1) = (st'.length : Int) := by rw [wrap_small] <;> omega
      have hs0 : st'.length + 1 - st'.length = 1 := by omega
      have hd0 : ((st' ++ [f]).map (matT w.size)).drop st'.length = [matT w.size f] := by simp
      have ht0 : ((st' ++ [f]).map (matT w.size)).take st'.length = st'.map (matT w.size) := by simp
      rcases hk with hk | hk | hk <;> simp only at hk <;> subst hk
      · repeat' first
          | refine AV.seq ?_
          | refine AV.block ?_
          | ((first | refine AV.reg ?_ | refine AV.regD mixed ?_); simp only [hN, c11R0, c11R1, c11R2, c11R3, c11R5, c11R6, c11R7, c11R4, c11R8, rxT, List.length_map, hp, pcT, S4.ts, tk4, hl, hw0, hs0, hd0, ht0, matT, go_sem, Nat.reduceSub, reduceIte, Nat.reduceEqDiff, Nat.reduceLT, Nat.reduceMul, Nat.reduceAdd, Nat.reduceBEq, Nat.reduceLeDiff, Int.reduceLT, Int.reduceLE, Int.reduceNeg, Int.reduceBEq, Int.reduceBNe, Int.reduceToNat]; repeat (simp (disch := omega) only [wrap_small, getD_map_lt, getD_range]; try simp only [go_sem, Nat.reduceSub, reduceIte, Nat.reduceEqDiff, Nat.reduceLT, Nat.reduceMul, Nat.reduceAdd, Nat.reduceBEq, Nat.reduceLeDiff, Int.reduceLT, Int.reduceLE, Int.reduceNeg, Int.reduceBEq, Int.reduceBNe, Int.reduceToNat, rxT, List.length_map, hp, pcT, S4.ts, tk4, hl, hw0, hs0, hd0, ht0, matT]))
          | (refine AV.cond ?_ ?_ (fun hc => ?_) (fun hc => ?_) <;> (try simp only [go_sem, Nat.reduceSub, reduceIte, Nat.reduceEqDiff, Nat.reduceLT, Nat.reduceMul, Nat.reduceAdd, Nat.reduceBEq, Nat.reduceLeDiff, Int.reduceLT, Int.reduceLE, Int.reduceNeg, Int.reduceBEq, Int.reduceBNe, Int.reduceToNat, beq_iff_eq, beq_eq_false_iff_ne] at hc) <;> (try simp only [go_sem, Nat.reduceSub, reduceIte, Nat.reduceEqDiff, Nat.reduceLT, Nat.reduceMul, Nat.reduceAdd, Nat.reduceBEq, Nat.reduceLeDiff, Int.reduceLT, Int.reduceLE, Int.reduceNeg, Int.reduceBEq, Int.reduceBNe, Int.reduceToNat]))
          | ((first | refine AV.skip ?_ | refine AV.exit ?_); simp only [go_sem, Nat.reduceSub, reduceIte, Nat.reduceEqDiff, Nat.reduceLT, Nat.reduceMul, Nat.reduceAdd, Nat.reduceBEq, Nat.reduceLeDiff, Int.reduceLT, Int.reduceLE, Int.reduceNeg, Int.reduceBEq, Int.reduceBNe, Int.reduceToNat])
          | ((first | refine ⟨_, _, takes40_spec _, rfl, ?_⟩ | refine ⟨_, _, takes40_spec _, ?_⟩ | refine ⟨_, _, fun _ => takes40_spec _, rfl, fun _ => trivial, ?_⟩ | refine ⟨_, _, spans41_4 ps w hw f, flat_mat _ _, rfl, ?_⟩ | refine ⟨_, _, spans41_4 ps w hw f, flat_mat _ _, ?_⟩ | refine ⟨_, _, fun _ => spans41_4 ps w hw f, flat_mat _ _, rfl, fun _ => trivial, ?_⟩); (try simp only [go_sem, Nat.reduceSub, reduceIte, Nat.reduceEqDiff, Nat.reduceLT, Nat.reduceMul, Nat.reduceAdd, Nat.reduceBEq, Nat.reduceLeDiff, Int.reduceLT, Int.reduceLE, Int.reduceNeg, Int.reduceBEq, Int.reduceBNe, Int.reduceToNat, rxT, List.length_map, hp, pcT, S4.ts, tk4, hl, hw0, hs0, hd0, ht0, matT]); repeat (simp (disch := omega) only [wrap_small, getD_map_lt, getD_range]; try simp only [go_sem, Nat.reduceSub, reduceIte, Nat.reduceEqDiff, Nat.reduceLT, Nat.reduceMul, Nat.reduceAdd, Nat.reduceBEq, Nat.reduceLeDiff, Int.reduceLT, Int.reduceLE, Int.reduceNeg, Int.reduceBEq, Int.reduceBNe, Int.reduceToNat, rxT, List.length_map, hp, pcT, S4.ts, tk4, hl, hw0, hs0, hd0, ht0, matT]))
          | ((first | refine ⟨.sh, .bool false, rfl, trivial, ?_⟩ | refine ⟨.sh, .bool false, rfl, ?_⟩); try simp only [go_sem, Nat.reduceSub, reduceIte, Nat.reduceEqDiff, Nat.reduceLT, Nat.reduceMul, Nat.reduceAdd, Nat.reduceBEq, Nat.reduceLeDiff, Int.reduceLT, Int.reduceLE, Int.reduceNeg, Int.reduceBEq, Int.reduceBNe, Int.reduceToNat])
          | (refine AV.ret ?_; (try simp only [go_sem, Nat.reduceSub, reduceIte, Nat.reduceEqDiff, Nat.reduceLT, Nat.reduceMul, Nat.reduceAdd, Nat.reduceBEq, Nat.reduceLeDiff, Int.reduceLT, Int.reduceLE, Int.reduceNeg, Int.reduceBEq, Int.reduceBNe, Int.reduceToNat]); first | refine atEnd_t (by simp only [go_sem, Nat.reduceSub, reduceIte, Nat.reduceEqDiff, Nat.reduceLT, Nat.reduceMul, Nat.reduceAdd, Nat.reduceBEq, Nat.reduceLeDiff, Int.reduceLT, Int.reduceLE, Int.reduceNeg, Int.reduceBEq, Int.reduceBNe, Int.reduceToNat] <;> rfl) ?_ (by first | (simp [rxT]; done) | exact leftT_tup _) | refine atEnd_c (by simp only [go_sem, Nat.reduceSub, reduceIte, Nat.reduceEqDiff, Nat.reduceLT, Nat.reduceMul, Nat.reduceAdd, Nat.reduceBEq, Nat.reduceLeDiff, Int.reduceLT, Int.reduceLE, Int.reduceNeg, Int.reduceBEq, Int.reduceBNe, Int.reduceToNat] <;> rfl) ?_ (by first | (simp [rxT]; done) | exact leftT_tup _) | refine atEnd_ct (by simp only [go_sem, Nat.reduceSub, reduceIte, Nat.reduceEqDiff, Nat.reduceLT, Nat.reduceMul, Nat.reduceAdd, Nat.reduceBEq, Nat.reduceLeDiff, Int.reduceLT, Int.reduceLE, Int.reduceNeg, Int.reduceBEq, Int.reduceBNe, Int.reduceToNat] <;> rfl) ?_ (by first | (simp; done) | exact leftT_tup _) (by simp only [go_sem, Nat.reduceSub, reduceIte, Nat.reduceEqDiff, Nat.reduceLT, Nat.reduceMul, Nat.reduceAdd, Nat.reduceBEq, Nat.reduceLeDiff, Int.reduceLT, Int.reduceLE, Int.reduceNeg, Int.reduceBEq, Int.reduceBNe, Int.reduceToNat] <;> rfl) ?_ (by simp) | refine atEnd_o (by simp only [go_sem, Nat.reduceSub, reduceIte, Nat.reduceEqDiff, Nat.reduceLT, Nat.reduceMul, Nat.reduceAdd, Nat.reduceBEq, Nat.reduceLeDiff, Int.reduceLT, Int.reduceLE, Int.reduceNeg, Int.reduceBEq, Int.reduceBNe, Int.reduceToNat] <;> rfl) ?_)
          | (refine And.intro ?_ ?_)
          | (with_reducible intro _)
        all_goals try first | exact True.intro | omega | exact ⟨_, _, rfl⟩ | exact allSolid_pcs _ | exact allSolid_one _ | exact allSolid_bool _ | rfl
        · exact allSolid_mat _ _
        · exact ⟨m - 1, by omega, i + 1, st' ++ [spansB w ⟨4, ps⟩ [f]], by omega, by simp; omega, by simpa using h5, by rw [h4, runM_un _ _ _ _ _ tk4], by simp [rxT, matT]⟩
      · repeat' first
          | refine AV.seq ?_
          | refine AV.block ?_
          | ((first | refine AV.reg ?_ | refine AV.regD mixed ?_); simp only [hN, c11R0, c11R1, c11R2, c11R3, c11R5, c11R6, c11R7, c11R4, c11R8, rxT, List.length_map, hp, pcT, S4.ts, tk5, hl, hw0, hs0, hd0, ht0, matT, go_sem, Nat.reduceSub, reduceIte, Nat.reduceEqDiff, Nat.reduceLT, Nat.reduceMul, Nat.reduceAdd, Nat.reduceBEq, Nat.reduceLeDiff, Int.reduceLT, Int.reduceLE, Int.reduceNeg, Int.reduceBEq, Int.reduceBNe, Int.reduceToNat]; repeat (simp (disch := omega) only [wrap_small, getD_map_lt, getD_range]; try simp only [go_sem, Nat.reduceSub, reduceIte, Nat.reduceEqDiff, Nat.reduceLT, Nat.reduceMul, Nat.reduceAdd, Nat.reduceBEq, Nat.reduceLeDiff, Int.reduceLT, Int.reduceLE, Int.reduceNeg, Int.reduceBEq, Int.reduceBNe, Int.reduceToNat, rxT, List.length_map, hp, pcT, S4.ts, tk5, hl, hw0, hs0, hd0, ht0, matT]))
          | (refine AV.cond ?_ ?_ (fun hc => ?_) (fun hc => ?_) <;> (try simp only [go_sem, Nat.reduceSub, reduceIte, Nat.reduceEqDiff, Nat.reduceLT, Nat.reduceMul, Nat.reduceAdd, Nat.reduceBEq, Nat.reduceLeDiff, Int.reduceLT, Int.reduceLE, Int.reduceNeg, Int.reduceBEq, Int.reduceBNe, Int.reduceToNat, beq_iff_eq, beq_eq_false_iff_ne] at hc) <;> (try simp only [go_sem, Nat.reduceSub, reduceIte, Nat.reduceEqDiff, Nat.reduceLT, Nat.reduceMul, Nat.reduceAdd, Nat.reduceBEq, Nat.reduceLeDiff, Int.reduceLT, Int.reduceLE, Int.reduceNeg, Int.reduceBEq, Int.reduceBNe, Int.reduceToNat]))
          | ((first | refine AV.skip ?_ | refine AV.exit ?_); simp only [go_sem, Nat.reduceSub, reduceIte, Nat.reduceEqDiff, Nat.reduceLT, Nat.reduceMul, Nat.reduceAdd, Nat.reduceBEq, Nat.reduceLeDiff, Int.reduceLT, Int.reduceLE, Int.reduceNeg, Int.reduceBEq, Int.reduceBNe, Int.reduceToNat])
          | ((first | refine ⟨_, _, takes40_spec _, rfl, ?_⟩ | refine ⟨_, _, takes40_spec _, ?_⟩ | refine ⟨_, _, fun _ => takes40_spec _, rfl, fun _ => trivial, ?_⟩ | refine ⟨_, _, spans41_5 ps w hw f, flat_mat _ _, rfl, ?_⟩ | refine ⟨_, _, spans41_5 ps w hw f, flat_mat _ _, ?_⟩ | refine ⟨_, _, fun _ => spans41_5 ps w hw f, flat_mat _ _, rfl, fun _ => trivial, ?_⟩); (try simp only [go_sem, Nat.reduceSub, reduceIte, Nat.reduceEqDiff, Nat.reduceLT, Nat.reduceMul, Nat.reduceAdd, Nat.reduceBEq, Nat.reduceLeDiff, Int.reduceLT, Int.reduceLE, Int.reduceNeg, Int.reduceBEq, Int.reduceBNe, Int.reduceToNat, rxT, List.length_map, hp, pcT, S4.ts, tk5, hl, hw0, hs0, hd0, ht0, matT]); repeat (simp (disch := omega) only [wrap_small, getD_map_lt, getD_range]; try simp only [go_sem, Nat.reduceSub, reduceIte, Nat.reduceEqDiff, Nat.reduceLT, Nat.reduceMul, Nat.reduceAdd, Nat.reduceBEq, Nat.reduceLeDiff, Int.reduceLT, Int.reduceLE, Int.reduceNeg, Int.reduceBEq, Int.reduceBNe, Int.reduceToNat, rxT, List.length_map, hp, pcT, S4.ts, tk5, hl, hw0, hs0, hd0, ht0, matT]))
          | ((first | refine ⟨.sh, .bool false, rfl, trivial, ?_⟩ | refine ⟨.sh, .bool false, rfl, ?_⟩); try simp only [go_sem, Nat.reduceSub, reduceIte, Nat.reduceEqDiff, Nat.reduceLT, Nat.reduceMul, Nat.reduceAdd, Nat.reduceBEq, Nat.reduceLeDiff, Int.reduceLT, Int.reduceLE, Int.reduceNeg, Int.reduceBEq, Int.reduceBNe, Int.reduceToNat])
          | (refine AV.ret ?_; (try simp only [go_sem, Nat.reduceSub, reduceIte, Nat.reduceEqDiff, Nat.reduceLT, Nat.reduceMul, Nat.reduceAdd, Nat.reduceBEq, Nat.reduceLeDiff, Int.reduceLT, Int.reduceLE, Int.reduceNeg, Int.reduceBEq, Int.reduceBNe, Int.reduceToNat]); first | refine atEnd_t (by simp only [go_sem, Nat.reduceSub, reduceIte, Nat.reduceEqDiff, Nat.reduceLT, Nat.reduceMul, Nat.reduceAdd, Nat.reduceBEq, Nat.reduceLeDiff, Int.reduceLT, Int.reduceLE, Int.reduceNeg, Int.reduceBEq, Int.reduceBNe, Int.reduceToNat] <;> rfl) ?_ (by first | (simp [rxT]; done) | exact leftT_tup _) | refine atEnd_c (by simp only [go_sem, Nat.reduceSub, reduceIte, Nat.reduceEqDiff, Nat.reduceLT, Nat.reduceMul, Nat.reduceAdd, Nat.reduceBEq, Nat.reduceLeDiff, Int.reduceLT, Int.reduceLE, Int.reduceNeg, Int.reduceBEq, Int.reduceBNe, Int.reduceToNat] <;> rfl) ?_ (by first | (simp [rxT]; done) | exact leftT_tup _) | refine atEnd_ct (by simp only [go_sem, Nat.reduceSub, reduceIte, Nat.reduceEqDiff, Nat.reduceLT, Nat.reduceMul, Nat.reduceAdd, Nat.reduceBEq, Nat.reduceLeDiff, Int.reduceLT, Int.reduceLE, Int.reduceNeg, Int.reduceBEq, Int.reduceBNe, Int.reduceToNat] <;> rfl) ?_ (by first | (simp; done) | exact leftT_tup _) (by simp only [go_sem, Nat.reduceSub, reduceIte, Nat.reduceEqDiff, Nat.reduceLT, Nat.reduceMul, Nat.reduceAdd, Nat.reduceBEq, Nat.reduceLeDiff, Int.reduceLT, Int.reduceLE, Int.reduceNeg, Int.reduceBEq, Int.reduceBNe, Int.reduceToNat] <;> rfl) ?_ (by simp) | refine atEnd_o (by simp only [go_sem, Nat.reduceSub, reduceIte, Nat.reduceEqDiff, Nat.reduceLT, Nat.reduceMul, Nat.reduceAdd, Nat.reduceBEq, Nat.reduceLeDiff, Int.reduceLT, Int.reduceLE, Int.reduceNeg, Int.reduceBEq, Int.reduceBNe, Int.reduceToNat] <;> rfl) ?_)
          | (refine And.intro ?_ ?_)
          | (with_reducible intro _)
        all_goals try first | exact True.intro | omega | exact ⟨_, _, rfl⟩ | exact allSolid_pcs _ | exact allSolid_one _ | exact allSolid_bool _ | rfl
        · exact allSolid_mat _ _
        · exact ⟨m - 1, by omega, i + 1, st' ++ [spansB w ⟨5, ps⟩ [f]], by omega, by simp; omega, by simpa using h5, by rw [h4, runM_un _ _ _ _ _ tk5], by simp [rxT, matT]⟩
      · repeat' first
          | refine AV.seq ?_
          | refine AV.block ?_
          | ((first | refine AV.reg ?_ | refine AV.regD mixed ?_); simp only [hN, c11R0, c11R1, c11R2, c11R3, c11R5, c11R6, c11R7, c11R4, c11R8, rxT, List.length_map, hp, pcT, S4.ts, tk6, hl, hw0, hs0, hd0, ht0, matT, go_sem, Nat.reduceSub, reduceIte, Nat.reduceEqDiff, Nat.reduceLT, Nat.reduceMul, Nat.reduceAdd, Nat.reduceBEq, Nat.reduceLeDiff, Int.reduceLT, Int.reduceLE, Int.reduceNeg, Int.reduceBEq, Int.reduceBNe, Int.reduceToNat]; repeat (simp (disch := omega) only [wrap_small, getD_map_lt, getD_range]; try simp only [go_sem, Nat.reduceSub, reduceIte, Nat.reduceEqDiff, Nat.reduceLT, Nat.reduceMul, Nat.reduceAdd, Nat.reduceBEq, Nat.reduceLeDiff, Int.reduceLT, Int.reduceLE, Int.reduceNeg, Int.reduceBEq, Int.reduceBNe, Int.reduceToNat, rxT, List.length_map, hp, pcT, S4.ts, tk6, hl, hw0, hs0, hd0, ht0, matT]))
          | (refine AV.cond ?_ ?_ (fun hc => ?_) (fun hc => ?_) <;> (try simp only [go_sem, Nat.reduceSub, reduceIte, Nat.reduceEqDiff, Nat.reduceLT, Nat.reduceMul, Nat.reduceAdd, Nat.reduceBEq, Nat.reduceLeDiff, Int.reduceLT, Int.reduceLE, Int.reduceNeg, Int.reduceBEq, Int.reduceBNe, Int.reduceToNat, beq_iff_eq, beq_eq_false_iff_ne] at hc) <;> (try simp only [go_sem, Nat.reduceSub, reduceIte, Nat.reduceEqDiff, Nat.reduceLT, Nat.reduceMul, Nat.reduceAdd, Nat.reduceBEq, Nat.reduceLeDiff, Int.reduceLT, Int.reduceLE, Int.reduceNeg, Int.reduceBEq, Int.reduceBNe, Int.reduceToNat]))
          | ((first | refine AV.skip ?_ | refine AV.exit ?_); simp only [go_sem, Nat.reduceSub, reduceIte, Nat.reduceEqDiff, Nat.reduceLT, Nat.reduceMul, Nat.reduceAdd, Nat.reduceBEq, Nat.reduceLeDiff, Int.reduceLT, Int.reduceLE, Int.reduceNeg, Int.reduceBEq, Int.reduceBNe, Int.reduceToNat])
          | ((first | refine ⟨_, _, takes40_spec _, rfl, ?_⟩ | refine ⟨_, _, takes40_spec _, ?_⟩ | refine ⟨_, _, fun _ => takes40_spec _, rfl, fun _ => trivial, ?_⟩ | refine ⟨_, _, spans41_6 ps w hw f, flat_mat _ _, rfl, ?_⟩ | refine ⟨_, _, spans41_6 ps w hw f, flat_mat _ _, ?_⟩ | refine ⟨_, _, fun _ => spans41_6 ps w hw f, flat_mat _ _, rfl, fun _ => trivial, ?_⟩); (try simp only [go_sem, Nat.reduceSub, reduceIte, Nat.reduceEqDiff, Nat.reduceLT, Nat.reduceMul, Nat.reduceAdd, Nat.reduceBEq, Nat.reduceLeDiff, Int.reduceLT, Int.reduceLE, Int.reduceNeg, Int.reduceBEq, Int.reduceBNe, Int.reduceToNat, rxT, List.length_map, hp, pcT, S4.ts, tk6, hl, hw0, hs0, hd0, ht0, matT]); repeat (simp (disch := omega) only [wrap_small, getD_map_lt, getD_range]; try simp only [go_sem, Nat.reduceSub, reduceIte, Nat.reduceEqDiff, Nat.reduceLT, Nat.reduceMul, Nat.reduceAdd, Nat.reduceBEq, Nat.reduceLeDiff, Int.reduceLT, Int.reduceLE, Int.reduceNeg, Int.reduceBEq, Int.reduceBNe, Int.reduceToNat, rxT, List.length_map, hp, pcT, S4.ts, tk6, hl, hw0, hs0, hd0, ht0, matT]))
          | ((first | refine ⟨.sh, .bool false, rfl, trivial, ?_⟩ | refine ⟨.sh, .bool false, rfl, ?_⟩); try simp only [go_sem, Nat.reduceSub, reduceIte, Nat.reduceEqDiff, Nat.reduceLT, Nat.reduceMul, Nat.reduceAdd, Nat.reduceBEq, Nat.reduceLeDiff, Int.reduceLT, Int.reduceLE, Int.reduceNeg, Int.reduceBEq, Int.reduceBNe, Int.reduceToNat])
          | (refine AV.ret ?_; (try simp only [go_sem, Nat.reduceSub, reduceIte, Nat.reduceEqDiff, Nat.reduceLT, Nat.reduceMul, Nat.reduceAdd, Nat.reduceBEq, Nat.reduceLeDiff, Int.reduceLT, Int.reduceLE, Int.reduceNeg, Int.reduceBEq, Int.reduceBNe, Int.reduceToNat]); first | refine atEnd_t (by simp only [go_sem, Nat.reduceSub, reduceIte, Nat.reduceEqDiff, Nat.reduceLT, Nat.reduceMul, Nat.reduceAdd, Nat.reduceBEq, Nat.reduceLeDiff, Int.reduceLT, Int.reduceLE, Int.reduceNeg, Int.reduceBEq, Int.reduceBNe, Int.reduceToNat] <;> rfl) ?_ (by first | (simp [rxT]; done) | exact leftT_tup _) | refine atEnd_c (by simp only [go_sem, Nat.reduceSub, reduceIte, Nat.reduceEqDiff, Nat.reduceLT, Nat.reduceMul, Nat.reduceAdd, Nat.reduceBEq, Nat.reduceLeDiff, Int.reduceLT, Int.reduceLE, Int.reduceNeg, Int.reduceBEq, Int.reduceBNe, Int.reduceToNat] <;> rfl) ?_ (by first | (simp [rxT]; done) | exact leftT_tup _) | refine atEnd_ct (by simp only [go_sem, Nat.reduceSub, reduceIte, Nat.reduceEqDiff, Nat.reduceLT, Nat.reduceMul, Nat.reduceAdd, Nat.reduceBEq, Nat.reduceLeDiff, Int.reduceLT, Int.reduceLE, Int.reduceNeg, Int.reduceBEq, Int.reduceBNe, Int.reduceToNat] <;> rfl) ?_ (by first | (simp; done) | exact leftT_tup _) (by simp only [go_sem, Nat.reduceSub, reduceIte, Nat.reduceEqDiff, Nat.reduceLT, Nat.reduceMul, Nat.reduceAdd, Nat.reduceBEq, Nat.reduceLeDiff, Int.reduceLT, Int.reduceLE, Int.reduceNeg, Int.reduceBEq, Int.reduceBNe, Int.reduceToNat] <;> rfl) ?_ (by simp) | refine atEnd_o (by simp only [go_sem, Nat.reduceSub, reduceIte, Nat.reduceEqDiff, Nat.reduceLT, Nat.reduceMul, Nat.reduceAdd, Nat.reduceBEq, Nat.reduceLeDiff, Int.reduceLT, Int.reduceLE, Int.reduceNeg, Int.reduceBEq, Int.reduceBNe, Int.reduceToNat] <;> rfl) ?_)
          | (refine And.intro ?_ ?_)
          | (with_reducible intro _)
        all_goals try first | exact True.intro | omega | exact ⟨_, _, rfl⟩ | exact allSolid_pcs _ | exact allSolid_one _ | exact allSolid_bool _ | rfl
        · exact allSolid_mat _ _
        · exact ⟨m - 1, by omega, i + 1, st' ++ [spansB w ⟨6, ps⟩ [f]], by omega, by simp; omega, by simpa using h5, by rw [h4, runM_un _ _ _ _ _ tk6], by simp [rxT, matT]⟩
    · have hl : (st' ++ [f, g]).length = st'.length + 2 := by simp
      rw [hl] at h2
      have hw0 : IntKind.i64.wrap (((st'.length + 2 : Nat) : Int) - 2) = (st'.length : Int) := by rw [wrap_small] <;> omega
      have hs0 : st'.length + 2 - st'.length = 2 := by omega
      have hd0 : ((st' ++ [f, g]).map (matT w.size)).drop st'.length = [matT w.size f, matT w.size g] := by simp
      have ht0 : ((st' ++ [f, g]).map (matT w.size)).take st'.length = st'.map (matT w.size) := by simp
      rcases hk with hk | hk <;> simp only at hk <;> subst hk
      · repeat' first
          | refine AV.seq ?_
          | refine AV.block ?_
          | ((first | refine AV.reg ?_ | refine AV.regD mixed ?_); simp only [hN, c11R0, c11R1, c11R2, c11R3, c11R5, c11R6, c11R7, c11R4, c11R8, rxT, List.length_map, hp, pcT, S4.ts, tk2, hl, hw0, hs0, hd0, ht0, matT, go_sem, Nat.reduceSub, reduceIte, Nat.reduceEqDiff, Nat.reduceLT, Nat.reduceMul, Nat.reduceAdd, Nat.reduceBEq, Nat.reduceLeDiff, Int.reduceLT, Int.reduceLE, Int.reduceNeg, Int.reduceBEq, Int.reduceBNe, Int.reduceToNat]; repeat (simp (disch := omega) only [wrap_small, getD_map_lt, getD_range]; try simp only [go_sem, Nat.reduceSub, reduceIte, Nat.reduceEqDiff, Nat.reduceLT, Nat.reduceMul, Nat.reduceAdd, Nat.reduceBEq, Nat.reduceLeDiff, Int.reduceLT, Int.reduceLE, Int.reduceNeg, Int.reduceBEq, Int.reduceBNe, Int.reduceToNat, rxT, List.length_map, hp, pcT, S4.ts, tk2, hl, hw0, hs0, hd0, ht0, matT]))
          | (refine AV.cond ?_ ?_ (fun hc => ?_) (fun hc => ?_) <;> (try simp only [go_sem, Nat.reduceSub, reduceIte, Nat.reduceEqDiff, Nat.reduceLT, Nat.reduceMul, Nat.reduceAdd, Nat.reduceBEq, Nat.reduceLeDiff, Int.reduceLT, Int.reduceLE, Int.reduceNeg, Int.reduceBEq, Int.reduceBNe, Int.reduceToNat, beq_iff_eq, beq_eq_false_iff_ne] at hc) <;> (try simp only [go_sem, Nat.reduceSub, reduceIte, Nat.reduceEqDiff, Nat.reduceLT, Nat.reduceMul, Nat.reduceAdd, Nat.reduceBEq, Nat.reduceLeDiff, Int.reduceLT, Int.reduceLE, Int.reduceNeg, Int.reduceBEq, Int.reduceBNe, Int.reduceToNat]))
          | ((first | refine AV.skip ?_ | refine AV.exit ?_); simp only [go_sem, Nat.reduceSub, reduceIte, Nat.reduceEqDiff, Nat.reduceLT, Nat.reduceMul, Nat.reduceAdd, Nat.reduceBEq, Nat.reduceLeDiff, Int.reduceLT, Int.reduceLE, Int.reduceNeg, Int.reduceBEq, Int.reduceBNe, Int.reduceToNat])
          | ((first | refine ⟨_, _, takes40_spec _, rfl, ?_⟩ | refine ⟨_, _, takes40_spec _, ?_⟩ | refine ⟨_, _, fun _ => takes40_spec _, rfl, fun _ => trivial, ?_⟩ | refine ⟨_, _, spans41_2 ps w hw f g, flat_mat _ _, rfl, ?_⟩ | refine ⟨_, _, spans41_2 ps w hw f g, flat_mat _ _, ?_⟩ | refine ⟨_, _, fun _ => spans41_2 ps w hw f g, flat_mat _ _, rfl, fun _ => trivial, ?_⟩); (try simp only [go_sem, Nat.reduceSub, reduceIte, Nat.reduceEqDiff, Nat.reduceLT, Nat.reduceMul, Nat.reduceAdd, Nat.reduceBEq, Nat.reduceLeDiff, Int.reduceLT, Int.reduceLE, Int.reduceNeg, Int.reduceBEq, Int.reduceBNe, Int.reduceToNat, rxT, List.length_map, hp, pcT, S4.ts, tk2, hl, hw0, hs0, hd0, ht0, matT]); repeat (simp (disch := omega) only [wrap_small, getD_map_lt, getD_range]; try simp only [go_sem, Nat.reduceSub, reduceIte, Nat.reduceEqDiff, Nat.reduceLT, Nat.reduceMul, Nat.reduceAdd, Nat.reduceBEq, Nat.reduceLeDiff, Int.reduceLT, Int.reduceLE, Int.reduceNeg, Int.reduceBEq, Int.reduceBNe, Int.reduceToNat, rxT, List.length_map, hp, pcT, S4.ts, tk2, hl, hw0, hs0, hd0, ht0, matT]))
          | ((first | refine ⟨.sh, .bool false, rfl, trivial, ?_⟩ | refine ⟨.sh, .bool false, rfl, ?_⟩); try simp only [go_sem, Nat.reduceSub, reduceIte, Nat.reduceEqDiff, Nat.reduceLT, Nat.reduceMul, Nat.reduceAdd, Nat.reduceBEq, Nat.reduceLeDiff, Int.reduceLT, Int.reduceLE, Int.reduceNeg, Int.reduceBEq, Int.reduceBNe, Int.reduceToNat])
          | (refine AV.ret ?_; (try simp only [go_sem, Nat.reduceSub, reduceIte, Nat.reduceEqDiff, Nat.reduceLT, Nat.reduceMul, Nat.reduceAdd, Nat.reduceBEq, Nat.reduceLeDiff, Int.reduceLT, Int.reduceLE, Int.reduceNeg, Int.reduceBEq, Int.reduceBNe, Int.reduceToNat]); first | refine atEnd_t (by simp only [go_sem, Nat.reduceSub, reduceIte, Nat.reduceEqDiff, Nat.reduceLT, Nat.reduceMul, Nat.reduceAdd, Nat.reduceBEq, Nat.reduceLeDiff, Int.reduceLT, Int.reduceLE, Int.reduceNeg, Int.reduceBEq, Int.reduceBNe, Int.reduceToNat] <;> rfl) ?_ (by first | (simp [rxT]; done) | exact leftT_tup _) | refine atEnd_c (by simp only [go_sem, Nat.reduceSub, reduceIte, Nat.reduceEqDiff, Nat.reduceLT, Nat.reduceMul, Nat.reduceAdd, Nat.reduceBEq, Nat.reduceLeDiff, Int.reduceLT, Int.reduceLE, Int.reduceNeg, Int.reduceBEq, Int.reduceBNe, Int.reduceToNat] <;> rfl) ?_ (by first | (simp [rxT]; done) | exact leftT_tup _) | refine atEnd_ct (by simp only [go_sem, Nat.reduceSub, reduceIte, Nat.reduceEqDiff, Nat.reduceLT, Nat.reduceMul, Nat.reduceAdd, Nat.reduceBEq, Nat.reduceLeDiff, Int.reduceLT, Int.reduceLE, Int.reduceNeg, Int.reduceBEq, Int.reduceBNe, Int.reduceToNat] <;> rfl) ?_ (by first | (simp; done) | exact leftT_tup _) (by simp only [go_sem, Nat.reduceSub, reduceIte, Nat.reduceEqDiff, Nat.reduceLT, Nat.reduceMul, Nat.reduceAdd, Nat.reduceBEq, Nat.reduceLeDiff, Int.reduceLT, Int.reduceLE, Int.reduceNeg, Int.reduceBEq, Int.reduceBNe, Int.reduceToNat] <;> rfl) ?_ (by simp) | refine atEnd_o (by simp only [go_sem, Nat.reduceSub, reduceIte, Nat.reduceEqDiff, Nat.reduceLT, Nat.reduceMul, Nat.reduceAdd, Nat.reduceBEq, Nat.reduceLeDiff, Int.reduceLT, Int.reduceLE, Int.reduceNeg, Int.reduceBEq, Int.reduceBNe, Int.reduceToNat] <;> rfl) ?_)
          | (refine And.intro ?_ ?_)
          | (with_reducible intro _)
        all_goals try first | exact True.intro | omega | exact ⟨_, _, rfl⟩ | exact allSolid_pcs _ | exact allSolid_one _ | exact allSolid_bool _ | rfl
        · exact allSolid_mat _ _
        · exact ⟨m - 1, by omega, i + 1, st' ++ [spansB w ⟨2, ps⟩ [f, g]], by omega, by simp; omega, by simpa using h5, by rw [h4, runM_bi _ _ _ _ _ _ tk2], by simp [rxT, matT]⟩
      · repeat' first
          | refine AV.seq ?_
          | refine AV.block ?_
          | ((first | refine AV.reg ?_ | refine AV.regD mixed ?_); simp only [hN, c11R0, c11R1, c11R2, c11R3, c11R5, c11R6, c11R7, c11R4, c11R8, rxT, List.length_map, hp, pcT, S4.ts, tk3, hl, hw0, hs0, hd0, ht0, matT, go_sem, Nat.reduceSub, reduceIte, Nat.reduceEqDiff, Nat.reduceLT, Nat.reduceMul, Nat.reduceAdd, Nat.reduceBEq, Nat.reduceLeDiff, Int.reduceLT, Int.reduceLE, Int.reduceNeg, Int.reduceBEq, Int.reduceBNe, Int.reduceToNat]; repeat (simp (disch := omega) only [wrap_small, getD_map_lt, getD_range]; try simp only [go_sem, Nat.reduceSub, reduceIte, Nat.reduceEqDiff, Nat.reduceLT, Nat.reduceMul, Nat.reduceAdd, Nat.reduceBEq, Nat.reduceLeDiff, Int.reduceLT, Int.reduceLE, Int.reduceNeg, Int.reduceBEq, Int.reduceBNe, Int.reduceToNat, rxT, List.length_map, hp, pcT, S4.ts, tk3, hl, hw0, hs0, hd0, ht0, matT]))
          | (refine AV.cond ?_ ?_ (fun hc => ?_) (fun hc => ?_) <;> (try simp only [go_sem, Nat.reduceSub, reduceIte, Nat.reduceEqDiff, Nat.reduceLT, Nat.reduceMul, Nat.reduceAdd, Nat.reduceBEq, Nat.reduceLeDiff, Int.reduceLT, Int.reduceLE, Int.reduceNeg, Int.reduceBEq, Int.reduceBNe, Int.reduceToNat, beq_iff_eq, beq_eq_false_iff_ne] at hc) <;> (try simp only [go_sem, Nat.reduceSub, reduceIte, Nat.reduceEqDiff, Nat.reduceLT, Nat.reduceMul, Nat.reduceAdd, Nat.reduceBEq, Nat.reduceLeDiff, Int.reduceLT, Int.reduceLE, Int.reduceNeg, Int.reduceBEq, Int.reduceBNe, Int.reduceToNat]))
          | ((first | refine AV.skip ?_ | refine AV.exit ?_); simp only [go_sem, Nat.reduceSub, reduceIte, Nat.reduceEqDiff, Nat.reduceLT, Nat.reduceMul, Nat.reduceAdd, Nat.reduceBEq, Nat.reduceLeDiff, Int.reduceLT, Int.reduceLE, Int.reduceNeg, Int.reduceBEq, Int.reduceBNe, Int.reduceToNat])
          | ((first | refine ⟨_, _, takes40_spec _, rfl, ?_⟩ | refine ⟨_, _, takes40_spec _, ?_⟩ | refine ⟨_, _, fun _ => takes40_spec _, rfl, fun _ => trivial, ?_⟩ | refine ⟨_, _, spans41_3 ps w hw f g, flat_mat _ _, rfl, ?_⟩ | refine ⟨_, _, spans41_3 ps w hw f g, flat_mat _ _, ?_⟩ | refine ⟨_, _, fun _ => spans41_3 ps w hw f g, flat_mat _ _, rfl, fun _ => trivial, ?_⟩); (try simp only [go_sem, Nat.reduceSub, reduceIte, Nat.reduceEqDiff, Nat.reduceLT, Nat.reduceMul, Nat.reduceAdd, Nat.reduceBEq, Nat.reduceLeDiff, Int.reduceLT, Int.reduceLE, Int.reduceNeg, Int.reduceBEq, Int.reduceBNe, Int.reduceToNat, rxT, List.length_map, hp, pcT, S4.ts, tk3, hl, hw0, hs0, hd0, ht0, matT]); repeat (simp (disch := omega) only [wrap_small, getD_map_lt, getD_range]; try simp only [go_sem, Nat.reduceSub, reduceIte, Nat.reduceEqDiff, Nat.reduceLT, Nat.reduceMul, Nat.reduceAdd, Nat.reduceBEq, Nat.reduceLeDiff, Int.reduceLT, Int.reduceLE, Int.reduceNeg, Int.reduceBEq, Int.reduceBNe, Int.reduceToNat, rxT, List.length_map, hp, pcT, S4.ts, tk3, hl, hw0, hs0, hd0, ht0, matT]))
          | ((first | refine ⟨.sh, .bool false, rfl, trivial, ?_⟩ | refine ⟨.sh, .bool false, rfl, ?_⟩); try simp only [go_sem, Nat.reduceSub, reduceIte, Nat.reduceEqDiff, Nat.reduceLT, Nat.reduceMul, Nat.reduceAdd, Nat.reduceBEq, Nat.reduceLeDiff, Int.reduceLT, Int.reduceLE, Int.reduceNeg, Int.reduceBEq, Int.reduceBNe, Int.reduceToNat])
          | (refine AV.ret ?_; (try simp only [go_sem, Nat.reduceSub, reduceIte, Nat.reduceEqDiff, Nat.reduceLT, Nat.reduceMul, Nat.reduceAdd, Nat.reduceBEq, Nat.reduceLeDiff, Int.reduceLT, Int.reduceLE, Int.reduceNeg, Int.reduceBEq, Int.reduceBNe, Int.reduceToNat]); first | refine atEnd_t (by simp only [go_sem, Nat.reduceSub, reduceIte, Nat.reduceEqDiff, Nat.reduceLT, Nat.reduceMul, Nat.reduceAdd, Nat.reduceBEq, Nat.reduceLeDiff, Int.reduceLT, Int.reduceLE, Int.reduceNeg, Int.reduceBEq, Int.reduceBNe, Int.reduceToNat] <;> rfl) ?_ (by first | (simp [rxT]; done) | exact leftT_tup _) | refine atEnd_c (by simp only [go_sem, Nat.reduceSub, reduceIte, Nat.reduceEqDiff, Nat.reduceLT, Nat.reduceMul, Nat.reduceAdd, Nat.reduceBEq, Nat.reduceLeDiff, Int.reduceLT, Int.reduceLE, Int.reduceNeg, Int.reduceBEq, Int.reduceBNe, Int.reduceToNat] <;> rfl) ?_ (by first | (simp [rxT]; done) | exact leftT_tup _) | refine atEnd_ct (by simp only [go_sem, Nat.reduceSub, reduceIte, Nat.reduceEqDiff, Nat.reduceLT, Nat.reduceMul, Nat.reduceAdd, Nat.reduceBEq, Nat.reduceLeDiff, Int.reduceLT, Int.reduceLE, Int.reduceNeg, Int.reduceBEq, Int.reduceBNe, Int.reduceToNat] <;> rfl) ?_ (by first | (simp; done) | exact leftT_tup _) (by simp only [go_sem, Nat.reduceSub, reduceIte, Nat.reduceEqDiff, Nat.reduceLT, Nat.reduceMul, Nat.reduceAdd, Nat.reduceBEq, Nat.reduceLeDiff, Int.reduceLT, Int.reduceLE, Int.reduceNeg, Int.reduceBEq, Int.reduceBNe, Int.reduceToNat] <;> rfl) ?_ (by simp) | refine atEnd_o (by simp only [go_sem, Nat.reduceSub, reduceIte, Nat.reduceEqDiff, Nat.reduceLT, Nat.reduceMul, Nat.reduceAdd, Nat.reduceBEq, Nat.reduceLeDiff, Int.reduceLT, Int.reduceLE, Int.reduceNeg, Int.reduceBEq, Int.reduceBNe, Int.reduceToNat] <;> rfl) ?_)
          | (refine And.intro ?_ ?_)
          | (with_reducible intro _)
        all_goals try first | exact True.intro | omega | exact ⟨_, _, rfl⟩ | exact allSolid_pcs _ | exact allSolid_one _ | exact allSolid_bool _ | rfl
        · exact allSolid_mat _ _
        · exact ⟨m - 1, by omega, i + 1, st' ++ [spansB w ⟨3, ps⟩ [f, g]], by omega, by simp; omega, by simpa using h5, by rw [h4, runM_bi _ _ _ _ _ _ tk3], by simp [rxT, matT]⟩
  · have hd : r.drop i = [] := List.drop_eq_nil_of_le (by omega)
    rw [hd] at h3 h4
    obtain ⟨f, rfl⟩ := fits_end _ h3
    repeat' first
      | refine AV.seq ?_
      | refine AV.block ?_
      | ((first | refine AV.reg ?_ | refine AV.regD mixed ?_); simp only [hN, c11R0, c11R1, c11R2, c11R3, c11R5, c11R6, c11R7, c11R4, c11R8, rxT, List.length_map, matT, brow, idxs_len, go_sem, Nat.reduceSub, reduceIte, Nat.reduceEqDiff, Nat.reduceLT, Nat.reduceMul, Nat.reduceAdd, Nat.reduceBEq, Nat.reduceLeDiff, Int.reduceLT, Int.reduceLE, Int.reduceNeg, Int.reduceBEq, Int.reduceBNe, Int.reduceToNat]; repeat (simp (disch := omega) only [wrap_small, getD_map_lt, getD_range]; try simp only [go_sem, Nat.reduceSub, reduceIte, Nat.reduceEqDiff, Nat.reduceLT, Nat.reduceMul, Nat.reduceAdd, Nat.reduceBEq, Nat.reduceLeDiff, Int.reduceLT, Int.reduceLE, Int.reduceNeg, Int.reduceBEq, Int.reduceBNe, Int.reduceToNat, rxT, List.length_map, matT, brow, idxs_len]))
      | (refine AV.cond ?_ ?_ (fun hc => ?_) (fun hc => ?_) <;> (try simp only [go_sem, Nat.reduceSub, reduceIte, Nat.reduceEqDiff, Nat.reduceLT, Nat.reduceMul, Nat.reduceAdd, Nat.reduceBEq, Nat.reduceLeDiff, Int.reduceLT, Int.reduceLE, Int.reduceNeg, Int.reduceBEq, Int.reduceBNe, Int.reduceToNat, beq_iff_eq, beq_eq_false_iff_ne] at hc) <;> (try simp only [go_sem, Nat.reduceSub, reduceIte, Nat.reduceEqDiff, Nat.reduceLT, Nat.reduceMul, Nat.reduceAdd, Nat.reduceBEq, Nat.reduceLeDiff, Int.reduceLT, Int.reduceLE, Int.reduceNeg, Int.reduceBEq, Int.reduceBNe, Int.reduceToNat]))
      | ((first | refine AV.skip ?_ | refine AV.exit ?_); simp only [go_sem, Nat.reduceSub, reduceIte, Nat.reduceEqDiff, Nat.reduceLT, Nat.reduceMul, Nat.reduceAdd, Nat.reduceBEq, Nat.reduceLeDiff, Int.reduceLT, Int.reduceLE, Int.reduceNeg, Int.reduceBEq, Int.reduceBNe, Int.reduceToNat])
      | (refine AV.ret ?_; (try simp only [go_sem, Nat.reduceSub, reduceIte, Nat.reduceEqDiff, Nat.reduceLT, Nat.reduceMul, Nat.reduceAdd, Nat.reduceBEq, Nat.reduceLeDiff, Int.reduceLT, Int.reduceLE, Int.reduceNeg, Int.reduceBEq, Int.reduceBNe, Int.reduceToNat]); first | refine atEnd_t (by simp only [go_sem, Nat.reduceSub, reduceIte, Nat.reduceEqDiff, Nat.reduceLT, Nat.reduceMul, Nat.reduceAdd, Nat.reduceBEq, Nat.reduceLeDiff, Int.reduceLT, Int.reduceLE, Int.reduceNeg, Int.reduceBEq, Int.reduceBNe, Int.reduceToNat] <;> rfl) ?_ (by first | (simp [rxT]; done) | exact leftT_tup _) | refine atEnd_c (by simp only [go_sem, Nat.reduceSub, reduceIte, Nat.reduceEqDiff, Nat.reduceLT, Nat.reduceMul, Nat.reduceAdd, Nat.reduceBEq, Nat.reduceLeDiff, Int.reduceLT, Int.reduceLE, Int.reduceNeg, Int.reduceBEq, Int.reduceBNe, Int.reduceToNat] <;> rfl) ?_ (by first | (simp [rxT]; done) | exact leftT_tup _) | refine atEnd_ct (by simp only [go_sem, Nat.reduceSub, reduceIte, Nat.reduceEqDiff, Nat.reduceLT, Nat.reduceMul, Nat.reduceAdd, Nat.reduceBEq, Nat.reduceLeDiff, Int.reduceLT, Int.reduceLE, Int.reduceNeg, Int.reduceBEq, Int.reduceBNe, Int.reduceToNat] <;> rfl) ?_ (by first | (simp; done) | exact leftT_tup _) (by simp only [go_sem, Nat.reduceSub, reduceIte, Nat.reduceEqDiff, Nat.reduceLT, Nat.reduceMul, Nat.reduceAdd, Nat.reduceBEq, Nat.reduceLeDiff, Int.reduceLT, Int.reduceLE, Int.reduceNeg, Int.reduceBEq, Int.reduceBNe, Int.reduceToNat] <;> rfl) ?_ (by simp) | refine atEnd_o (by simp only [go_sem, Nat.reduceSub, reduceIte, Nat.reduceEqDiff, Nat.reduceLT, Nat.reduceMul, Nat.reduceAdd, Nat.reduceBEq, Nat.reduceLeDiff, Int.reduceLT, Int.reduceLE, Int.reduceNeg, Int.reduceBEq, Int.reduceBNe, Int.reduceToNat] <;> rfl) ?_)
      | (refine And.intro ?_ ?_)
      | (with_reducible intro _)
    all_goals try first | exact True.intro | omega | exact ⟨_, _, rfl⟩ | exact allSolid_pcs _ | exact allSolid_one _ | exact allSolid_bool _ | rfl
    rw [h4]; rfl
end Go.Proofs.Ytaefhdklkbohmaa
/- What the tables of truths tell: the languages of the trees. -/
namespace Go.Proofs.Ytaefhdklkbohmaa
open Go Go.RowKit

def seg (l : List Nat) (a b : Nat) : List Nat := (l.drop a).take (b - a)
theorem seg_len (l : List Nat) (a b : Nat) (h : b ≤ l.length) : (seg l a b).length = b - a := by
  simp [seg]; omega
theorem seg_self (l : List Nat) (a : Nat) : seg l a a = [] := by simp [seg]
theorem seg_app (l : List Nat) (a k b : Nat) (h : a ≤ k) (h' : k ≤ b) : seg l a k ++ seg l k b = seg l a b := by
  unfold seg
  have e : b - a = (k - a) + (b - k) := by omega
  rw [e, List.take_add, List.drop_drop, show a + (k - a) = k by omega]
theorem seg_split (l u v : List Nat) (a b : Nat) (hab : a ≤ b) (hb : b ≤ l.length) (h : seg l a b = u ++ v) : ∃ k, a ≤ k ∧ k ≤ b ∧ seg l a k = u ∧ seg l k b = v := by
  have hl := seg_len l a b hb
  rw [h, List.length_append] at hl
  refine ⟨a + u.length, by omega, by omega, ?_⟩
  have h1 := seg_app l a (a + u.length) b (by omega) (by omega)
  rw [h] at h1
  exact List.append_inj h1 (by rw [seg_len _ _ _ (by omega)]; omega)
theorem star_seg (l : List Nat) (P : List Nat → Prop) (f : Nat → Nat → Bool) (hf : ∀ a b, a ≤ l.length → b ≤ l.length → (f a b = true ↔ a ≤ b ∧ P (seg l a b))) (a b : Nat) (ha : a ≤ l.length) (hb : b ≤ l.length) :
    AgP f a b ↔ a ≤ b ∧ StarL P (seg l a b) := by
  constructor
  · intro h
    refine ⟨h.le, ?_⟩
    induction h with
    | refl a => rw [seg_self]; exact .nil
    | @step a k b h h1 h2 ih =>
      have hk : k ≤ l.length := Nat.le_trans h2.le hb
      rw [← seg_app l a k b (Nat.le_of_lt h) h2.le]
      exact .app ((hf a k ha hk).1 h1).2 (ih hk hb)
  · rintro ⟨hab, h⟩
    generalize e : seg l a b = x at h
    induction h generalizing a b with
    | nil =>
      have := seg_len l a b hb
      rw [e, List.length_nil] at this
      have : a = b := by omega
      subst this
      exact .refl _
    | @app u v h1 h2 ih =>
      obtain ⟨k, k1, k2, rfl, rfl⟩ := seg_split l u v a b hab hb e
      have hk : k ≤ l.length := by omega
      have := ih k b hk hb k2 rfl
      by_cases ek : a = k
      · subst ek; exact this
      · exact .step (by omega) ((hf a k ha hk).2 ⟨k1, h1⟩) this
theorem seg_one (w : ByteArray) (a : Nat) (h : a < w.size) : seg (bytesOf w) a (a + 1) = [(w.data.toList.getD a 0).toNat] := by
  unfold seg
  rw [bytesOf_at w a h, show a + 1 - a = 1 by omega]
  rfl
theorem evR_spans (w : ByteArray) (t : Rx) : ∀ a b, a ≤ w.size → b ≤ w.size → (evR (spansB w) t a b = true ↔ a ≤ b ∧ t.L (seg (bytesOf w) a b)) := by
  have hn : (bytesOf w).length = w.size := bytesOf_length w
  have hid : ∀ a b, a ≤ w.size → b ≤ w.size → (idB a b = true ↔ a ≤ b ∧ seg (bytesOf w) a b = []) := by
    intro a b ha hb
    simp only [idB, decide_eq_true_eq]
    constructor
    · rintro rfl; exact ⟨Nat.le_refl _, seg_self _ _⟩
    · rintro ⟨h1, h2⟩
      have := seg_len (bytesOf w) a b (by omega)
      rw [h2, List.length_nil] at this
      omega
  have hthen : ∀ (f g : Nat → Nat → Bool) (P Q : List Nat → Prop), (∀ a b, a ≤ w.size → b ≤ w.size → (f a b = true ↔ a ≤ b ∧ P (seg (bytesOf w) a b))) → (∀ a b, a ≤ w.size → b ≤ w.size → (g a b = true ↔ a ≤ b ∧ Q (seg (bytesOf w) a b))) →
      ∀ a b, a ≤ w.size → b ≤ w.size → (thenB f g a b = true ↔ a ≤ b ∧ ∃ u v, seg (bytesOf w) a b = u ++ v ∧ P u ∧ Q v) := by
    intro f g P Q hf hg a b ha hb
    rw [thenB_iff]
    constructor
    · rintro ⟨k, k1, k2, k3, k4⟩
      refine ⟨by omega, _, _, (seg_app (bytesOf w) a k b k1 k2).symm, ((hf a k ha (by omega)).1 k3).2, ((hg k b (by omega) hb).1 k4).2⟩
    · rintro ⟨hab, u, v, h, hu, hv⟩
      obtain ⟨k, k1, k2, rfl, rfl⟩ := seg_split _ u v a b hab (by omega) h
      exact ⟨k, k1, k2, (hf a k ha (by omega)).2 ⟨k1, hu⟩, (hg k b (by omega) hb).2 ⟨k2, hv⟩⟩
  induction t with
  | none => exact hid
  | one s =>
    intro a b ha hb
    show oneB w s a b = true ↔ _
    simp only [oneB, Bool.and_eq_true, decide_eq_true_eq, Rx.L]
    constructor
    · rintro ⟨⟨rfl, h1⟩, h2⟩
      exact ⟨by omega, _, seg_one w a h1, h2⟩
    · rintro ⟨h1, c, h2, h3⟩
      have hl := seg_len (bytesOf w) a b (by omega)
      rw [h2, List.length_singleton] at hl
      have hb1 : b = a + 1 := by omega
      subst hb1
      rw [seg_one w a (by omega)] at h2
      simp only [List.cons.injEq, and_true] at h2
      exact ⟨⟨rfl, by omega⟩, by rw [h2]; exact h3⟩
  | cat x y ihx ihy => exact hthen _ _ _ _ ihx ihy
  | alt x y ihx ihy =>
    intro a b ha hb
    show orB (evR (spansB w) x) (evR (spansB w) y) a b = true ↔ _
    rw [orB_iff, ihx a b ha hb, ihy a b ha hb]
    simp only [Rx.L]
    constructor
    · rintro ⟨h, h1 | h1⟩
      · exact ⟨h, .inl h1.2⟩
      · exact ⟨h, .inr h1.2⟩
    · rintro ⟨h, h1 | h1⟩
      · exact ⟨h, .inl ⟨h, h1⟩⟩
      · exact ⟨h, .inr ⟨h, h1⟩⟩
  | star x ihx =>
    intro a b ha hb
    show againB _ a b = true ↔ _
    rw [againB_iff]
    rw [← hn] at ihx ha hb
    exact star_seg _ _ _ ihx a b ha hb
  | plus x ihx =>
    refine hthen _ _ _ _ ihx (fun a b ha hb => ?_)
    show againB _ a b = true ↔ _
    rw [againB_iff]
    rw [← hn] at ihx ha hb
    exact star_seg _ _ _ ihx a b ha hb
  | opt x ihx =>
    intro a b ha hb
    show orB idB (evR (spansB w) x) a b = true ↔ _
    rw [orB_iff, ihx a b ha hb, hid a b ha hb]
    simp only [Rx.L]
    constructor
    · rintro ⟨h, h1 | h1⟩
      · exact ⟨h, .inl h1.2⟩
      · exact ⟨h, .inr h1.2⟩
    · rintro ⟨h, h1 | h1⟩
      · exact ⟨h, .inl ⟨h, h1⟩⟩
      · exact ⟨h, .inr ⟨h, h1⟩⟩
/-- bosketref04.Has of a tree. -/
def hasB (t : Rx) (w : ByteArray) : Bool := evR (spansB w) t 0 w.size
theorem hasB_iff (t : Rx) (w : ByteArray) : hasB t w = true ↔ t.L (bytesOf w) := by
  have h := evR_spans w t 0 w.size (by omega) (Nat.le_refl _)
  unfold hasB
  rw [h]
  have : seg (bytesOf w) 0 w.size = bytesOf w := by
    unfold seg
    rw [List.drop_zero]
    exact List.take_of_length_le (by rw [bytesOf_length]; omega)
  rw [this]
  simp
theorem has11_tree (t : Rx) (w : ByteArray) (hr : t.enc.length ≤ 1073741820) (hw : w.size ≤ 1000000) : ACalls Try.prog 11 [rxT t.enc, .str w] .sh (.bool (hasB t w)) := by
  have := has11_spec t.enc w hr hw (fits_enc t)
  rw [runM_all] at this
  exact this
/-! ### Behind a text -/
/-- What is left behind a text, and how far one came: as far as it went, nothing is lost. -/
theorem thr_L (most : Int) : ∀ (l : List Nat) (x : Rx) (i : Nat), i ≤ (thr most x l i).2 ∧ (thr most x l i).2 ≤ i + l.length ∧
    ((thr most x l i).2 < i + l.length → ((thr most x l i).1 = .none ∧ ∀ v, ¬ x.L (l.take ((thr most x l i).2 - i + 1) ++ v)) ∨ ∃ y, (thr most x l i).1 = .some y ∧ (y.enc.length : Int) > most) ∧
    ((thr most x l i).2 = i + l.length → ∃ y, (thr most x l i).1 = .some y ∧ ∀ v, y.L v ↔ x.L (l ++ v))
  | [], x, i => by
    simp only [thr, List.length_nil, Nat.add_zero]
    exact ⟨Nat.le_refl _, Nat.le_refl _, fun h => absurd h (Nat.lt_irrefl _), fun _ => ⟨x, rfl, fun v => Iff.rfl⟩⟩
  | c :: l, x, i => by
    have hd := der_L c x
    simp only [thr]
    cases hx : der c x with
    | none =>
      rw [hx] at hd
      simp only [List.length_cons]
      refine ⟨Nat.le_refl _, by omega, fun _ => .inl ⟨trivial, fun v h => ?_⟩, fun h => by omega⟩
      rw [Nat.sub_self, Nat.zero_add, List.take_succ_cons, List.take_zero] at h
      exact (hd v).2 h
    | some y =>
      rw [hx] at hd
      simp only [List.length_cons]
      by_cases hy : (y.enc.length : Int) > most
      · rw [if_pos hy]
        exact ⟨Nat.le_refl _, by omega, fun _ => .inr ⟨y, rfl, hy⟩, fun h => by simp only at h; omega⟩
      · rw [if_neg hy]
        obtain ⟨h1, h2, h3, h4⟩ := thr_L most l y (i + 1)
        refine ⟨by omega, by omega, fun h => ?_, fun h => ?_⟩
        · rcases h3 (by omega) with ⟨h5, h6⟩ | h5
          · refine .inl ⟨h5, fun v hv => h6 v ?_⟩
            have e : (thr most y l (i + 1)).2 - i + 1 = ((thr most y l (i + 1)).2 - (i + 1) + 1) + 1 := by omega
            rw [e, List.take_succ_cons, List.cons_append] at hv
            exact (hd _).2 hv
          · exact .inr h5
        · obtain ⟨z, h5, h6⟩ := h4 (by omega)
          refine ⟨z, h5, fun v => ?_⟩
          rw [h6, List.cons_append]
          exact hd _
theorem thr_len (most : Int) : ∀ (l : List Nat) (x y : Rx) (i : Nat), (thr most x l i).1 = .some y → (thr most x l i).2 = i + l.length → (y.enc.length : Int) ≤ x.enc.length ∨ (y.enc.length : Int) ≤ most
  | [], x, y, i, h, _ => by
    simp only [thr, Option.some.injEq] at h
    subst h
    exact .inl (Int.le_refl _)
  | c :: l, x, y, i, h, h' => by
    simp only [thr, List.length_cons] at h h'
    cases hx : der c x with
    | none => rw [hx] at h; cases h
    | some z =>
      rw [hx] at h h'
      simp only at h h'
      by_cases hy : (z.enc.length : Int) > most
      · rw [if_pos hy] at h'
        simp only at h'
        omega
      · rw [if_neg hy] at h h'
        rcases thr_len most l z y (i + 1) h (by omega) with h1 | h1
        · exact .inr (by omega)
        · exact .inr h1
theorem bytesOf_append (u v : ByteArray) : bytesOf (u ++ v) = bytesOf u ++ bytesOf v := by
  simp [bytesOf, ByteArray.data_append]
theorem bytesOf_take (u : ByteArray) (k : Nat) : bytesOf (u.extract 0 k) = (bytesOf u).take k := by
  simp [bytesOf, List.map_take]
end Go.Proofs.Ytaefhdklkbohmaa
/- The example of the law. -/
namespace Go.Proofs.Ytaefhdklkbohmaa
open Go Go.RowKit
set_option linter.unusedSimpArgs false
set_option maxRecDepth 20000
set_option maxHeartbeats 4000000
def aw : Rx := .star (.one ⟨0, 8589934592, 0, 0⟩)
theorem awake8_spec : ACalls Try.prog 8 [] .sh (.bool true) := by
  have e97 : der 97 aw = .some aw := by decide
  have e98 : der 98 aw = .none := by decide
  have hk : checkS aw.enc = 0 := by decide
  have k97 := by16_spec 97 (by omega) aw (by decide) hk
  have k98 := by16_spec 98 (by omega) aw (by decide) hk
  rw [e97] at k97
  rw [e98] at k98
  have h1 : hasB aw ⟨#[97, 97]⟩ = true := by decide
  have h2 : hasB aw ⟨#[98]⟩ = false := by decide
  have f1 := fits12_spec aw.enc (by decide)
  rw [fits_enc] at f1
  have f2 := has11_tree aw ⟨#[97, 97]⟩ (by decide) (by decide)
  rw [h1] at f2
  have f3 := has11_tree aw ⟨#[98]⟩ (by decide) (by decide)
  rw [h2] at f3
  have f4 := empty14_tree aw (by decide)
  have e : aw.nul = true := rfl
  rw [e] at f4
  have hr : aw.enc = [⟨1, ⟨0, 8589934592, 0, 0⟩⟩, ⟨4, z4⟩] := rfl
  have hl : leftT (.some aw) = .agg [.bool false, rxT aw.enc] := rfl
  have hl2 : leftT .none = .agg [.bool true, .sl 5 []] := rfl
  have hrx : rxT aw.enc = .sl 5 [.agg [.int .i64 1, .int .u64 0, .int .u64 8589934592, .int .u64 0, .int .u64 0], .agg [.int .i64 4, .int .u64 0, .int .u64 0, .int .u64 0, .int .u64 0]] := rfl
  rw [hrx] at k97 k98 f1 f2 f3 f4 hl
  rw [hl] at k97
  rw [hl2] at k98
  refine ACalls.of n8 rfl (m8 _ rfl) q8 (by simp only [List.length_cons, List.length_nil]; decide) (fun C hC => ?_)
  have hN : C.N = 39 := hC
  repeat' first
    | refine AV.seq ?_
    | refine AV.block ?_
    | ((first | refine AV.reg ?_ | refine AV.regD mixed ?_); simp only [hN, c8R0, c8R1, c8R2, c8R3, List.length_map, go_sem, Nat.reduceSub, reduceIte, Nat.reduceEqDiff, Nat.reduceLT, Nat.reduceMul, Nat.reduceAdd, Nat.reduceBEq, Nat.reduceLeDiff, Int.reduceLT, Int.reduceLE, Int.reduceNeg, Int.reduceBEq, Int.reduceBNe, Int.reduceToNat]; repeat (simp (disch := omega) only [wrap_small, getD_map_lt]; try simp only [go_sem, Nat.reduceSub, reduceIte, Nat.reduceEqDiff, Nat.reduceLT, Nat.reduceMul, Nat.reduceAdd, Nat.reduceBEq, Nat.reduceLeDiff, Int.reduceLT, Int.reduceLE, Int.reduceNeg, Int.reduceBEq, Int.reduceBNe, Int.reduceToNat, List.length_map]))
    | (refine AV.cond ?_ ?_ (fun hc => ?_) (fun hc => ?_) <;> (try simp only [go_sem, Nat.reduceSub, reduceIte, Nat.reduceEqDiff, Nat.reduceLT, Nat.reduceMul, Nat.reduceAdd, Nat.reduceBEq, Nat.reduceLeDiff, Int.reduceLT, Int.reduceLE, Int.reduceNeg, Int.reduceBEq, Int.reduceBNe, Int.reduceToNat, beq_iff_eq, beq_eq_false_iff_ne] at hc) <;> (try simp only [go_sem, Nat.reduceSub, reduceIte, Nat.reduceEqDiff, Nat.reduceLT, Nat.reduceMul, Nat.reduceAdd, Nat.reduceBEq, Nat.reduceLeDiff, Int.reduceLT, Int.reduceLE, Int.reduceNeg, Int.reduceBEq, Int.reduceBNe, Int.reduceToNat]))
    | ((first | refine AV.skip ?_ | refine AV.exit ?_); simp only [go_sem, Nat.reduceSub, reduceIte, Nat.reduceEqDiff, Nat.reduceLT, Nat.reduceMul, Nat.reduceAdd, Nat.reduceBEq, Nat.reduceLeDiff, Int.reduceLT, Int.reduceLE, Int.reduceNeg, Int.reduceBEq, Int.reduceBNe, Int.reduceToNat])
    | ((first | refine ⟨_, _, k97, rfl, ?_⟩ | refine ⟨_, _, k97, ?_⟩ | refine ⟨_, _, fun _ => k97, rfl, fun _ => trivial, ?_⟩ | refine ⟨_, _, k98, rfl, ?_⟩ | refine ⟨_, _, k98, ?_⟩ | refine ⟨_, _, fun _ => k98, rfl, fun _ => trivial, ?_⟩ | refine ⟨_, _, f1, rfl, ?_⟩ | refine ⟨_, _, f1, ?_⟩ | refine ⟨_, _, fun _ => f1, rfl, fun _ => trivial, ?_⟩ | refine ⟨_, _, f2, rfl, ?_⟩ | refine ⟨_, _, f2, ?_⟩ | refine ⟨_, _, fun _ => f2, rfl, fun _ => trivial, ?_⟩ | refine ⟨_, _, f3, rfl, ?_⟩ | refine ⟨_, _, f3, ?_⟩ | refine ⟨_, _, fun _ => f3, rfl, fun _ => trivial, ?_⟩ | refine ⟨_, _, f4, rfl, ?_⟩ | refine ⟨_, _, f4, ?_⟩ | refine ⟨_, _, fun _ => f4, rfl, fun _ => trivial, ?_⟩); (try simp only [go_sem, Nat.reduceSub, reduceIte, Nat.reduceEqDiff, Nat.reduceLT, Nat.reduceMul, Nat.reduceAdd, Nat.reduceBEq, Nat.reduceLeDiff, Int.reduceLT, Int.reduceLE, Int.reduceNeg, Int.reduceBEq, Int.reduceBNe, Int.reduceToNat, List.length_map]); repeat (simp (disch := omega) only [wrap_small, getD_map_lt]; try simp only [go_sem, Nat.reduceSub, reduceIte, Nat.reduceEqDiff, Nat.reduceLT, Nat.reduceMul, Nat.reduceAdd, Nat.reduceBEq, Nat.reduceLeDiff, Int.reduceLT, Int.reduceLE, Int.reduceNeg, Int.reduceBEq, Int.reduceBNe, Int.reduceToNat, List.length_map]))
    | ((first | refine ⟨.sh, .bool false, rfl, trivial, ?_⟩ | refine ⟨.sh, .bool false, rfl, ?_⟩); try simp only [go_sem, Nat.reduceSub, reduceIte, Nat.reduceEqDiff, Nat.reduceLT, Nat.reduceMul, Nat.reduceAdd, Nat.reduceBEq, Nat.reduceLeDiff, Int.reduceLT, Int.reduceLE, Int.reduceNeg, Int.reduceBEq, Int.reduceBNe, Int.reduceToNat])
    | (refine AV.ret ?_; (try simp only [go_sem, Nat.reduceSub, reduceIte, Nat.reduceEqDiff, Nat.reduceLT, Nat.reduceMul, Nat.reduceAdd, Nat.reduceBEq, Nat.reduceLeDiff, Int.reduceLT, Int.reduceLE, Int.reduceNeg, Int.reduceBEq, Int.reduceBNe, Int.reduceToNat]); first | refine atEnd_t (by simp only [go_sem, Nat.reduceSub, reduceIte, Nat.reduceEqDiff, Nat.reduceLT, Nat.reduceMul, Nat.reduceAdd, Nat.reduceBEq, Nat.reduceLeDiff, Int.reduceLT, Int.reduceLE, Int.reduceNeg, Int.reduceBEq, Int.reduceBNe, Int.reduceToNat] <;> rfl) ?_ (by first | (simp [rxT]; done) | exact leftT_tup _) | refine atEnd_c (by simp only [go_sem, Nat.reduceSub, reduceIte, Nat.reduceEqDiff, Nat.reduceLT, Nat.reduceMul, Nat.reduceAdd, Nat.reduceBEq, Nat.reduceLeDiff, Int.reduceLT, Int.reduceLE, Int.reduceNeg, Int.reduceBEq, Int.reduceBNe, Int.reduceToNat] <;> rfl) ?_ (by first | (simp [rxT]; done) | exact leftT_tup _) | refine atEnd_ct (by simp only [go_sem, Nat.reduceSub, reduceIte, Nat.reduceEqDiff, Nat.reduceLT, Nat.reduceMul, Nat.reduceAdd, Nat.reduceBEq, Nat.reduceLeDiff, Int.reduceLT, Int.reduceLE, Int.reduceNeg, Int.reduceBEq, Int.reduceBNe, Int.reduceToNat] <;> rfl) ?_ (by first | (simp; done) | exact leftT_tup _) (by simp only [go_sem, Nat.reduceSub, reduceIte, Nat.reduceEqDiff, Nat.reduceLT, Nat.reduceMul, Nat.reduceAdd, Nat.reduceBEq, Nat.reduceLeDiff, Int.reduceLT, Int.reduceLE, Int.reduceNeg, Int.reduceBEq, Int.reduceBNe, Int.reduceToNat] <;> rfl) ?_ (by simp) | refine atEnd_o (by simp only [go_sem, Nat.reduceSub, reduceIte, Nat.reduceEqDiff, Nat.reduceLT, Nat.reduceMul, Nat.reduceAdd, Nat.reduceBEq, Nat.reduceLeDiff, Int.reduceLT, Int.reduceLE, Int.reduceNeg, Int.reduceBEq, Int.reduceBNe, Int.reduceToNat] <;> rfl) ?_)
    | (refine And.intro ?_ ?_)
    | (with_reducible intro _)
  all_goals try first | exact True.intro | omega | exact ⟨_, _, rfl⟩ | exact allSolid_pcs _ | exact allSolid_one _ | exact allSolid_bool _ | rfl
  all_goals trace_state
end Go.Proofs.Ytaefhdklkbohmaa
/- The law DerivThrough. -/
namespace Go.Proofs.Ytaefhdklkbohmaa
open Go Go.RowKit
set_option linter.unusedSimpArgs false
set_option maxRecDepth 20000
set_option maxHeartbeats 4000000
theorem most_wrap (k : Nat) (hk : k < 65536) : IntKind.i64.wrap ((k : Int).tmod 400) = ((k % 400 : Nat) : Int) := by
  have e : (k : Int).tmod 400 = ((k % 400 : Nat) : Int) := by rw [Int.tmod_eq_emod_of_nonneg (by omega)]; omega
  rw [e, wrap_small] <;> omega
theorem thrBig (r : List Pc) (s t : ByteArray) (k : Nat) (h : r.length > 30 ∨ s.size > 6 ∨ t.size > 6) : ACalls Try.prog 3 [rxT r, .agg [.str s, .str t], .int .u16 (k : Int)] .sh (.bool true) := by
  by_cases c1 : r.length > 30
  · have g1 : ((r.length : Int) > 30) = True := eq_true (by omega)
    refine ACalls.of n3 rfl (m3 _ rfl) q3 (by simp only [List.length_cons, List.length_nil]; decide) (fun C hC => ?_)
    have hN : C.N = 107 := hC
    repeat' first
      | refine AV.seq ?_
      | refine AV.block ?_
      | ((first | refine AV.reg ?_ | refine AV.regD mixed ?_); simp only [hN, c3R0, c3R1, c3R2, c3R3, c3R4, c3R5, c3R6, c3R7, c3R8, c3R9, c3R10, c3R11, c3R12, c3R13, List.length_map, rxT, g1, go_sem, Nat.reduceSub, reduceIte, Nat.reduceEqDiff, Nat.reduceLT, Nat.reduceMul, Nat.reduceAdd, Nat.reduceBEq, Nat.reduceLeDiff, Int.reduceLT, Int.reduceLE, Int.reduceNeg, Int.reduceBEq, Int.reduceBNe, Int.reduceToNat]; repeat (simp (disch := omega) only [wrap_small, getD_map_lt]; try simp only [go_sem, Nat.reduceSub, reduceIte, Nat.reduceEqDiff, Nat.reduceLT, Nat.reduceMul, Nat.reduceAdd, Nat.reduceBEq, Nat.reduceLeDiff, Int.reduceLT, Int.reduceLE, Int.reduceNeg, Int.reduceBEq, Int.reduceBNe, Int.reduceToNat, List.length_map, rxT, g1]))
      | (refine AV.cond ?_ ?_ (fun hc => ?_) (fun hc => ?_) <;> (try simp only [go_sem, Nat.reduceSub, reduceIte, Nat.reduceEqDiff, Nat.reduceLT, Nat.reduceMul, Nat.reduceAdd, Nat.reduceBEq, Nat.reduceLeDiff, Int.reduceLT, Int.reduceLE, Int.reduceNeg, Int.reduceBEq, Int.reduceBNe, Int.reduceToNat, beq_iff_eq, beq_eq_false_iff_ne] at hc) <;> (try simp only [go_sem, Nat.reduceSub, reduceIte, Nat.reduceEqDiff, Nat.reduceLT, Nat.reduceMul, Nat.reduceAdd, Nat.reduceBEq, Nat.reduceLeDiff, Int.reduceLT, Int.reduceLE, Int.reduceNeg, Int.reduceBEq, Int.reduceBNe, Int.reduceToNat]))
      | ((first | refine AV.skip ?_ | refine AV.exit ?_); simp only [go_sem, Nat.reduceSub, reduceIte, Nat.reduceEqDiff, Nat.reduceLT, Nat.reduceMul, Nat.reduceAdd, Nat.reduceBEq, Nat.reduceLeDiff, Int.reduceLT, Int.reduceLE, Int.reduceNeg, Int.reduceBEq, Int.reduceBNe, Int.reduceToNat])
      | ((first | refine ⟨_, _, awake8_spec, rfl, ?_⟩ | refine ⟨_, _, awake8_spec, ?_⟩ | refine ⟨_, _, fun _ => awake8_spec, rfl, fun _ => trivial, ?_⟩); (try simp only [go_sem, Nat.reduceSub, reduceIte, Nat.reduceEqDiff, Nat.reduceLT, Nat.reduceMul, Nat.reduceAdd, Nat.reduceBEq, Nat.reduceLeDiff, Int.reduceLT, Int.reduceLE, Int.reduceNeg, Int.reduceBEq, Int.reduceBNe, Int.reduceToNat, List.length_map, rxT, g1]); repeat (simp (disch := omega) only [wrap_small, getD_map_lt]; try simp only [go_sem, Nat.reduceSub, reduceIte, Nat.reduceEqDiff, Nat.reduceLT, Nat.reduceMul, Nat.reduceAdd, Nat.reduceBEq, Nat.reduceLeDiff, Int.reduceLT, Int.reduceLE, Int.reduceNeg, Int.reduceBEq, Int.reduceBNe, Int.reduceToNat, List.length_map, rxT, g1]))
      | ((first | refine ⟨.sh, .bool false, rfl, trivial, ?_⟩ | refine ⟨.sh, .bool false, rfl, ?_⟩); try simp only [go_sem, Nat.reduceSub, reduceIte, Nat.reduceEqDiff, Nat.reduceLT, Nat.reduceMul, Nat.reduceAdd, Nat.reduceBEq, Nat.reduceLeDiff, Int.reduceLT, Int.reduceLE, Int.reduceNeg, Int.reduceBEq, Int.reduceBNe, Int.reduceToNat])
      | (refine AV.ret ?_; (try simp only [go_sem, Nat.reduceSub, reduceIte, Nat.reduceEqDiff, Nat.reduceLT, Nat.reduceMul, Nat.reduceAdd, Nat.reduceBEq, Nat.reduceLeDiff, Int.reduceLT, Int.reduceLE, Int.reduceNeg, Int.reduceBEq, Int.reduceBNe, Int.reduceToNat]); first | refine atEnd_t (by simp only [go_sem, Nat.reduceSub, reduceIte, Nat.reduceEqDiff, Nat.reduceLT, Nat.reduceMul, Nat.reduceAdd, Nat.reduceBEq, Nat.reduceLeDiff, Int.reduceLT, Int.reduceLE, Int.reduceNeg, Int.reduceBEq, Int.reduceBNe, Int.reduceToNat] <;> rfl) ?_ (by first | (simp [rxT]; done) | exact leftT_tup _) | refine atEnd_c (by simp only [go_sem, Nat.reduceSub, reduceIte, Nat.reduceEqDiff, Nat.reduceLT, Nat.reduceMul, Nat.reduceAdd, Nat.reduceBEq, Nat.reduceLeDiff, Int.reduceLT, Int.reduceLE, Int.reduceNeg, Int.reduceBEq, Int.reduceBNe, Int.reduceToNat] <;> rfl) ?_ (by first | (simp [rxT]; done) | exact leftT_tup _) | refine atEnd_ct (by simp only [go_sem, Nat.reduceSub, reduceIte, Nat.reduceEqDiff, Nat.reduceLT, Nat.reduceMul, Nat.reduceAdd, Nat.reduceBEq, Nat.reduceLeDiff, Int.reduceLT, Int.reduceLE, Int.reduceNeg, Int.reduceBEq, Int.reduceBNe, Int.reduceToNat] <;> rfl) ?_ (by first | (simp; done) | exact leftT_tup _) (by simp only [go_sem, Nat.reduceSub, reduceIte, Nat.reduceEqDiff, Nat.reduceLT, Nat.reduceMul, Nat.reduceAdd, Nat.reduceBEq, Nat.reduceLeDiff, Int.reduceLT, Int.reduceLE, Int.reduceNeg, Int.reduceBEq, Int.reduceBNe, Int.reduceToNat] <;> rfl) ?_ (by simp) | refine atEnd_o (by simp only [go_sem, Nat.reduceSub, reduceIte, Nat.reduceEqDiff, Nat.reduceLT, Nat.reduceMul, Nat.reduceAdd, Nat.reduceBEq, Nat.reduceLeDiff, Int.reduceLT, Int.reduceLE, Int.reduceNeg, Int.reduceBEq, Int.reduceBNe, Int.reduceToNat] <;> rfl) ?_)
      | (refine And.intro ?_ ?_)
      | (with_reducible intro _)
    all_goals try first | exact True.intro | omega | exact ⟨_, _, rfl⟩ | exact allSolid_pcs _ | exact allSolid_one _ | exact allSolid_bool _ | rfl
  have g1 : ((r.length : Int) > 30) = False := eq_false (by omega)
  by_cases c2 : s.size > 6
  · have g2 : ((s.size : Int) > 6) = True := eq_true (by omega)
    refine ACalls.of n3 rfl (m3 _ rfl) q3 (by simp only [List.length_cons, List.length_nil]; decide) (fun C hC => ?_)
    have hN : C.N = 107 := hC
    repeat' first
      | refine AV.seq ?_
      | refine AV.block ?_
      | ((first | refine AV.reg ?_ | refine AV.regD mixed ?_); simp only [hN, c3R0, c3R1, c3R2, c3R3, c3R4, c3R5, c3R6, c3R7, c3R8, c3R9, c3R10, c3R11, c3R12, c3R13, List.length_map, rxT, g1, g2, go_sem, Nat.reduceSub, reduceIte, Nat.reduceEqDiff, Nat.reduceLT, Nat.reduceMul, Nat.reduceAdd, Nat.reduceBEq, Nat.reduceLeDiff, Int.reduceLT, Int.reduceLE, Int.reduceNeg, Int.reduceBEq, Int.reduceBNe, Int.reduceToNat]; repeat (simp (disch := omega) only [wrap_small, getD_map_lt]; try simp only [go_sem, Nat.reduceSub, reduceIte, Nat.reduceEqDiff, Nat.reduceLT, Nat.reduceMul, Nat.reduceAdd, Nat.reduceBEq, Nat.reduceLeDiff, Int.reduceLT, Int.reduceLE, Int.reduceNeg, Int.reduceBEq, Int.reduceBNe, Int.reduceToNat, List.length_map, rxT, g1, g2]))
      | (refine AV.cond ?_ ?_ (fun hc => ?_) (fun hc => ?_) <;> (try simp only [go_sem, Nat.reduceSub, reduceIte, Nat.reduceEqDiff, Nat.reduceLT, Nat.reduceMul, Nat.reduceAdd, Nat.reduceBEq, Nat.reduceLeDiff, Int.reduceLT, Int.reduceLE, Int.reduceNeg, Int.reduceBEq, Int.reduceBNe, Int.reduceToNat, beq_iff_eq, beq_eq_false_iff_ne] at hc) <;> (try simp only [go_sem, Nat.reduceSub, reduceIte, Nat.reduceEqDiff, Nat.reduceLT, Nat.reduceMul, Nat.reduceAdd, Nat.reduceBEq, Nat.reduceLeDiff, Int.reduceLT, Int.reduceLE, Int.reduceNeg, Int.reduceBEq, Int.reduceBNe, Int.reduceToNat]))
      | ((first | refine AV.skip ?_ | refine AV.exit ?_); simp only [go_sem, Nat.reduceSub, reduceIte, Nat.reduceEqDiff, Nat.reduceLT, Nat.reduceMul, Nat.reduceAdd, Nat.reduceBEq, Nat.reduceLeDiff, Int.reduceLT, Int.reduceLE, Int.reduceNeg, Int.reduceBEq, Int.reduceBNe, Int.reduceToNat])
      | ((first | refine ⟨_, _, awake8_spec, rfl, ?_⟩ | refine ⟨_, _, awake8_spec, ?_⟩ | refine ⟨_, _, fun _ => awake8_spec, rfl, fun _ => trivial, ?_⟩); (try simp only [go_sem, Nat.reduceSub, reduceIte, Nat.reduceEqDiff, Nat.reduceLT, Nat.reduceMul, Nat.reduceAdd, Nat.reduceBEq, Nat.reduceLeDiff, Int.reduceLT, Int.reduceLE, Int.reduceNeg, Int.reduceBEq, Int.reduceBNe, Int.reduceToNat, List.length_map, rxT, g1, g2]); repeat (simp (disch := omega) only [wrap_small, getD_map_lt]; try simp only [go_sem, Nat.reduceSub, reduceIte, Nat.reduceEqDiff, Nat.reduceLT, Nat.reduceMul, Nat.reduceAdd, Nat.reduceBEq, Nat.reduceLeDiff, Int.reduceLT, Int.reduceLE, Int.reduceNeg, Int.reduceBEq, Int.reduceBNe, Int.reduceToNat, List.length_map, rxT, g1, g2]))
      | ((first | refine ⟨.sh, .bool false, rfl, trivial, ?_⟩ | refine ⟨.sh, .bool false, rfl, ?_⟩); try simp only [go_sem, Nat.reduceSub, reduceIte, Nat.reduceEqDiff, Nat.reduceLT, Nat.reduceMul, Nat.reduceAdd, Nat.reduceBEq, Nat.reduceLeDiff, Int.reduceLT, Int.reduceLE, Int.reduceNeg, Int.reduceBEq, Int.reduceBNe, Int.reduceToNat])
      | (refine AV.ret ?_; (try simp only [go_sem, Nat.reduceSub, reduceIte, Nat.reduceEqDiff, Nat.reduceLT, Nat.reduceMul, Nat.reduceAdd, Nat.reduceBEq, Nat.reduceLeDiff, Int.reduceLT, Int.reduceLE, Int.reduceNeg, Int.reduceBEq, Int.reduceBNe, Int.reduceToNat]); first | refine atEnd_t (by simp only [go_sem, Nat.reduceSub, reduceIte, Nat.reduceEqDiff, Nat.reduceLT, Nat.reduceMul, Nat.reduceAdd, Nat.reduceBEq, Nat.reduceLeDiff, Int.reduceLT, Int.reduceLE, Int.reduceNeg, Int.reduceBEq, Int.reduceBNe, Int.reduceToNat] <;> rfl) ?_ (by first | (simp [rxT]; done) | exact leftT_tup _) | refine atEnd_c (by simp only [go_sem, Nat.reduceSub, reduceIte, Nat.reduceEqDiff, Nat.reduceLT, Nat.reduceMul, Nat.reduceAdd, Nat.reduceBEq, Nat.reduceLeDiff, Int.reduceLT, Int.reduceLE, Int.reduceNeg, Int.reduceBEq, Int.reduceBNe, Int.reduceToNat] <;> rfl) ?_ (by first | (simp [rxT]; done) | exact leftT_tup _) | refine atEnd_ct (by simp only [go_sem, Nat.reduceSub, reduceIte, Nat.reduceEqDiff, Nat.reduceLT, Nat.reduceMul, Nat.reduceAdd, Nat.reduceBEq, Nat.reduceLeDiff, Int.reduceLT, Int.reduceLE, Int.reduceNeg, Int.reduceBEq, Int.reduceBNe, Int.reduceToNat] <;> rfl) ?_ (by first | (simp; done) | exact leftT_tup _) (by simp only [go_sem, Nat.reduceSub, reduceIte, Nat.reduceEqDiff, Nat.reduceLT, Nat.reduceMul, Nat.reduceAdd, Nat.reduceBEq, Nat.reduceLeDiff, Int.reduceLT, Int.reduceLE, Int.reduceNeg, Int.reduceBEq, Int.reduceBNe, Int.reduceToNat] <;> rfl) ?_ (by simp) | refine atEnd_o (by simp only [go_sem, Nat.reduceSub, reduceIte, Nat.reduceEqDiff, Nat.reduceLT, Nat.reduceMul, Nat.reduceAdd, Nat.reduceBEq, Nat.reduceLeDiff, Int.reduceLT, Int.reduceLE, Int.reduceNeg, Int.reduceBEq, Int.reduceBNe, Int.reduceToNat] <;> rfl) ?_)
      | (refine And.intro ?_ ?_)
      | (with_reducible intro _)
    all_goals try first | exact True.intro | omega | exact ⟨_, _, rfl⟩ | exact allSolid_pcs _ | exact allSolid_one _ | exact allSolid_bool _ | rfl
  have g2 : ((s.size : Int) > 6) = False := eq_false (by omega)
  have g3 : ((t.size : Int) > 6) = True := eq_true (by omega)
  refine ACalls.of n3 rfl (m3 _ rfl) q3 (by simp only [List.length_cons, List.length_nil]; decide) (fun C hC => ?_)
  have hN : C.N = 107 := hC
  repeat' first
    | refine AV.seq ?_
    | refine AV.block ?_
    | ((first | refine AV.reg ?_ | refine AV.regD mixed ?_); simp only [hN, c3R0, c3R1, c3R2, c3R3, c3R4, c3R5, c3R6, c3R7, c3R8, c3R9, c3R10, c3R11, c3R12, c3R13, List.length_map, rxT, g1, g2, g3, go_sem, Nat.reduceSub, reduceIte, Nat.reduceEqDiff, Nat.reduceLT, Nat.reduceMul, Nat.reduceAdd, Nat.reduceBEq, Nat.reduceLeDiff, Int.reduceLT, Int.reduceLE, Int.reduceNeg, Int.reduceBEq, Int.reduceBNe, Int.reduceToNat]; repeat (simp (disch := omega) only [wrap_small, getD_map_lt]; try simp only [go_sem, Nat.reduceSub, reduceIte, Nat.reduceEqDiff, Nat.reduceLT, Nat.reduceMul, Nat.reduceAdd, Nat.reduceBEq, Nat.reduceLeDiff, Int.reduceLT, Int.reduceLE, Int.reduceNeg, Int.reduceBEq, Int.reduceBNe, Int.reduceToNat, List.length_map, rxT, g1, g2, g3]))
    | (refine AV.cond ?_ ?_ (fun hc => ?_) (fun hc => ?_) <;> (try simp only [go_sem, Nat.reduceSub, reduceIte, Nat.reduceEqDiff, Nat.reduceLT, Nat.reduceMul, Nat.reduceAdd, Nat.reduceBEq, Nat.reduceLeDiff, Int.reduceLT, Int.reduceLE, Int.reduceNeg, Int.reduceBEq, Int.reduceBNe, Int.reduceToNat, beq_iff_eq, beq_eq_false_iff_ne] at hc) <;> (try simp only [go_sem, Nat.reduceSub, reduceIte, Nat.reduceEqDiff, Nat.reduceLT, Nat.reduceMul, Nat.reduceAdd, Nat.reduceBEq, Nat.reduceLeDiff, Int.reduceLT, Int.reduceLE, Int.reduceNeg, Int.reduceBEq, Int.reduceBNe, Int.reduceToNat]))
    | ((first | refine AV.skip ?_ | refine AV.exit ?_); simp only [go_sem, Nat.reduceSub, reduceIte, Nat.reduceEqDiff, Nat.reduceLT, Nat.reduceMul, Nat.reduceAdd, Nat.reduceBEq, Nat.reduceLeDiff, Int.reduceLT, Int.reduceLE, Int.reduceNeg, Int.reduceBEq, Int.reduceBNe, Int.reduceToNat])
    | ((first | refine ⟨_, _, awake8_spec, rfl, ?_⟩ | refine ⟨_, _, awake8_spec, ?_⟩ | refine ⟨_, _, fun _ => awake8_spec, rfl, fun _ => trivial, ?_⟩); (try simp only [go_sem, Nat.reduceSub, reduceIte, Nat.reduceEqDiff, Nat.reduceLT, Nat.reduceMul, Nat.reduceAdd, Nat.reduceBEq, Nat.reduceLeDiff, Int.reduceLT, Int.reduceLE, Int.reduceNeg, Int.reduceBEq, Int.reduceBNe, Int.reduceToNat, List.length_map, rxT, g1, g2, g3]); repeat (simp (disch := omega) only [wrap_small, getD_map_lt]; try simp only [go_sem, Nat.reduceSub, reduceIte, Nat.reduceEqDiff, Nat.reduceLT, Nat.reduceMul, Nat.reduceAdd, Nat.reduceBEq, Nat.reduceLeDiff, Int.reduceLT, Int.reduceLE, Int.reduceNeg, Int.reduceBEq, Int.reduceBNe, Int.reduceToNat, List.length_map, rxT, g1, g2, g3]))
    | ((first | refine ⟨.sh, .bool false, rfl, trivial, ?_⟩ | refine ⟨.sh, .bool false, rfl, ?_⟩); try simp only [go_sem, Nat.reduceSub, reduceIte, Nat.reduceEqDiff, Nat.reduceLT, Nat.reduceMul, Nat.reduceAdd, Nat.reduceBEq, Nat.reduceLeDiff, Int.reduceLT, Int.reduceLE, Int.reduceNeg, Int.reduceBEq, Int.reduceBNe, Int.reduceToNat])
    | (refine AV.ret ?_; (try simp only [go_sem, Nat.reduceSub, reduceIte, Nat.reduceEqDiff, Nat.reduceLT, Nat.reduceMul, Nat.reduceAdd, Nat.reduceBEq, Nat.reduceLeDiff, Int.reduceLT, Int.reduceLE, Int.reduceNeg, Int.reduceBEq, Int.reduceBNe, Int.reduceToNat]); first | refine atEnd_t (by simp only [go_sem, Nat.reduceSub, reduceIte, Nat.reduceEqDiff, Nat.reduceLT, Nat.reduceMul, Nat.reduceAdd, Nat.reduceBEq, Nat.reduceLeDiff, Int.reduceLT, Int.reduceLE, Int.reduceNeg, Int.reduceBEq, Int.reduceBNe, Int.reduceToNat] <;> rfl) ?_ (by first | (simp [rxT]; done) | exact leftT_tup _) | refine atEnd_c (by simp only [go_sem, Nat.reduceSub, reduceIte, Nat.reduceEqDiff, Nat.reduceLT, Nat.reduceMul, Nat.reduceAdd, Nat.reduceBEq, Nat.reduceLeDiff, Int.reduceLT, Int.reduceLE, Int.reduceNeg, Int.reduceBEq, Int.reduceBNe, Int.reduceToNat] <;> rfl) ?_ (by first | (simp [rxT]; done) | exact leftT_tup _) | refine atEnd_ct (by simp only [go_sem, Nat.reduceSub, reduceIte, Nat.reduceEqDiff, Nat.reduceLT, Nat.reduceMul, Nat.reduceAdd, Nat.reduceBEq, Nat.reduceLeDiff, Int.reduceLT, Int.reduceLE, Int.reduceNeg, Int.reduceBEq, Int.reduceBNe, Int.reduceToNat] <;> rfl) ?_ (by first | (simp; done) | exact leftT_tup _) (by simp only [go_sem, Nat.reduceSub, reduceIte, Nat.reduceEqDiff, Nat.reduceLT, Nat.reduceMul, Nat.reduceAdd, Nat.reduceBEq, Nat.reduceLeDiff, Int.reduceLT, Int.reduceLE, Int.reduceNeg, Int.reduceBEq, Int.reduceBNe, Int.reduceToNat] <;> rfl) ?_ (by simp) | refine atEnd_o (by simp only [go_sem, Nat.reduceSub, reduceIte, Nat.reduceEqDiff, Nat.reduceLT, Nat.reduceMul, Nat.reduceAdd, Nat.reduceBEq, Nat.reduceLeDiff, Int.reduceLT, Int.reduceLE, Int.reduceNeg, Int.reduceBEq, Int.reduceBNe, Int.reduceToNat] <;> rfl) ?_)
    | (refine And.intro ?_ ?_)
    | (with_reducible intro _)
  all_goals try first | exact True.intro | omega | exact ⟨_, _, rfl⟩ | exact allSolid_pcs _ | exact allSolid_one _ | exact allSolid_bool _ | rfl
theorem thrBad (r : List Pc) (s t : ByteArray) (k : Nat) (hk : k < 65536) (hr : r.length ≤ 30) (hs : s.size ≤ 6) (ht : t.size ≤ 6) (hb : checkS r ≠ 0) : ACalls Try.prog 3 [rxT r, .agg [.str s, .str t], .int .u16 (k : Int)] .sh (.bool true) := by
  have hm : IntKind.i64.wrap ((k : Int).tmod 400) = ((k % 400 : Nat) : Int) := by
    have e : (k : Int).tmod 400 = ((k % 400 : Nat) : Int) := by rw [Int.tmod_eq_emod_of_nonneg (by omega)]; omega
    rw [e, wrap_small] <;> omega
  have g1 : ¬ ((r.length : Int) > 30) := by omega
  have g2 : ¬ ((s.size : Int) > 6) := by omega
  have g3 : ¬ ((t.size : Int) > 6) := by omega
  have h9 := through9_bad r s ((k % 400 : Nat) : Int) (by omega) hb
  have hbt : (checkS r != 0) = true := by simpa using hb
  refine ACalls.of n3 rfl (m3 _ rfl) q3 (by simp only [List.length_cons, List.length_nil]; decide) (fun C hC => ?_)
  have hN : C.N = 107 := hC
  repeat' first
    | refine AV.seq ?_
    | refine AV.block ?_
    | ((first | refine AV.reg ?_ | refine AV.regD mixed ?_); simp only [hN, c3R0, c3R1, c3R2, c3R3, c3R4, c3R5, c3R6, c3R7, c3R8, c3R9, c3R10, c3R11, c3R12, c3R13, List.length_map, rxT, g1, g2, g3, hm, hbt, leftT, oe, Option.isNone_none, go_sem, Nat.reduceSub, reduceIte, Nat.reduceEqDiff, Nat.reduceLT, Nat.reduceMul, Nat.reduceAdd, Nat.reduceBEq, Nat.reduceLeDiff, Int.reduceLT, Int.reduceLE, Int.reduceNeg, Int.reduceBEq, Int.reduceBNe, Int.reduceToNat]; repeat (simp (disch := omega) only [wrap_small, getD_map_lt]; try simp only [go_sem, Nat.reduceSub, reduceIte, Nat.reduceEqDiff, Nat.reduceLT, Nat.reduceMul, Nat.reduceAdd, Nat.reduceBEq, Nat.reduceLeDiff, Int.reduceLT, Int.reduceLE, Int.reduceNeg, Int.reduceBEq, Int.reduceBNe, Int.reduceToNat, List.length_map, rxT, g1, g2, g3, hm, hbt, leftT, oe, Option.isNone_none]))
    | (refine AV.cond ?_ ?_ (fun hc => ?_) (fun hc => ?_) <;> (try simp only [go_sem, Nat.reduceSub, reduceIte, Nat.reduceEqDiff, Nat.reduceLT, Nat.reduceMul, Nat.reduceAdd, Nat.reduceBEq, Nat.reduceLeDiff, Int.reduceLT, Int.reduceLE, Int.reduceNeg, Int.reduceBEq, Int.reduceBNe, Int.reduceToNat, beq_iff_eq, beq_eq_false_iff_ne] at hc) <;> (try simp only [go_sem, Nat.reduceSub, reduceIte, Nat.reduceEqDiff, Nat.reduceLT, Nat.reduceMul, Nat.reduceAdd, Nat.reduceBEq, Nat.reduceLeDiff, Int.reduceLT, Int.reduceLE, Int.reduceNeg, Int.reduceBEq, Int.reduceBNe, Int.reduceToNat]))
    | ((first | refine AV.skip ?_ | refine AV.exit ?_); simp only [go_sem, Nat.reduceSub, reduceIte, Nat.reduceEqDiff, Nat.reduceLT, Nat.reduceMul, Nat.reduceAdd, Nat.reduceBEq, Nat.reduceLeDiff, Int.reduceLT, Int.reduceLE, Int.reduceNeg, Int.reduceBEq, Int.reduceBNe, Int.reduceToNat])
    | ((first | refine ⟨_, _, awake8_spec, rfl, ?_⟩ | refine ⟨_, _, awake8_spec, ?_⟩ | refine ⟨_, _, fun _ => awake8_spec, rfl, fun _ => trivial, ?_⟩ | refine ⟨_, _, h9, rfl, ?_⟩ | refine ⟨_, _, h9, ?_⟩ | refine ⟨_, _, fun _ => h9, rfl, fun _ => trivial, ?_⟩ | refine ⟨_, _, check10_spec r (by omega), rfl, ?_⟩ | refine ⟨_, _, check10_spec r (by omega), ?_⟩ | refine ⟨_, _, fun _ => check10_spec r (by omega), rfl, fun _ => trivial, ?_⟩); (try simp only [go_sem, Nat.reduceSub, reduceIte, Nat.reduceEqDiff, Nat.reduceLT, Nat.reduceMul, Nat.reduceAdd, Nat.reduceBEq, Nat.reduceLeDiff, Int.reduceLT, Int.reduceLE, Int.reduceNeg, Int.reduceBEq, Int.reduceBNe, Int.reduceToNat, List.length_map, rxT, g1, g2, g3, hm, hbt, leftT, oe, Option.isNone_none]); repeat (simp (disch := omega) only [wrap_small, getD_map_lt]; try simp only [go_sem, Nat.reduceSub, reduceIte, Nat.reduceEqDiff, Nat.reduceLT, Nat.reduceMul, Nat.reduceAdd, Nat.reduceBEq, Nat.reduceLeDiff, Int.reduceLT, Int.reduceLE, Int.reduceNeg, Int.reduceBEq, Int.reduceBNe, Int.reduceToNat, List.length_map, rxT, g1, g2, g3, hm, hbt, leftT, oe, Option.isNone_none]))
    | ((first | refine ⟨.sh, .bool false, rfl, trivial, ?_⟩ | refine ⟨.sh, .bool false, rfl, ?_⟩); try simp only [go_sem, Nat.reduceSub, reduceIte, Nat.reduceEqDiff, Nat.reduceLT, Nat.reduceMul, Nat.reduceAdd, Nat.reduceBEq, Nat.reduceLeDiff, Int.reduceLT, Int.reduceLE, Int.reduceNeg, Int.reduceBEq, Int.reduceBNe, Int.reduceToNat])
    | (refine AV.ret ?_; (try simp only [go_sem, Nat.reduceSub, reduceIte, Nat.reduceEqDiff, Nat.reduceLT, Nat.reduceMul, Nat.reduceAdd, Nat.reduceBEq, Nat.reduceLeDiff, Int.reduceLT, Int.reduceLE, Int.reduceNeg, Int.reduceBEq, Int.reduceBNe, Int.reduceToNat]); first | refine atEnd_t (by simp only [go_sem, Nat.reduceSub, reduceIte, Nat.reduceEqDiff, Nat.reduceLT, Nat.reduceMul, Nat.reduceAdd, Nat.reduceBEq, Nat.reduceLeDiff, Int.reduceLT, Int.reduceLE, Int.reduceNeg, Int.reduceBEq, Int.reduceBNe, Int.reduceToNat] <;> rfl) ?_ (by first | (simp [rxT]; done) | exact leftT_tup _) | refine atEnd_c (by simp only [go_sem, Nat.reduceSub, reduceIte, Nat.reduceEqDiff, Nat.reduceLT, Nat.reduceMul, Nat.reduceAdd, Nat.reduceBEq, Nat.reduceLeDiff, Int.reduceLT, Int.reduceLE, Int.reduceNeg, Int.reduceBEq, Int.reduceBNe, Int.reduceToNat] <;> rfl) ?_ (by first | (simp [rxT]; done) | exact leftT_tup _) | refine atEnd_ct (by simp only [go_sem, Nat.reduceSub, reduceIte, Nat.reduceEqDiff, Nat.reduceLT, Nat.reduceMul, Nat.reduceAdd, Nat.reduceBEq, Nat.reduceLeDiff, Int.reduceLT, Int.reduceLE, Int.reduceNeg, Int.reduceBEq, Int.reduceBNe, Int.reduceToNat] <;> rfl) ?_ (by first | (simp; done) | exact leftT_tup _) (by simp only [go_sem, Nat.reduceSub, reduceIte, Nat.reduceEqDiff, Nat.reduceLT, Nat.reduceMul, Nat.reduceAdd, Nat.reduceBEq, Nat.reduceLeDiff, Int.reduceLT, Int.reduceLE, Int.reduceNeg, Int.reduceBEq, Int.reduceBNe, Int.reduceToNat] <;> rfl) ?_ (by simp) | refine atEnd_o (by simp only [go_sem, Nat.reduceSub, reduceIte, Nat.reduceEqDiff, Nat.reduceLT, Nat.reduceMul, Nat.reduceAdd, Nat.reduceBEq, Nat.reduceLeDiff, Int.reduceLT, Int.reduceLE, Int.reduceNeg, Int.reduceBEq, Int.reduceBNe, Int.reduceToNat] <;> rfl) ?_)
    | (refine And.intro ?_ ?_)
    | (with_reducible intro _)
  all_goals try first | exact True.intro | omega | exact ⟨_, _, rfl⟩ | exact allSolid_pcs _ | exact allSolid_one _ | exact allSolid_bool _ | rfl
theorem str_add (u v : ByteArray) (h : u.size + v.size ≤ 100) : (((u.size + v.size : Nat) : Int) ≤ IntKind.i64.max) = True := by
  refine eq_true ?_
  have : IntKind.i64.max = 9223372036854775807 := rfl
  omega
/-- Nothing is left. -/
theorem thrVoid (x : Rx) (s t : ByteArray) (k n : Nat) (hk : k < 65536) (hr : x.enc.length ≤ 30) (hs : s.size ≤ 6) (ht : t.size ≤ 6) (hb : checkS x.enc = 0) (hn : n < s.size) (hv : hasB x (s.extract 0 (n + 1) ++ t) = false)
    (h9 : ACalls Try.prog 9 [rxT x.enc, .str s, .int .i64 ((k % 400 : Nat) : Int)] (.tup [.sh, .sh]) (.tup [leftT .none, .int .i64 (n : Int)])) : ACalls Try.prog 3 [rxT x.enc, .agg [.str s, .str t], .int .u16 (k : Int)] .sh (.bool true) := by
  have g1 : ¬ ((x.enc.length : Int) > 30) := by omega
  have g2 : ¬ ((s.size : Int) > 6) := by omega
  have g3 : ¬ ((t.size : Int) > 6) := by omega
  have hm := most_wrap k hk
  have h10 := check10_spec x.enc (by omega)
  rw [hb] at h10
  have hes : (s.extract 0 (n + 1)).size = n + 1 := by simp; omega
  have h11 := has11_tree x (s.extract 0 (n + 1) ++ t) (by omega) (by rw [ByteArray.size_append, hes]; omega)
  rw [hv] at h11
  have ha := str_add (s.extract 0 (n + 1)) t (by rw [hes]; omega)
  refine ACalls.of n3 rfl (m3 _ rfl) q3 (by simp only [List.length_cons, List.length_nil]; decide) (fun C hC => ?_)
  have hN : C.N = 107 := hC
  repeat' first
    | refine AV.seq ?_
    | refine AV.block ?_
    | ((first | refine AV.reg ?_ | refine AV.regD mixed ?_); simp only [hN, c3R0, c3R1, c3R2, c3R3, c3R4, c3R5, c3R6, c3R7, c3R8, c3R9, c3R10, c3R11, c3R12, c3R13, List.length_map, rxT, g1, g2, g3, hm, leftT, oe, Option.isNone_none, strOp, ha, toNat_succ, go_sem, Nat.reduceSub, reduceIte, Nat.reduceEqDiff, Nat.reduceLT, Nat.reduceMul, Nat.reduceAdd, Nat.reduceBEq, Nat.reduceLeDiff, Int.reduceLT, Int.reduceLE, Int.reduceNeg, Int.reduceBEq, Int.reduceBNe, Int.reduceToNat]; repeat (simp (disch := omega) only [wrap_small, getD_map_lt]; try simp only [go_sem, Nat.reduceSub, reduceIte, Nat.reduceEqDiff, Nat.reduceLT, Nat.reduceMul, Nat.reduceAdd, Nat.reduceBEq, Nat.reduceLeDiff, Int.reduceLT, Int.reduceLE, Int.reduceNeg, Int.reduceBEq, Int.reduceBNe, Int.reduceToNat, List.length_map, rxT, g1, g2, g3, hm, leftT, oe, Option.isNone_none, strOp, ha, toNat_succ]))
    | (refine AV.cond ?_ ?_ (fun hc => ?_) (fun hc => ?_) <;> (try simp only [go_sem, Nat.reduceSub, reduceIte, Nat.reduceEqDiff, Nat.reduceLT, Nat.reduceMul, Nat.reduceAdd, Nat.reduceBEq, Nat.reduceLeDiff, Int.reduceLT, Int.reduceLE, Int.reduceNeg, Int.reduceBEq, Int.reduceBNe, Int.reduceToNat, beq_iff_eq, beq_eq_false_iff_ne] at hc) <;> (try simp only [go_sem, Nat.reduceSub, reduceIte, Nat.reduceEqDiff, Nat.reduceLT, Nat.reduceMul, Nat.reduceAdd, Nat.reduceBEq, Nat.reduceLeDiff, Int.reduceLT, Int.reduceLE, Int.reduceNeg, Int.reduceBEq, Int.reduceBNe, Int.reduceToNat]))
    | ((first | refine AV.skip ?_ | refine AV.exit ?_); simp only [go_sem, Nat.reduceSub, reduceIte, Nat.reduceEqDiff, Nat.reduceLT, Nat.reduceMul, Nat.reduceAdd, Nat.reduceBEq, Nat.reduceLeDiff, Int.reduceLT, Int.reduceLE, Int.reduceNeg, Int.reduceBEq, Int.reduceBNe, Int.reduceToNat])
    | ((first | refine ⟨_, _, awake8_spec, rfl, ?_⟩ | refine ⟨_, _, awake8_spec, ?_⟩ | refine ⟨_, _, fun _ => awake8_spec, rfl, fun _ => trivial, ?_⟩ | refine ⟨_, _, h9, rfl, ?_⟩ | refine ⟨_, _, h9, ?_⟩ | refine ⟨_, _, fun _ => h9, rfl, fun _ => trivial, ?_⟩ | refine ⟨_, _, h10, rfl, ?_⟩ | refine ⟨_, _, h10, ?_⟩ | refine ⟨_, _, fun _ => h10, rfl, fun _ => trivial, ?_⟩ | refine ⟨_, _, h11, rfl, ?_⟩ | refine ⟨_, _, h11, ?_⟩ | refine ⟨_, _, fun _ => h11, rfl, fun _ => trivial, ?_⟩); (try simp only [go_sem, Nat.reduceSub, reduceIte, Nat.reduceEqDiff, Nat.reduceLT, Nat.reduceMul, Nat.reduceAdd, Nat.reduceBEq, Nat.reduceLeDiff, Int.reduceLT, Int.reduceLE, Int.reduceNeg, Int.reduceBEq, Int.reduceBNe, Int.reduceToNat, List.length_map, rxT, g1, g2, g3, hm, leftT, oe, Option.isNone_none, strOp, ha, toNat_succ]); repeat (simp (disch := omega) only [wrap_small, getD_map_lt]; try simp only [go_sem, Nat.reduceSub, reduceIte, Nat.reduceEqDiff, Nat.reduceLT, Nat.reduceMul, Nat.reduceAdd, Nat.reduceBEq, Nat.reduceLeDiff, Int.reduceLT, Int.reduceLE, Int.reduceNeg, Int.reduceBEq, Int.reduceBNe, Int.reduceToNat, List.length_map, rxT, g1, g2, g3, hm, leftT, oe, Option.isNone_none, strOp, ha, toNat_succ]))
    | ((first | refine ⟨.sh, .bool false, rfl, trivial, ?_⟩ | refine ⟨.sh, .bool false, rfl, ?_⟩); try simp only [go_sem, Nat.reduceSub, reduceIte, Nat.reduceEqDiff, Nat.reduceLT, Nat.reduceMul, Nat.reduceAdd, Nat.reduceBEq, Nat.reduceLeDiff, Int.reduceLT, Int.reduceLE, Int.reduceNeg, Int.reduceBEq, Int.reduceBNe, Int.reduceToNat])
    | (refine AV.ret ?_; (try simp only [go_sem, Nat.reduceSub, reduceIte, Nat.reduceEqDiff, Nat.reduceLT, Nat.reduceMul, Nat.reduceAdd, Nat.reduceBEq, Nat.reduceLeDiff, Int.reduceLT, Int.reduceLE, Int.reduceNeg, Int.reduceBEq, Int.reduceBNe, Int.reduceToNat]); first | refine atEnd_t (by simp only [go_sem, Nat.reduceSub, reduceIte, Nat.reduceEqDiff, Nat.reduceLT, Nat.reduceMul, Nat.reduceAdd, Nat.reduceBEq, Nat.reduceLeDiff, Int.reduceLT, Int.reduceLE, Int.reduceNeg, Int.reduceBEq, Int.reduceBNe, Int.reduceToNat] <;> rfl) ?_ (by first | (simp [rxT]; done) | exact leftT_tup _) | refine atEnd_c (by simp only [go_sem, Nat.reduceSub, reduceIte, Nat.reduceEqDiff, Nat.reduceLT, Nat.reduceMul, Nat.reduceAdd, Nat.reduceBEq, Nat.reduceLeDiff, Int.reduceLT, Int.reduceLE, Int.reduceNeg, Int.reduceBEq, Int.reduceBNe, Int.reduceToNat] <;> rfl) ?_ (by first | (simp [rxT]; done) | exact leftT_tup _) | refine atEnd_ct (by simp only [go_sem, Nat.reduceSub, reduceIte, Nat.reduceEqDiff, Nat.reduceLT, Nat.reduceMul, Nat.reduceAdd, Nat.reduceBEq, Nat.reduceLeDiff, Int.reduceLT, Int.reduceLE, Int.reduceNeg, Int.reduceBEq, Int.reduceBNe, Int.reduceToNat] <;> rfl) ?_ (by first | (simp; done) | exact leftT_tup _) (by simp only [go_sem, Nat.reduceSub, reduceIte, Nat.reduceEqDiff, Nat.reduceLT, Nat.reduceMul, Nat.reduceAdd, Nat.reduceBEq, Nat.reduceLeDiff, Int.reduceLT, Int.reduceLE, Int.reduceNeg, Int.reduceBEq, Int.reduceBNe, Int.reduceToNat] <;> rfl) ?_ (by simp) | refine atEnd_o (by simp only [go_sem, Nat.reduceSub, reduceIte, Nat.reduceEqDiff, Nat.reduceLT, Nat.reduceMul, Nat.reduceAdd, Nat.reduceBEq, Nat.reduceLeDiff, Int.reduceLT, Int.reduceLE, Int.reduceNeg, Int.reduceBEq, Int.reduceBNe, Int.reduceToNat] <;> rfl) ?_)
    | (refine And.intro ?_ ?_)
    | (with_reducible intro _)
  all_goals try first | exact True.intro | omega | exact ⟨_, _, rfl⟩ | exact allSolid_pcs _ | exact allSolid_one _ | exact allSolid_bool _ | rfl
  all_goals trace_state
/-- Too much is left. -/
theorem thrMuch (x y : Rx) (s t : ByteArray) (k n : Nat) (hk : k < 65536) (hr : x.enc.length ≤ 30) (hs : s.size ≤ 6) (ht : t.size ≤ 6) (hb : checkS x.enc = 0) (hn : n < s.size) (hv : (y.enc.length : Int) > ((k % 400 : Nat) : Int))
    (h9 : ACalls Try.prog 9 [rxT x.enc, .str s, .int .i64 ((k % 400 : Nat) : Int)] (.tup [.sh, .sh]) (.tup [leftT (.some y), .int .i64 (n : Int)])) : ACalls Try.prog 3 [rxT x.enc, .agg [.str s, .str t], .int .u16 (k : Int)] .sh (.bool true) := by
  have g1 : ¬ ((x.enc.length : Int) > 30) := by omega
  have g2 : ¬ ((s.size : Int) > 6) := by omega
  have g3 : ¬ ((t.size : Int) > 6) := by omega
  have hm := most_wrap k hk
  have h10 := check10_spec x.enc (by omega)
  rw [hb] at h10
  have hvt := eq_true hv
  refine ACalls.of n3 rfl (m3 _ rfl) q3 (by simp only [List.length_cons, List.length_nil]; decide) (fun C hC => ?_)
  have hN : C.N = 107 := hC
  repeat' first
    | refine AV.seq ?_
    | refine AV.block ?_
    | ((first | refine AV.reg ?_ | refine AV.regD mixed ?_); simp only [hN, c3R0, c3R1, c3R2, c3R3, c3R4, c3R5, c3R6, c3R7, c3R8, c3R9, c3R10, c3R11, c3R12, c3R13, List.length_map, rxT, g1, g2, g3, hm, leftT, oe, Option.isNone_some, strOp, toNat_succ, hvt, go_sem, Nat.reduceSub, reduceIte, Nat.reduceEqDiff, Nat.reduceLT, Nat.reduceMul, Nat.reduceAdd, Nat.reduceBEq, Nat.reduceLeDiff, Int.reduceLT, Int.reduceLE, Int.reduceNeg, Int.reduceBEq, Int.reduceBNe, Int.reduceToNat]; repeat (simp (disch := omega) only [wrap_small, getD_map_lt]; try simp only [go_sem, Nat.reduceSub, reduceIte, Nat.reduceEqDiff, Nat.reduceLT, Nat.reduceMul, Nat.reduceAdd, Nat.reduceBEq, Nat.reduceLeDiff, Int.reduceLT, Int.reduceLE, Int.reduceNeg, Int.reduceBEq, Int.reduceBNe, Int.reduceToNat, List.length_map, rxT, g1, g2, g3, hm, leftT, oe, Option.isNone_some, strOp, toNat_succ, hvt]))
    | (refine AV.cond ?_ ?_ (fun hc => ?_) (fun hc => ?_) <;> (try simp only [go_sem, Nat.reduceSub, reduceIte, Nat.reduceEqDiff, Nat.reduceLT, Nat.reduceMul, Nat.reduceAdd, Nat.reduceBEq, Nat.reduceLeDiff, Int.reduceLT, Int.reduceLE, Int.reduceNeg, Int.reduceBEq, Int.reduceBNe, Int.reduceToNat, beq_iff_eq, beq_eq_false_iff_ne] at hc) <;> (try simp only [go_sem, Nat.reduceSub, reduceIte, Nat.reduceEqDiff, Nat.reduceLT, Nat.reduceMul, Nat.reduceAdd, Nat.reduceBEq, Nat.reduceLeDiff, Int.reduceLT, Int.reduceLE, Int.reduceNeg, Int.reduceBEq, Int.reduceBNe, Int.reduceToNat]))
    | ((first | refine AV.skip ?_ | refine AV.exit ?_); simp only [go_sem, Nat.reduceSub, reduceIte, Nat.reduceEqDiff, Nat.reduceLT, Nat.reduceMul, Nat.reduceAdd, Nat.reduceBEq, Nat.reduceLeDiff, Int.reduceLT, Int.reduceLE, Int.reduceNeg, Int.reduceBEq, Int.reduceBNe, Int.reduceToNat])
    | ((first | refine ⟨_, _, awake8_spec, rfl, ?_⟩ | refine ⟨_, _, awake8_spec, ?_⟩ | refine ⟨_, _, fun _ => awake8_spec, rfl, fun _ => trivial, ?_⟩ | refine ⟨_, _, h9, rfl, ?_⟩ | refine ⟨_, _, h9, ?_⟩ | refine ⟨_, _, fun _ => h9, rfl, fun _ => trivial, ?_⟩ | refine ⟨_, _, h10, rfl, ?_⟩ | refine ⟨_, _, h10, ?_⟩ | refine ⟨_, _, fun _ => h10, rfl, fun _ => trivial, ?_⟩); (try simp only [go_sem, Nat.reduceSub, reduceIte, Nat.reduceEqDiff, Nat.reduceLT, Nat.reduceMul, Nat.reduceAdd, Nat.reduceBEq, Nat.reduceLeDiff, Int.reduceLT, Int.reduceLE, Int.reduceNeg, Int.reduceBEq, Int.reduceBNe, Int.reduceToNat, List.length_map, rxT, g1, g2, g3, hm, leftT, oe, Option.isNone_some, strOp, toNat_succ, hvt]); repeat (simp (disch := omega) only [wrap_small, getD_map_lt]; try simp only [go_sem, Nat.reduceSub, reduceIte, Nat.reduceEqDiff, Nat.reduceLT, Nat.reduceMul, Nat.reduceAdd, Nat.reduceBEq, Nat.reduceLeDiff, Int.reduceLT, Int.reduceLE, Int.reduceNeg, Int.reduceBEq, Int.reduceBNe, Int.reduceToNat, List.length_map, rxT, g1, g2, g3, hm, leftT, oe, Option.isNone_some, strOp, toNat_succ, hvt]))
    | ((first | refine ⟨.sh, .bool false, rfl, trivial, ?_⟩ | refine ⟨.sh, .bool false, rfl, ?_⟩); try simp only [go_sem, Nat.reduceSub, reduceIte, Nat.reduceEqDiff, Nat.reduceLT, Nat.reduceMul, Nat.reduceAdd, Nat.reduceBEq, Nat.reduceLeDiff, Int.reduceLT, Int.reduceLE, Int.reduceNeg, Int.reduceBEq, Int.reduceBNe, Int.reduceToNat])
    | (refine AV.ret ?_; (try simp only [go_sem, Nat.reduceSub, reduceIte, Nat.reduceEqDiff, Nat.reduceLT, Nat.reduceMul, Nat.reduceAdd, Nat.reduceBEq, Nat.reduceLeDiff, Int.reduceLT, Int.reduceLE, Int.reduceNeg, Int.reduceBEq, Int.reduceBNe, Int.reduceToNat]); first | refine atEnd_t (by simp only [go_sem, Nat.reduceSub, reduceIte, Nat.reduceEqDiff, Nat.reduceLT, Nat.reduceMul, Nat.reduceAdd, Nat.reduceBEq, Nat.reduceLeDiff, Int.reduceLT, Int.reduceLE, Int.reduceNeg, Int.reduceBEq, Int.reduceBNe, Int.reduceToNat] <;> rfl) ?_ (by first | (simp [rxT]; done) | exact leftT_tup _) | refine atEnd_c (by simp only [go_sem, Nat.reduceSub, reduceIte, Nat.reduceEqDiff, Nat.reduceLT, Nat.reduceMul, Nat.reduceAdd, Nat.reduceBEq, Nat.reduceLeDiff, Int.reduceLT, Int.reduceLE, Int.reduceNeg, Int.reduceBEq, Int.reduceBNe, Int.reduceToNat] <;> rfl) ?_ (by first | (simp [rxT]; done) | exact leftT_tup _) | refine atEnd_ct (by simp only [go_sem, Nat.reduceSub, reduceIte, Nat.reduceEqDiff, Nat.reduceLT, Nat.reduceMul, Nat.reduceAdd, Nat.reduceBEq, Nat.reduceLeDiff, Int.reduceLT, Int.reduceLE, Int.reduceNeg, Int.reduceBEq, Int.reduceBNe, Int.reduceToNat] <;> rfl) ?_ (by first | (simp; done) | exact leftT_tup _) (by simp only [go_sem, Nat.reduceSub, reduceIte, Nat.reduceEqDiff, Nat.reduceLT, Nat.reduceMul, Nat.reduceAdd, Nat.reduceBEq, Nat.reduceLeDiff, Int.reduceLT, Int.reduceLE, Int.reduceNeg, Int.reduceBEq, Int.reduceBNe, Int.reduceToNat] <;> rfl) ?_ (by simp) | refine atEnd_o (by simp only [go_sem, Nat.reduceSub, reduceIte, Nat.reduceEqDiff, Nat.reduceLT, Nat.reduceMul, Nat.reduceAdd, Nat.reduceBEq, Nat.reduceLeDiff, Int.reduceLT, Int.reduceLE, Int.reduceNeg, Int.reduceBEq, Int.reduceBNe, Int.reduceToNat] <;> rfl) ?_)
    | (refine And.intro ?_ ?_)
    | (with_reducible intro _)
  all_goals try first | exact True.intro | omega | exact ⟨_, _, rfl⟩ | exact allSolid_pcs _ | exact allSolid_one _ | exact allSolid_bool _ | rfl
  all_goals trace_state
/-- One came through. -/
theorem thrAll (x y : Rx) (s t : ByteArray) (k : Nat) (hk : k < 65536) (hr : x.enc.length ≤ 30) (hs : s.size ≤ 6) (ht : t.size ≤ 6) (hb : checkS x.enc = 0) (hy : y.enc.length ≤ 400) (hv : hasB y t = hasB x (s ++ t))
    (h9 : ACalls Try.prog 9 [rxT x.enc, .str s, .int .i64 ((k % 400 : Nat) : Int)] (.tup [.sh, .sh]) (.tup [leftT (.some y), .int .i64 (s.size : Int)])) : ACalls Try.prog 3 [rxT x.enc, .agg [.str s, .str t], .int .u16 (k : Int)] .sh (.bool true) := by
  have g1 : ¬ ((x.enc.length : Int) > 30) := by omega
  have g2 : ¬ ((s.size : Int) > 6) := by omega
  have g3 : ¬ ((t.size : Int) > 6) := by omega
  have hm := most_wrap k hk
  have h10 := check10_spec x.enc (by omega)
  rw [hb] at h10
  have h12 := fits12_spec y.enc (by omega)
  rw [fits_enc] at h12
  have h11 := has11_tree x (s ++ t) (by omega) (by rw [ByteArray.size_append]; omega)
  have h11' := has11_tree y t (by omega) (by omega)
  rw [hv] at h11'
  have ha := str_add s t (by omega)
  refine ACalls.of n3 rfl (m3 _ rfl) q3 (by simp only [List.length_cons, List.length_nil]; decide) (fun C hC => ?_)
  have hN : C.N = 107 := hC
  repeat' first
    | refine AV.seq ?_
    | refine AV.block ?_
    | ((first | refine AV.reg ?_ | refine AV.regD mixed ?_); simp only [hN, c3R0, c3R1, c3R2, c3R3, c3R4, c3R5, c3R6, c3R7, c3R8, c3R9, c3R10, c3R11, c3R12, c3R13, List.length_map, rxT, g1, g2, g3, hm, leftT, oe, Option.isNone_some, strOp, ha, go_sem, Nat.reduceSub, reduceIte, Nat.reduceEqDiff, Nat.reduceLT, Nat.reduceMul, Nat.reduceAdd, Nat.reduceBEq, Nat.reduceLeDiff, Int.reduceLT, Int.reduceLE, Int.reduceNeg, Int.reduceBEq, Int.reduceBNe, Int.reduceToNat]; repeat (simp (disch := omega) only [wrap_small, getD_map_lt]; try simp only [go_sem, Nat.reduceSub, reduceIte, Nat.reduceEqDiff, Nat.reduceLT, Nat.reduceMul, Nat.reduceAdd, Nat.reduceBEq, Nat.reduceLeDiff, Int.reduceLT, Int.reduceLE, Int.reduceNeg, Int.reduceBEq, Int.reduceBNe, Int.reduceToNat, List.length_map, rxT, g1, g2, g3, hm, leftT, oe, Option.isNone_some, strOp, ha]))
    | (refine AV.cond ?_ ?_ (fun hc => ?_) (fun hc => ?_) <;> (try simp only [go_sem, Nat.reduceSub, reduceIte, Nat.reduceEqDiff, Nat.reduceLT, Nat.reduceMul, Nat.reduceAdd, Nat.reduceBEq, Nat.reduceLeDiff, Int.reduceLT, Int.reduceLE, Int.reduceNeg, Int.reduceBEq, Int.reduceBNe, Int.reduceToNat, beq_iff_eq, beq_eq_false_iff_ne] at hc) <;> (try simp only [go_sem, Nat.reduceSub, reduceIte, Nat.reduceEqDiff, Nat.reduceLT, Nat.reduceMul, Nat.reduceAdd, Nat.reduceBEq, Nat.reduceLeDiff, Int.reduceLT, Int.reduceLE, Int.reduceNeg, Int.reduceBEq, Int.reduceBNe, Int.reduceToNat]))
    | ((first | refine AV.skip ?_ | refine AV.exit ?_); simp only [go_sem, Nat.reduceSub, reduceIte, Nat.reduceEqDiff, Nat.reduceLT, Nat.reduceMul, Nat.reduceAdd, Nat.reduceBEq, Nat.reduceLeDiff, Int.reduceLT, Int.reduceLE, Int.reduceNeg, Int.reduceBEq, Int.reduceBNe, Int.reduceToNat])
    | ((first | refine ⟨_, _, awake8_spec, rfl, ?_⟩ | refine ⟨_, _, awake8_spec, ?_⟩ | refine ⟨_, _, fun _ => awake8_spec, rfl, fun _ => trivial, ?_⟩ | refine ⟨_, _, h9, rfl, ?_⟩ | refine ⟨_, _, h9, ?_⟩ | refine ⟨_, _, fun _ => h9, rfl, fun _ => trivial, ?_⟩ | refine ⟨_, _, h10, rfl, ?_⟩ | refine ⟨_, _, h10, ?_⟩ | refine ⟨_, _, fun _ => h10, rfl, fun _ => trivial, ?_⟩ | refine ⟨_, _, h11, rfl, ?_⟩ | refine ⟨_, _, h11, ?_⟩ | refine ⟨_, _, fun _ => h11, rfl, fun _ => trivial, ?_⟩ | refine ⟨_, _, h11', rfl, ?_⟩ | refine ⟨_, _, h11', ?_⟩ | refine ⟨_, _, fun _ => h11', rfl, fun _ => trivial, ?_⟩ | refine ⟨_, _, h12, rfl, ?_⟩ | refine ⟨_, _, h12, ?_⟩ | refine ⟨_, _, fun _ => h12, rfl, fun _ => trivial, ?_⟩); (try simp only [go_sem, Nat.reduceSub, reduceIte, Nat.reduceEqDiff, Nat.reduceLT, Nat.reduceMul, Nat.reduceAdd, Nat.reduceBEq, Nat.reduceLeDiff, Int.reduceLT, Int.reduceLE, Int.reduceNeg, Int.reduceBEq, Int.reduceBNe, Int.reduceToNat, List.length_map, rxT, g1, g2, g3, hm, leftT, oe, Option.isNone_some, strOp, ha]); repeat (simp (disch := omega) only [wrap_small, getD_map_lt]; try simp only [go_sem, Nat.reduceSub, reduceIte, Nat.reduceEqDiff, Nat.reduceLT, Nat.reduceMul, Nat.reduceAdd, Nat.reduceBEq, Nat.reduceLeDiff, Int.reduceLT, Int.reduceLE, Int.reduceNeg, Int.reduceBEq, Int.reduceBNe, Int.reduceToNat, List.length_map, rxT, g1, g2, g3, hm, leftT, oe, Option.isNone_some, strOp, ha]))
    | ((first | refine ⟨.sh, .bool false, rfl, trivial, ?_⟩ | refine ⟨.sh, .bool false, rfl, ?_⟩); try simp only [go_sem, Nat.reduceSub, reduceIte, Nat.reduceEqDiff, Nat.reduceLT, Nat.reduceMul, Nat.reduceAdd, Nat.reduceBEq, Nat.reduceLeDiff, Int.reduceLT, Int.reduceLE, Int.reduceNeg, Int.reduceBEq, Int.reduceBNe, Int.reduceToNat])
    | (refine AV.ret ?_; (try simp only [go_sem, Nat.reduceSub, reduceIte, Nat.reduceEqDiff, Nat.reduceLT, Nat.reduceMul, Nat.reduceAdd, Nat.reduceBEq, Nat.reduceLeDiff, Int.reduceLT, Int.reduceLE, Int.reduceNeg, Int.reduceBEq, Int.reduceBNe, Int.reduceToNat]); first | refine atEnd_t (by simp only [go_sem, Nat.reduceSub, reduceIte, Nat.reduceEqDiff, Nat.reduceLT, Nat.reduceMul, Nat.reduceAdd, Nat.reduceBEq, Nat.reduceLeDiff, Int.reduceLT, Int.reduceLE, Int.reduceNeg, Int.reduceBEq, Int.reduceBNe, Int.reduceToNat] <;> rfl) ?_ (by first | (simp [rxT]; done) | exact leftT_tup _) | refine atEnd_c (by simp only [go_sem, Nat.reduceSub, reduceIte, Nat.reduceEqDiff, Nat.reduceLT, Nat.reduceMul, Nat.reduceAdd, Nat.reduceBEq, Nat.reduceLeDiff, Int.reduceLT, Int.reduceLE, Int.reduceNeg, Int.reduceBEq, Int.reduceBNe, Int.reduceToNat] <;> rfl) ?_ (by first | (simp [rxT]; done) | exact leftT_tup _) | refine atEnd_ct (by simp only [go_sem, Nat.reduceSub, reduceIte, Nat.reduceEqDiff, Nat.reduceLT, Nat.reduceMul, Nat.reduceAdd, Nat.reduceBEq, Nat.reduceLeDiff, Int.reduceLT, Int.reduceLE, Int.reduceNeg, Int.reduceBEq, Int.reduceBNe, Int.reduceToNat] <;> rfl) ?_ (by first | (simp; done) | exact leftT_tup _) (by simp only [go_sem, Nat.reduceSub, reduceIte, Nat.reduceEqDiff, Nat.reduceLT, Nat.reduceMul, Nat.reduceAdd, Nat.reduceBEq, Nat.reduceLeDiff, Int.reduceLT, Int.reduceLE, Int.reduceNeg, Int.reduceBEq, Int.reduceBNe, Int.reduceToNat] <;> rfl) ?_ (by simp) | refine atEnd_o (by simp only [go_sem, Nat.reduceSub, reduceIte, Nat.reduceEqDiff, Nat.reduceLT, Nat.reduceMul, Nat.reduceAdd, Nat.reduceBEq, Nat.reduceLeDiff, Int.reduceLT, Int.reduceLE, Int.reduceNeg, Int.reduceBEq, Int.reduceBNe, Int.reduceToNat] <;> rfl) ?_)
    | (refine And.intro ?_ ?_)
    | (with_reducible intro _)
  all_goals try first | exact True.intro | omega | exact ⟨_, _, rfl⟩ | exact allSolid_pcs _ | exact allSolid_one _ | exact allSolid_bool _ | rfl
  all_goals trace_state
theorem derivThrough_spec (r : List Pc) (s t : ByteArray) (k : Nat) (hk : k < 65536) : ACalls Try.prog 3 [rxT r, .agg [.str s, .str t], .int .u16 (k : Int)] .sh (.bool true) := by
  by_cases c : r.length > 30 ∨ s.size > 6 ∨ t.size > 6
  · exact thrBig r s t k c
  by_cases hb : checkS r = 0
  · obtain ⟨x, rfl⟩ := checkS_parse hb
    have h9 := through9_spec x s ((k % 400 : Nat) : Int) (by omega) (by omega) (by omega) hb
    obtain ⟨h1, h2, h3, h4⟩ := thr_L ((k % 400 : Nat) : Int) (bytesOf s) x 0
    have h5 := thr_len ((k % 400 : Nat) : Int) (bytesOf s) x
    rw [bytesOf_length] at h2 h3 h4
    generalize hR : thr ((k % 400 : Nat) : Int) x (bytesOf s) 0 = R at h1 h2 h3 h4 h9
    obtain ⟨o, n⟩ := R
    simp only [Nat.zero_add] at h2 h3 h4 h9
    rcases Nat.lt_or_ge n s.size with hn | hn
    · rcases h3 hn with ⟨rfl, h6⟩ | ⟨y, rfl, h6⟩
      · refine thrVoid x s t k n hk (by omega) (by omega) (by omega) hb hn ?_ h9
        cases hv : hasB x (s.extract 0 (n + 1) ++ t) with
        | false => rfl
        | true =>
          rw [hasB_iff, bytesOf_append, bytesOf_take] at hv
          exact (h6 _ hv).elim
      · exact thrMuch x y s t k n hk (by omega) (by omega) (by omega) hb hn h6 h9
    · have hne : n = s.size := by omega
      subst hne
      obtain ⟨y, rfl, h6⟩ := h4 rfl
      refine thrAll x y s t k hk (by omega) (by omega) (by omega) hb ?_ (bool_ext ?_) h9
      · rcases h5 y 0 (by rw [hR]) (by rw [hR, bytesOf_length]; simp) with h7 | h7 <;> omega
      · rw [hasB_iff, hasB_iff, bytesOf_append]
        exact h6 _
  · exact thrBad r s t k hk (by omega) (by omega) (by omega) hb
end Go.Proofs.Ytaefhdklkbohmaa
/- The row of the law DerivThrough. -/
namespace Go.Proofs.Ytaefhdklkbohmaa
open Go Go.RowKit
set_option linter.unusedVariables false
def lsS4 : List LS := [.int .u64, .int .u64, .int .u64, .int .u64]
def lsPc : List LS := .int .i64 :: lsS4
theorem u64_of {n : Int} (h : (Lit.int .u64 n).wf = true) : ∃ b : BitVec 64, n = (b.toNat : Int) := by
  simp [Lit.wf, IntKind.min, IntKind.max, IntKind.bits, IntKind.signed] at h
  refine ⟨BitVec.ofNat 64 n.toNat, ?_⟩
  rw [BitVec.toNat_ofNat, Nat.mod_eq_of_lt (by omega)]
  omega
theorem s4_of {ts : List T} (h : fitLs lsS4 ts) : ∃ s : S4, ts = s.ts := by
  simp only [lsS4, fitLs, fitL] at h
  obtain ⟨t0, r0, rfl, ⟨n0, rfl, h0⟩, t1, r1, rfl, ⟨n1, rfl, h1⟩, t2, r2, rfl, ⟨n2, rfl, h2⟩, t3, r3, rfl, ⟨n3, rfl, h3⟩, rfl⟩ := h
  obtain ⟨b0, rfl⟩ := u64_of h0
  obtain ⟨b1, rfl⟩ := u64_of h1
  obtain ⟨b2, rfl⟩ := u64_of h2
  obtain ⟨b3, rfl⟩ := u64_of h3
  exact ⟨⟨b0, b1, b2, b3⟩, rfl⟩
theorem pc_of {x : T} (ha : x.isAgg) (h : fitLs lsPc x.leaves) : ∃ p : Pc, x = pcT p := by
  rw [T.isAgg_eq ha]
  generalize x.leaves = ts at h ⊢
  simp only [lsPc, fitLs, fitL] at h
  obtain ⟨t, r, rfl, ⟨n, rfl, hn⟩, h⟩ := h
  obtain ⟨s, rfl⟩ := s4_of h
  exact ⟨⟨n, s⟩, rfl⟩
theorem rx_of {u : T} (h : fitL (.sl true lsPc) u) : ∃ r : List Pc, u = rxT r := by
  simp only [fitL] at h
  obtain ⟨xs, rfl, _, hx⟩ := h
  have : ∀ (xs : List T), (∀ x ∈ xs, ∃ p : Pc, x = pcT p) → ∃ r : List Pc, xs = r.map pcT := by
    intro xs
    induction xs with
    | nil => intro _; exact ⟨[], rfl⟩
    | cons x xs ih =>
      intro h
      obtain ⟨p, rfl⟩ := h x (by simp)
      obtain ⟨r, rfl⟩ := ih (fun y hy => h y (by simp [hy]))
      exact ⟨p :: r, rfl⟩
  obtain ⟨r, rfl⟩ := this xs (fun x hm => pc_of ((hx x hm).1 trivial) (hx x hm).2.2)
  exact ⟨r, rfl⟩
theorem two_of {ts : List T} (h : fitLs [.str, .str] ts) : ∃ s t : ByteArray, ts = [.str s, .str t] := by
  simp only [fitLs, fitL] at h
  obtain ⟨t0, r0, rfl, ⟨s, rfl, _⟩, t1, r1, rfl, ⟨t, rfl, _⟩, rfl⟩ := h
  exact ⟨s, t, rfl⟩
/-- A law's contract, as the machine runs it. -/
theorem law_calls {P : Program} {f : FuncId} {us : List T} (h : ACalls P f us .sh (.bool true)) {W : World} {vs : List Value} (hv : R0s W (fun b => b < W.heap.size) us vs) :
    Calls P f vs.toArray W fun e W' => e = .returned (.bool true) ∧ Below W.heap.size W W' := by
  refine (h W _ vs (fun b hb => hb) hv).mono fun e W' => ?_
  rintro ⟨c, F, rfl, hr⟩
  have hval := hr.val
  simp only [RO, R0, RL] at hval
  obtain ⟨_, hc⟩ := hval
  simp only [List.cons.injEq, and_true] at hc
  subst hc
  exact ⟨rfl, ⟨hr.ext.os, hr.ext.tape, hr.ext.output, hr.ext.size, hr.ext.block⟩⟩
namespace derivThrough
open Go.ChangeShapes Go.WideShapes Go.ChangeAt Go.RowKit
theorem own : ownKnob Try.prog.godebug = none := by kernel_rfl
theorem laidOut : laidOutB Try.prog = true := by kernel_rfl
theorem ls0 : lsOf Try.prog 8 23 = some [.sl true lsPc] := by kernel_rfl
theorem row0 : isRowTy Try.prog 23 = false := by kernel_rfl
theorem ls1 : lsOf Try.prog 8 24 = some [.str, .str] := by kernel_rfl
theorem row1 : isRowTy Try.prog 24 = true := by kernel_rfl
set_option maxRecDepth 100000 in
theorem lifted (os : Os) (started : os.Started) (H : Type) (enc : TypeId × Value → H) :
    ReturnsInHanded {} Try.checked os 3 .any (Rows.derivThroughSpec.pre6 enc Try.prog Try.f3 Rows.derivThroughRow.domain false) (Rows.derivThroughSpec.post enc Try.prog Try.f3 false true false false) := by
  refine returnsInHanded_of_change (C := Try.checked) own started (by kernel_rfl) Try.func3
    (ChangeSpec.witness6 (enc := enc) (C := Try.checked) false ⟨#[], #[.slice none 0 0, .agg #[.string ByteArray.empty, .string ByteArray.empty], .int .u16 0], []⟩ 8 (by kernel_rfl) (by kernel_rfl) (by kernel_rfl) (by kernel_rfl)) ?_
  intro W base args ds gs before hval0 hW hcnd _
  have hval : ∀ (j : Nat) t v, Try.f3.params[j]? = some t → args[j]? = some v → Value.okWide Try.prog W .any base t v := hval0
  have hW' := hW
  obtain ⟨p, q, hA0, hV, rfl, hfz, hnd⟩ := hW
  have hA : DataW.TrodAll enc Try.prog W 0 (fun _ => true) true Try.f3.params.toList args.toList ds p := hA0
  rw [Try.params3] at hA hval
  obtain ⟨v0, vs0, d0, ds0, p0, q0, hargs, rfl, rfl, h0, r0⟩ := trodAll_cons hA
  obtain ⟨v1, vs1, d1, ds1, p1, q1, rfl, rfl, rfl, h1, r1⟩ := trodAll_cons r0
  obtain ⟨v2, vs2, d2, ds2, p2, q2, rfl, rfl, rfl, h2, r2⟩ := trodAll_cons r1
  obtain ⟨rfl, rfl, rfl⟩ := trodAll_nil r2
  obtain rfl : args = #[v0, v1, v2] := by cases args; simp_all
  obtain ⟨rfl, rfl⟩ := trodVars_none hV
  obtain ⟨u0, f0, s0⟩ := read_cell ls0 row0 ⟨_, _, hval 0 23 v0 rfl rfl⟩ h0
  obtain ⟨r, rfl⟩ := rx_of f0
  obtain ⟨u1, f1, s1⟩ := read_row ls1 row1 ⟨_, _, hval 1 24 v1 rfl rfl⟩ h1
  obtain ⟨s, t, rfl⟩ := two_of f1
  have k0 := h0
  have k1 := h1
  have lt0 : ∀ x ∈ p0, x.block < W.heap.size := by obtain ⟨m, hm⟩ := k0; exact DataW.trod_lt m _ _ _ hm
  have lt1 : ∀ x ∈ p1, x.block < W.heap.size := by obtain ⟨m, hm⟩ := k1; exact DataW.trod_lt m _ _ _ hm
  obtain ⟨n, rfl, rfl, rfl, w2⟩ := open_int Try.underlying25 (hval 2 25 v2 rfl rfl) h2
  obtain ⟨k, hk, rfl⟩ : ∃ k : Nat, k < 65536 ∧ n = (k : Int) := by
    simp [Lit.wf, IntKind.min, IntKind.max, IntKind.bits, IntKind.signed] at w2
    exact ⟨n.toNat, by omega, by omega⟩
  clear hA0 hval0
  refine (law_calls (derivThrough_spec r s t k hk) (W := W) (vs := [v0, v1, .int .u16 (k : Int)]) ?_).mono fun e W' ⟨he, bel⟩ => ?_
  · exact ⟨_, _, rfl, s0, _, _, rfl, s1, _, _, rfl, rfl, rfl⟩
  subst he
  exact ⟨_, rfl, _, _, _, [], _, [], hW', trodAll_mk1 (shut_bool Try.underlying4 _), (trodAll_cons_mk (Below.trod laidOut (by kernel_rfl) (of_decide_eq_true (by kernel_rfl)) k0 bel lt0) (trodAll_cons_mk (Below.trod laidOut (by kernel_rfl) (of_decide_eq_true (by kernel_rfl)) k1 bel lt1) (trodAll_cons_mk (shut_int Try.underlying25 w2) trodAll_mk0))), rfl, bel.frame _, fun h => by cases h⟩
theorem over : Rows.derivThroughRow.holds Try.pinned (OpenSpec.ofChange Rows.derivThroughSpec) :=
  OpenClaim.holds_of_wide 3 Try.f3 rfl rfl rfl rfl rfl rfl rfl ⟨rfl, rfl, rfl, rfl, rfl⟩ rfl rfl rfl rfl rfl (by kernel_rfl) Try.func3 (by kernel_rfl)
    (of_decide_eq_true (by kernel_rfl)) (by unfold Func.isWrapper; first | (rw [if_pos (by decide +kernel)]; kernel_rfl) | (rw [if_neg (by decide +kernel)]; exact ⟨rfl, rfl⟩))
    (fun os started H enc _ => lifted os started H enc)
theorem proved : Rows.DerivThroughSaid := over
end derivThrough
/-- The row, under a short name, for the claim. -/
theorem derivThrough_holds : Rows.DerivThroughSaid := derivThrough.proved
#print axioms derivThrough_holds
end Go.Proofs.Ytaefhdklkbohmaa
