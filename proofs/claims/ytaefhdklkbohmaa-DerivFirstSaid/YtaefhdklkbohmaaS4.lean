/- A part of the proof: G1, H1, H2, H3, G2, P3, G3, G4. No condition. -/
import Derived.Test.YtaefhdklkbohmaaS3
set_option linter.unusedSimpArgs false
set_option linter.unusedVariables false
set_option linter.unusedSectionVars false
/- slices.Clone, rex.Parts, rex.Join. -/
namespace Go.Proofs.Ytaefhdklkbohmaa
open Go Go.RowKit
set_option linter.unusedSimpArgs false
set_option maxRecDepth 20000
theorem allSolid_pcs (r : List Pc) : allSolid (r.map pcT) := by
  intro y hy
  obtain ⟨p, _, rfl⟩ := List.mem_map.1 hy
  rfl
theorem allSolid_one (p : Pc) : allSolid [pcT p] := by
  intro y hy
  obtain rfl := List.mem_singleton.1 hy
  rfl
theorem clone37_spec (r : List Pc) (hr : r.length ≤ 1073741824) : ACalls Try.prog 37 [rxT r] .sh (rxT r) := by
  refine ACalls.of n37 rfl (m37 _ rfl) q37 (by simp only [List.length_cons, List.length_nil]; decide) (fun C hC => ?_)
  have hN : C.N = 8 := hC
  repeat' first
    | refine AV.seq ?_
    | refine AV.block ?_
    | ((first | refine AV.reg ?_ | refine AV.regD mixed ?_); simp only [hN, c37R0, c37R1, c37R2, c37R3, rxT, List.length_map, go_sem, Nat.reduceSub, reduceIte, Nat.reduceEqDiff, Nat.reduceLT, Nat.reduceMul, Nat.reduceAdd, Nat.reduceBEq, Nat.reduceLeDiff, Int.reduceLT, Int.reduceLE, Int.reduceNeg, Int.reduceBEq, Int.reduceBNe, Int.reduceToNat]; repeat (simp (disch := omega) only [wrap_small, getD_map_lt]; try simp only [go_sem, Nat.reduceSub, reduceIte, Nat.reduceEqDiff, Nat.reduceLT, Nat.reduceMul, Nat.reduceAdd, Nat.reduceBEq, Nat.reduceLeDiff, Int.reduceLT, Int.reduceLE, Int.reduceNeg, Int.reduceBEq, Int.reduceBNe, Int.reduceToNat, rxT, List.length_map]))
    | (refine AV.cond ?_ ?_ (fun hc => ?_) (fun hc => ?_) <;> (try simp only [go_sem, Nat.reduceSub, reduceIte, Nat.reduceEqDiff, Nat.reduceLT, Nat.reduceMul, Nat.reduceAdd, Nat.reduceBEq, Nat.reduceLeDiff, Int.reduceLT, Int.reduceLE, Int.reduceNeg, Int.reduceBEq, Int.reduceBNe, Int.reduceToNat, beq_iff_eq, beq_eq_false_iff_ne] at hc) <;> (try simp only [go_sem, Nat.reduceSub, reduceIte, Nat.reduceEqDiff, Nat.reduceLT, Nat.reduceMul, Nat.reduceAdd, Nat.reduceBEq, Nat.reduceLeDiff, Int.reduceLT, Int.reduceLE, Int.reduceNeg, Int.reduceBEq, Int.reduceBNe, Int.reduceToNat]))
    | ((first | refine AV.skip ?_ | refine AV.exit ?_); simp only [go_sem, Nat.reduceSub, reduceIte, Nat.reduceEqDiff, Nat.reduceLT, Nat.reduceMul, Nat.reduceAdd, Nat.reduceBEq, Nat.reduceLeDiff, Int.reduceLT, Int.reduceLE, Int.reduceNeg, Int.reduceBEq, Int.reduceBNe, Int.reduceToNat])
    | (refine AV.ret ?_; (try simp only [go_sem, Nat.reduceSub, reduceIte, Nat.reduceEqDiff, Nat.reduceLT, Nat.reduceMul, Nat.reduceAdd, Nat.reduceBEq, Nat.reduceLeDiff, Int.reduceLT, Int.reduceLE, Int.reduceNeg, Int.reduceBEq, Int.reduceBNe, Int.reduceToNat]); first | refine atEnd_t (by simp only [go_sem, Nat.reduceSub, reduceIte, Nat.reduceEqDiff, Nat.reduceLT, Nat.reduceMul, Nat.reduceAdd, Nat.reduceBEq, Nat.reduceLeDiff, Int.reduceLT, Int.reduceLE, Int.reduceNeg, Int.reduceBEq, Int.reduceBNe, Int.reduceToNat] <;> rfl) ?_ (by first | (simp [rxT]; done) | exact leftT_tup _) | refine atEnd_c (by simp only [go_sem, Nat.reduceSub, reduceIte, Nat.reduceEqDiff, Nat.reduceLT, Nat.reduceMul, Nat.reduceAdd, Nat.reduceBEq, Nat.reduceLeDiff, Int.reduceLT, Int.reduceLE, Int.reduceNeg, Int.reduceBEq, Int.reduceBNe, Int.reduceToNat] <;> rfl) ?_ (by first | (simp [rxT]; done) | exact leftT_tup _) | refine atEnd_ct (by simp only [go_sem, Nat.reduceSub, reduceIte, Nat.reduceEqDiff, Nat.reduceLT, Nat.reduceMul, Nat.reduceAdd, Nat.reduceBEq, Nat.reduceLeDiff, Int.reduceLT, Int.reduceLE, Int.reduceNeg, Int.reduceBEq, Int.reduceBNe, Int.reduceToNat] <;> rfl) ?_ (by first | (simp; done) | exact leftT_tup _) (by simp only [go_sem, Nat.reduceSub, reduceIte, Nat.reduceEqDiff, Nat.reduceLT, Nat.reduceMul, Nat.reduceAdd, Nat.reduceBEq, Nat.reduceLeDiff, Int.reduceLT, Int.reduceLE, Int.reduceNeg, Int.reduceBEq, Int.reduceBNe, Int.reduceToNat] <;> rfl) ?_ (by simp) | refine atEnd_o (by simp only [go_sem, Nat.reduceSub, reduceIte, Nat.reduceEqDiff, Nat.reduceLT, Nat.reduceMul, Nat.reduceAdd, Nat.reduceBEq, Nat.reduceLeDiff, Int.reduceLT, Int.reduceLE, Int.reduceNeg, Int.reduceBEq, Int.reduceBNe, Int.reduceToNat] <;> rfl) ?_)
    | (refine And.intro ?_ ?_)
    | (with_reducible intro _)
  all_goals try first | exact True.intro | omega | exact ⟨_, _, rfl⟩ | exact allSolid_pcs _ | exact allSolid_one _ | exact allSolid_bool _ | rfl
  rename_i h
  by_cases e : r.map pcT = []
  · rw [e]
  · rw [h e] at hc; cases hc
theorem getD_last (u : List Pc) (p : Pc) : ((u ++ [p]).map pcT).getD u.length default = pcT p := by simp
theorem parts74_1 (u : List Pc) (p : Pc) (hp : takes40 p.kind = 1) (hr : u.length ≤ 1073741820) : ACalls Try.prog 74 [rxT (u ++ [p])] .sh (.sl 1 [rxT u]) := by
  refine ACalls.of n74 rfl (m74 _ rfl) q74 (by simp only [List.length_cons, List.length_nil]; decide) (fun C hC => ?_)
  have hN : C.N = 43 := hC
  have hl : (u ++ [p]).length = u.length + 1 := by simp
  have hw : IntKind.i64.wrap (((u.length + 1 : Nat) : Int) - 1) = (u.length : Int) := by rw [wrap_small] <;> omega
  have hg : (u ++ [p]).getD u.length default = p := by simp
  have hm : ((u ++ [p]).map pcT).getD u.length default = pcT p := by simp
  have ht : ((u ++ [p]).map pcT).take u.length = u.map pcT := by simp
  repeat' first
    | refine AV.seq ?_
    | refine AV.block ?_
    | ((first | refine AV.reg ?_ | refine AV.regD mixed ?_); simp only [hN, c74R0, c74R1, c74R2, c74R3, c74R4, c74R5, c74R6, c74R7, c74R8, c74R9, rxT, List.length_map, hl, hw, hm, ht, hp, pcT, S4.ts, go_sem, Nat.reduceSub, reduceIte, Nat.reduceEqDiff, Nat.reduceLT, Nat.reduceMul, Nat.reduceAdd, Nat.reduceBEq, Nat.reduceLeDiff, Int.reduceLT, Int.reduceLE, Int.reduceNeg, Int.reduceBEq, Int.reduceBNe, Int.reduceToNat]; repeat (simp (disch := omega) only [wrap_small, getD_map_lt]; try simp only [go_sem, Nat.reduceSub, reduceIte, Nat.reduceEqDiff, Nat.reduceLT, Nat.reduceMul, Nat.reduceAdd, Nat.reduceBEq, Nat.reduceLeDiff, Int.reduceLT, Int.reduceLE, Int.reduceNeg, Int.reduceBEq, Int.reduceBNe, Int.reduceToNat, rxT, List.length_map, hl, hw, hm, ht, hp, pcT, S4.ts]))
    | (refine AV.cond ?_ ?_ (fun hc => ?_) (fun hc => ?_) <;> (try simp only [go_sem, Nat.reduceSub, reduceIte, Nat.reduceEqDiff, Nat.reduceLT, Nat.reduceMul, Nat.reduceAdd, Nat.reduceBEq, Nat.reduceLeDiff, Int.reduceLT, Int.reduceLE, Int.reduceNeg, Int.reduceBEq, Int.reduceBNe, Int.reduceToNat, beq_iff_eq, beq_eq_false_iff_ne] at hc) <;> (try simp only [go_sem, Nat.reduceSub, reduceIte, Nat.reduceEqDiff, Nat.reduceLT, Nat.reduceMul, Nat.reduceAdd, Nat.reduceBEq, Nat.reduceLeDiff, Int.reduceLT, Int.reduceLE, Int.reduceNeg, Int.reduceBEq, Int.reduceBNe, Int.reduceToNat]))
    | ((first | refine AV.skip ?_ | refine AV.exit ?_); simp only [go_sem, Nat.reduceSub, reduceIte, Nat.reduceEqDiff, Nat.reduceLT, Nat.reduceMul, Nat.reduceAdd, Nat.reduceBEq, Nat.reduceLeDiff, Int.reduceLT, Int.reduceLE, Int.reduceNeg, Int.reduceBEq, Int.reduceBNe, Int.reduceToNat])
    | ((first | refine ⟨_, _, takes72_spec _, rfl, ?_⟩ | refine ⟨_, _, takes72_spec _, ?_⟩ | refine ⟨_, _, fun _ => takes72_spec _, rfl, fun _ => trivial, ?_⟩ | refine ⟨_, _, clone37_spec u (by omega), rfl, ?_⟩ | refine ⟨_, _, clone37_spec u (by omega), ?_⟩ | refine ⟨_, _, fun _ => clone37_spec u (by omega), rfl, fun _ => trivial, ?_⟩); (try simp only [go_sem, Nat.reduceSub, reduceIte, Nat.reduceEqDiff, Nat.reduceLT, Nat.reduceMul, Nat.reduceAdd, Nat.reduceBEq, Nat.reduceLeDiff, Int.reduceLT, Int.reduceLE, Int.reduceNeg, Int.reduceBEq, Int.reduceBNe, Int.reduceToNat, rxT, List.length_map, hl, hw, hm, ht, hp, pcT, S4.ts]); repeat (simp (disch := omega) only [wrap_small, getD_map_lt]; try simp only [go_sem, Nat.reduceSub, reduceIte, Nat.reduceEqDiff, Nat.reduceLT, Nat.reduceMul, Nat.reduceAdd, Nat.reduceBEq, Nat.reduceLeDiff, Int.reduceLT, Int.reduceLE, Int.reduceNeg, Int.reduceBEq, Int.reduceBNe, Int.reduceToNat, rxT, List.length_map, hl, hw, hm, ht, hp, pcT, S4.ts]))
    | ((first | refine ⟨.sh, .bool false, rfl, trivial, ?_⟩ | refine ⟨.sh, .bool false, rfl, ?_⟩); try simp only [go_sem, Nat.reduceSub, reduceIte, Nat.reduceEqDiff, Nat.reduceLT, Nat.reduceMul, Nat.reduceAdd, Nat.reduceBEq, Nat.reduceLeDiff, Int.reduceLT, Int.reduceLE, Int.reduceNeg, Int.reduceBEq, Int.reduceBNe, Int.reduceToNat])
    | (refine AV.ret ?_; (try simp only [go_sem, Nat.reduceSub, reduceIte, Nat.reduceEqDiff, Nat.reduceLT, Nat.reduceMul, Nat.reduceAdd, Nat.reduceBEq, Nat.reduceLeDiff, Int.reduceLT, Int.reduceLE, Int.reduceNeg, Int.reduceBEq, Int.reduceBNe, Int.reduceToNat]); first | refine atEnd_t (by simp only [go_sem, Nat.reduceSub, reduceIte, Nat.reduceEqDiff, Nat.reduceLT, Nat.reduceMul, Nat.reduceAdd, Nat.reduceBEq, Nat.reduceLeDiff, Int.reduceLT, Int.reduceLE, Int.reduceNeg, Int.reduceBEq, Int.reduceBNe, Int.reduceToNat] <;> rfl) ?_ (by first | (simp [rxT]; done) | exact leftT_tup _) | refine atEnd_c (by simp only [go_sem, Nat.reduceSub, reduceIte, Nat.reduceEqDiff, Nat.reduceLT, Nat.reduceMul, Nat.reduceAdd, Nat.reduceBEq, Nat.reduceLeDiff, Int.reduceLT, Int.reduceLE, Int.reduceNeg, Int.reduceBEq, Int.reduceBNe, Int.reduceToNat] <;> rfl) ?_ (by first | (simp [rxT]; done) | exact leftT_tup _) | refine atEnd_ct (by simp only [go_sem, Nat.reduceSub, reduceIte, Nat.reduceEqDiff, Nat.reduceLT, Nat.reduceMul, Nat.reduceAdd, Nat.reduceBEq, Nat.reduceLeDiff, Int.reduceLT, Int.reduceLE, Int.reduceNeg, Int.reduceBEq, Int.reduceBNe, Int.reduceToNat] <;> rfl) ?_ (by first | (simp; done) | exact leftT_tup _) (by simp only [go_sem, Nat.reduceSub, reduceIte, Nat.reduceEqDiff, Nat.reduceLT, Nat.reduceMul, Nat.reduceAdd, Nat.reduceBEq, Nat.reduceLeDiff, Int.reduceLT, Int.reduceLE, Int.reduceNeg, Int.reduceBEq, Int.reduceBNe, Int.reduceToNat] <;> rfl) ?_ (by simp) | refine atEnd_o (by simp only [go_sem, Nat.reduceSub, reduceIte, Nat.reduceEqDiff, Nat.reduceLT, Nat.reduceMul, Nat.reduceAdd, Nat.reduceBEq, Nat.reduceLeDiff, Int.reduceLT, Int.reduceLE, Int.reduceNeg, Int.reduceBEq, Int.reduceBNe, Int.reduceToNat] <;> rfl) ?_)
    | (refine And.intro ?_ ?_)
    | (with_reducible intro _)
  all_goals try first | exact True.intro | omega | exact ⟨_, _, rfl⟩ | exact allSolid_pcs _ | exact allSolid_one _ | exact allSolid_bool _ | rfl
theorem parts74_2 (a b : Rx) (p : Pc) (hp : takes40 p.kind = 2) (hr : a.enc.length + b.enc.length ≤ 1073741820) : ACalls Try.prog 74 [rxT (a.enc ++ b.enc ++ [p])] .sh (.sl 1 [rxT a.enc, rxT b.enc]) := by
  refine ACalls.of n74 rfl (m74 _ rfl) q74 (by simp only [List.length_cons, List.length_nil]; decide) (fun C hC => ?_)
  have hN : C.N = 43 := hC
  have hl : (a.enc ++ b.enc ++ [p]).length = a.enc.length + b.enc.length + 1 := by simp; omega
  have hw : IntKind.i64.wrap (((a.enc.length + b.enc.length + 1 : Nat) : Int) - 1) = ((a.enc.length + b.enc.length : Nat) : Int) := by rw [wrap_small] <;> omega
  have hw2 : IntKind.i64.wrap (((a.enc.length + b.enc.length + 1 : Nat) : Int) - 2) = ((a.enc.length + b.enc.length : Nat) : Int) - 1 := by rw [wrap_small] <;> omega
  have hm : ((a.enc ++ b.enc ++ [p]).map pcT).getD (a.enc.length + b.enc.length) default = pcT p := by
    have : a.enc.length + b.enc.length = (a.enc ++ b.enc).length := by simp
    rw [this]; exact getD_last _ _
  have ht : ((a.enc ++ b.enc ++ [p]).map pcT).take a.enc.length = a.enc.map pcT := by simp
  have ht2 : (((a.enc ++ b.enc ++ [p]).map pcT).drop a.enc.length).take (a.enc.length + b.enc.length - a.enc.length) = b.enc.map pcT := by simp
  have hs : startGo (a.enc ++ b.enc ++ [p]) (a.enc.length + b.enc.length) 1 = (a.enc.length : Int) := by
    have := start_enc a b [p]
    rw [List.length_append] at this
    exact this
  repeat' first
    | refine AV.seq ?_
    | refine AV.block ?_
    | ((first | refine AV.reg ?_ | refine AV.regD mixed ?_); simp only [hN, c74R0, c74R1, c74R2, c74R3, c74R4, c74R5, c74R6, c74R7, c74R8, c74R9, rxT, List.length_map, hl, hw, hw2, hm, ht, ht2, hs, hp, pcT, S4.ts, go_sem, Nat.reduceSub, reduceIte, Nat.reduceEqDiff, Nat.reduceLT, Nat.reduceMul, Nat.reduceAdd, Nat.reduceBEq, Nat.reduceLeDiff, Int.reduceLT, Int.reduceLE, Int.reduceNeg, Int.reduceBEq, Int.reduceBNe, Int.reduceToNat]; repeat (simp (disch := omega) only [wrap_small, getD_map_lt]; try simp only [go_sem, Nat.reduceSub, reduceIte, Nat.reduceEqDiff, Nat.reduceLT, Nat.reduceMul, Nat.reduceAdd, Nat.reduceBEq, Nat.reduceLeDiff, Int.reduceLT, Int.reduceLE, Int.reduceNeg, Int.reduceBEq, Int.reduceBNe, Int.reduceToNat, rxT, List.length_map, hl, hw, hw2, hm, ht, ht2, hs, hp, pcT, S4.ts]))
    | (refine AV.cond ?_ ?_ (fun hc => ?_) (fun hc => ?_) <;> (try simp only [go_sem, Nat.reduceSub, reduceIte, Nat.reduceEqDiff, Nat.reduceLT, Nat.reduceMul, Nat.reduceAdd, Nat.reduceBEq, Nat.reduceLeDiff, Int.reduceLT, Int.reduceLE, Int.reduceNeg, Int.reduceBEq, Int.reduceBNe, Int.reduceToNat, beq_iff_eq, beq_eq_false_iff_ne] at hc) <;> (try simp only [go_sem, Nat.reduceSub, reduceIte, Nat.reduceEqDiff, Nat.reduceLT, Nat.reduceMul, Nat.reduceAdd, Nat.reduceBEq, Nat.reduceLeDiff, Int.reduceLT, Int.reduceLE, Int.reduceNeg, Int.reduceBEq, Int.reduceBNe, Int.reduceToNat]))
    | ((first | refine AV.skip ?_ | refine AV.exit ?_); simp only [go_sem, Nat.reduceSub, reduceIte, Nat.reduceEqDiff, Nat.reduceLT, Nat.reduceMul, Nat.reduceAdd, Nat.reduceBEq, Nat.reduceLeDiff, Int.reduceLT, Int.reduceLE, Int.reduceNeg, Int.reduceBEq, Int.reduceBNe, Int.reduceToNat])
    | ((first | refine ⟨_, _, takes72_spec _, rfl, ?_⟩ | refine ⟨_, _, takes72_spec _, ?_⟩ | refine ⟨_, _, fun _ => takes72_spec _, rfl, fun _ => trivial, ?_⟩ | refine ⟨_, _, clone37_spec a.enc (by omega), rfl, ?_⟩ | refine ⟨_, _, clone37_spec a.enc (by omega), ?_⟩ | refine ⟨_, _, fun _ => clone37_spec a.enc (by omega), rfl, fun _ => trivial, ?_⟩ | refine ⟨_, _, clone37_spec b.enc (by omega), rfl, ?_⟩ | refine ⟨_, _, clone37_spec b.enc (by omega), ?_⟩ | refine ⟨_, _, fun _ => clone37_spec b.enc (by omega), rfl, fun _ => trivial, ?_⟩ | refine ⟨_, _, start109_spec (a.enc ++ b.enc ++ [p]) (a.enc.length + b.enc.length) (by omega) (by omega), rfl, ?_⟩ | refine ⟨_, _, start109_spec (a.enc ++ b.enc ++ [p]) (a.enc.length + b.enc.length) (by omega) (by omega), ?_⟩ | refine ⟨_, _, fun _ => start109_spec (a.enc ++ b.enc ++ [p]) (a.enc.length + b.enc.length) (by omega) (by omega), rfl, fun _ => trivial, ?_⟩); (try simp only [go_sem, Nat.reduceSub, reduceIte, Nat.reduceEqDiff, Nat.reduceLT, Nat.reduceMul, Nat.reduceAdd, Nat.reduceBEq, Nat.reduceLeDiff, Int.reduceLT, Int.reduceLE, Int.reduceNeg, Int.reduceBEq, Int.reduceBNe, Int.reduceToNat, rxT, List.length_map, hl, hw, hw2, hm, ht, ht2, hs, hp, pcT, S4.ts]); repeat (simp (disch := omega) only [wrap_small, getD_map_lt]; try simp only [go_sem, Nat.reduceSub, reduceIte, Nat.reduceEqDiff, Nat.reduceLT, Nat.reduceMul, Nat.reduceAdd, Nat.reduceBEq, Nat.reduceLeDiff, Int.reduceLT, Int.reduceLE, Int.reduceNeg, Int.reduceBEq, Int.reduceBNe, Int.reduceToNat, rxT, List.length_map, hl, hw, hw2, hm, ht, ht2, hs, hp, pcT, S4.ts]))
    | ((first | refine ⟨.sh, .bool false, rfl, trivial, ?_⟩ | refine ⟨.sh, .bool false, rfl, ?_⟩); try simp only [go_sem, Nat.reduceSub, reduceIte, Nat.reduceEqDiff, Nat.reduceLT, Nat.reduceMul, Nat.reduceAdd, Nat.reduceBEq, Nat.reduceLeDiff, Int.reduceLT, Int.reduceLE, Int.reduceNeg, Int.reduceBEq, Int.reduceBNe, Int.reduceToNat])
    | (refine AV.ret ?_; (try simp only [go_sem, Nat.reduceSub, reduceIte, Nat.reduceEqDiff, Nat.reduceLT, Nat.reduceMul, Nat.reduceAdd, Nat.reduceBEq, Nat.reduceLeDiff, Int.reduceLT, Int.reduceLE, Int.reduceNeg, Int.reduceBEq, Int.reduceBNe, Int.reduceToNat]); first | refine atEnd_t (by simp only [go_sem, Nat.reduceSub, reduceIte, Nat.reduceEqDiff, Nat.reduceLT, Nat.reduceMul, Nat.reduceAdd, Nat.reduceBEq, Nat.reduceLeDiff, Int.reduceLT, Int.reduceLE, Int.reduceNeg, Int.reduceBEq, Int.reduceBNe, Int.reduceToNat] <;> rfl) ?_ (by first | (simp [rxT]; done) | exact leftT_tup _) | refine atEnd_c (by simp only [go_sem, Nat.reduceSub, reduceIte, Nat.reduceEqDiff, Nat.reduceLT, Nat.reduceMul, Nat.reduceAdd, Nat.reduceBEq, Nat.reduceLeDiff, Int.reduceLT, Int.reduceLE, Int.reduceNeg, Int.reduceBEq, Int.reduceBNe, Int.reduceToNat] <;> rfl) ?_ (by first | (simp [rxT]; done) | exact leftT_tup _) | refine atEnd_ct (by simp only [go_sem, Nat.reduceSub, reduceIte, Nat.reduceEqDiff, Nat.reduceLT, Nat.reduceMul, Nat.reduceAdd, Nat.reduceBEq, Nat.reduceLeDiff, Int.reduceLT, Int.reduceLE, Int.reduceNeg, Int.reduceBEq, Int.reduceBNe, Int.reduceToNat] <;> rfl) ?_ (by first | (simp; done) | exact leftT_tup _) (by simp only [go_sem, Nat.reduceSub, reduceIte, Nat.reduceEqDiff, Nat.reduceLT, Nat.reduceMul, Nat.reduceAdd, Nat.reduceBEq, Nat.reduceLeDiff, Int.reduceLT, Int.reduceLE, Int.reduceNeg, Int.reduceBEq, Int.reduceBNe, Int.reduceToNat] <;> rfl) ?_ (by simp) | refine atEnd_o (by simp only [go_sem, Nat.reduceSub, reduceIte, Nat.reduceEqDiff, Nat.reduceLT, Nat.reduceMul, Nat.reduceAdd, Nat.reduceBEq, Nat.reduceLeDiff, Int.reduceLT, Int.reduceLE, Int.reduceNeg, Int.reduceBEq, Int.reduceBNe, Int.reduceToNat] <;> rfl) ?_)
    | (refine And.intro ?_ ?_)
    | (with_reducible intro _)
  all_goals try first | exact True.intro | omega | exact ⟨_, _, rfl⟩ | exact allSolid_pcs _ | exact allSolid_one _ | exact allSolid_bool _ | rfl
theorem parts74_0 (p : Pc) (hp : takes40 p.kind = 0) : ACalls Try.prog 74 [rxT [p]] .sh (.sl 1 []) := by
  refine ACalls.of n74 rfl (m74 _ rfl) q74 (by simp only [List.length_cons, List.length_nil]; decide) (fun C hC => ?_)
  have hN : C.N = 43 := hC
  have hw : IntKind.i64.wrap (((1 : Nat) : Int) - 1) = ((0 : Nat) : Int) := rfl
  repeat' first
    | refine AV.seq ?_
    | refine AV.block ?_
    | ((first | refine AV.reg ?_ | refine AV.regD mixed ?_); simp only [hN, c74R0, c74R1, c74R2, c74R3, c74R4, c74R5, c74R6, c74R7, c74R8, c74R9, rxT, List.length_map, hw, hp, pcT, S4.ts, go_sem, Nat.reduceSub, reduceIte, Nat.reduceEqDiff, Nat.reduceLT, Nat.reduceMul, Nat.reduceAdd, Nat.reduceBEq, Nat.reduceLeDiff, Int.reduceLT, Int.reduceLE, Int.reduceNeg, Int.reduceBEq, Int.reduceBNe, Int.reduceToNat]; repeat (simp (disch := omega) only [wrap_small, getD_map_lt]; try simp only [go_sem, Nat.reduceSub, reduceIte, Nat.reduceEqDiff, Nat.reduceLT, Nat.reduceMul, Nat.reduceAdd, Nat.reduceBEq, Nat.reduceLeDiff, Int.reduceLT, Int.reduceLE, Int.reduceNeg, Int.reduceBEq, Int.reduceBNe, Int.reduceToNat, rxT, List.length_map, hw, hp, pcT, S4.ts]))
    | (refine AV.cond ?_ ?_ (fun hc => ?_) (fun hc => ?_) <;> (try simp only [go_sem, Nat.reduceSub, reduceIte, Nat.reduceEqDiff, Nat.reduceLT, Nat.reduceMul, Nat.reduceAdd, Nat.reduceBEq, Nat.reduceLeDiff, Int.reduceLT, Int.reduceLE, Int.reduceNeg, Int.reduceBEq, Int.reduceBNe, Int.reduceToNat, beq_iff_eq, beq_eq_false_iff_ne] at hc) <;> (try simp only [go_sem, Nat.reduceSub, reduceIte, Nat.reduceEqDiff, Nat.reduceLT, Nat.reduceMul, Nat.reduceAdd, Nat.reduceBEq, Nat.reduceLeDiff, Int.reduceLT, Int.reduceLE, Int.reduceNeg, Int.reduceBEq, Int.reduceBNe, Int.reduceToNat]))
    | ((first | refine AV.skip ?_ | refine AV.exit ?_); simp only [go_sem, Nat.reduceSub, reduceIte, Nat.reduceEqDiff, Nat.reduceLT, Nat.reduceMul, Nat.reduceAdd, Nat.reduceBEq, Nat.reduceLeDiff, Int.reduceLT, Int.reduceLE, Int.reduceNeg, Int.reduceBEq, Int.reduceBNe, Int.reduceToNat])
    | ((first | refine ⟨_, _, takes72_spec _, rfl, ?_⟩ | refine ⟨_, _, takes72_spec _, ?_⟩ | refine ⟨_, _, fun _ => takes72_spec _, rfl, fun _ => trivial, ?_⟩); (try simp only [go_sem, Nat.reduceSub, reduceIte, Nat.reduceEqDiff, Nat.reduceLT, Nat.reduceMul, Nat.reduceAdd, Nat.reduceBEq, Nat.reduceLeDiff, Int.reduceLT, Int.reduceLE, Int.reduceNeg, Int.reduceBEq, Int.reduceBNe, Int.reduceToNat, rxT, List.length_map, hw, hp, pcT, S4.ts]); repeat (simp (disch := omega) only [wrap_small, getD_map_lt]; try simp only [go_sem, Nat.reduceSub, reduceIte, Nat.reduceEqDiff, Nat.reduceLT, Nat.reduceMul, Nat.reduceAdd, Nat.reduceBEq, Nat.reduceLeDiff, Int.reduceLT, Int.reduceLE, Int.reduceNeg, Int.reduceBEq, Int.reduceBNe, Int.reduceToNat, rxT, List.length_map, hw, hp, pcT, S4.ts]))
    | ((first | refine ⟨.sh, .bool false, rfl, trivial, ?_⟩ | refine ⟨.sh, .bool false, rfl, ?_⟩); try simp only [go_sem, Nat.reduceSub, reduceIte, Nat.reduceEqDiff, Nat.reduceLT, Nat.reduceMul, Nat.reduceAdd, Nat.reduceBEq, Nat.reduceLeDiff, Int.reduceLT, Int.reduceLE, Int.reduceNeg, Int.reduceBEq, Int.reduceBNe, Int.reduceToNat])
    | (refine AV.ret ?_; (try simp only [go_sem, Nat.reduceSub, reduceIte, Nat.reduceEqDiff, Nat.reduceLT, Nat.reduceMul, Nat.reduceAdd, Nat.reduceBEq, Nat.reduceLeDiff, Int.reduceLT, Int.reduceLE, Int.reduceNeg, Int.reduceBEq, Int.reduceBNe, Int.reduceToNat]); first | refine atEnd_t (by simp only [go_sem, Nat.reduceSub, reduceIte, Nat.reduceEqDiff, Nat.reduceLT, Nat.reduceMul, Nat.reduceAdd, Nat.reduceBEq, Nat.reduceLeDiff, Int.reduceLT, Int.reduceLE, Int.reduceNeg, Int.reduceBEq, Int.reduceBNe, Int.reduceToNat] <;> rfl) ?_ (by first | (simp [rxT]; done) | exact leftT_tup _) | refine atEnd_c (by simp only [go_sem, Nat.reduceSub, reduceIte, Nat.reduceEqDiff, Nat.reduceLT, Nat.reduceMul, Nat.reduceAdd, Nat.reduceBEq, Nat.reduceLeDiff, Int.reduceLT, Int.reduceLE, Int.reduceNeg, Int.reduceBEq, Int.reduceBNe, Int.reduceToNat] <;> rfl) ?_ (by first | (simp [rxT]; done) | exact leftT_tup _) | refine atEnd_ct (by simp only [go_sem, Nat.reduceSub, reduceIte, Nat.reduceEqDiff, Nat.reduceLT, Nat.reduceMul, Nat.reduceAdd, Nat.reduceBEq, Nat.reduceLeDiff, Int.reduceLT, Int.reduceLE, Int.reduceNeg, Int.reduceBEq, Int.reduceBNe, Int.reduceToNat] <;> rfl) ?_ (by first | (simp; done) | exact leftT_tup _) (by simp only [go_sem, Nat.reduceSub, reduceIte, Nat.reduceEqDiff, Nat.reduceLT, Nat.reduceMul, Nat.reduceAdd, Nat.reduceBEq, Nat.reduceLeDiff, Int.reduceLT, Int.reduceLE, Int.reduceNeg, Int.reduceBEq, Int.reduceBNe, Int.reduceToNat] <;> rfl) ?_ (by simp) | refine atEnd_o (by simp only [go_sem, Nat.reduceSub, reduceIte, Nat.reduceEqDiff, Nat.reduceLT, Nat.reduceMul, Nat.reduceAdd, Nat.reduceBEq, Nat.reduceLeDiff, Int.reduceLT, Int.reduceLE, Int.reduceNeg, Int.reduceBEq, Int.reduceBNe, Int.reduceToNat] <;> rfl) ?_)
    | (refine And.intro ?_ ?_)
    | (with_reducible intro _)
  all_goals try first | exact True.intro | omega | exact ⟨_, _, rfl⟩ | exact allSolid_pcs _ | exact allSolid_one _ | exact allSolid_bool _ | rfl
def partsT : Rx → T
  | .none => .sl 1 []
  | .one _ => .sl 1 []
  | .cat a b => .sl 1 [rxT a.enc, rxT b.enc]
  | .alt a b => .sl 1 [rxT a.enc, rxT b.enc]
  | .star a => .sl 1 [rxT a.enc]
  | .plus a => .sl 1 [rxT a.enc]
  | .opt a => .sl 1 [rxT a.enc]
theorem parts74_spec (t : Rx) (h : t.enc.length ≤ 1073741820) : ACalls Try.prog 74 [rxT t.enc] .sh (partsT t) := by
  cases t with
  | none => exact parts74_0 _ tk0
  | one s => exact parts74_0 ⟨1, s⟩ tk1
  | cat a b => simp only [Rx.enc, List.length_append, List.length_cons, List.length_nil] at h; exact parts74_2 a b ⟨2, z4⟩ tk2 (by omega)
  | alt a b => simp only [Rx.enc, List.length_append, List.length_cons, List.length_nil] at h; exact parts74_2 a b ⟨3, z4⟩ tk3 (by omega)
  | star a => simp only [Rx.enc, List.length_append, List.length_cons, List.length_nil] at h; exact parts74_1 a.enc ⟨4, z4⟩ tk4 (by omega)
  | plus a => simp only [Rx.enc, List.length_append, List.length_cons, List.length_nil] at h; exact parts74_1 a.enc ⟨5, z4⟩ tk5 (by omega)
  | opt a => simp only [Rx.enc, List.length_append, List.length_cons, List.length_nil] at h; exact parts74_1 a.enc ⟨6, z4⟩ tk6 (by omega)
/-! ### rex.Join -/
def join78I (ps : List (List Pc)) (k : Int) (m : Nat) (σ : Env) : Prop := ∃ i : Nat, i + m = ps.length ∧ σ = [(0, .t (.int .i64 k)), (5, .own (.sl [.sh, .sh, .sh, .sh, .sh]) (.sl 5 ((ps.take i).flatten.map pcT))), (18, .t (.sl 1 (ps.map rxT))), (19, .t (.int .i64 (ps.length : Int))), (20, .t (.int .i64 (i : Int)))]
theorem flat_take (ps : List (List Pc)) (i : Nat) : ((ps.take i).flatten).length ≤ ps.flatten.length := by
  have : ps.flatten = (ps.take i).flatten ++ (ps.drop i).flatten := by rw [← List.flatten_append, List.take_append_drop]
  rw [this, List.length_append]; omega
theorem flat_succ (ps : List (List Pc)) (i : Nat) (h : i < ps.length) : (ps.take (i + 1)).flatten = (ps.take i).flatten ++ ps[i] := by
  rw [← List.take_append_getElem h, List.flatten_append]; simp
theorem join78_spec (k : Int) (ps : List (List Pc)) (hk : takes40 k = ps.length) (hne : ps ≠ []) (hl : ps.flatten.length < 1073741824) : ACalls Try.prog 78 [.int .i64 k, .sl 1 (ps.map rxT)] .sh (rxT (ps.flatten ++ [⟨k, z4⟩])) := by
  refine ACalls.of n78 rfl (m78 _ rfl) q78 (by simp only [List.length_cons, List.length_nil]; decide) (fun C hC => ?_)
  have hN : C.N = 33 := hC
  have hp := List.length_pos_iff.2 hne
  have hle : ps.length ≤ 2 := by have := takes40_le k; omega
  repeat' first
    | refine AV.seq ?_
    | refine AV.block ?_
    | ((first | refine AV.reg ?_ | refine AV.regD mixed ?_); simp only [hN, c78R0, c78R1, c78R2, c78R3, c78R4, c78R5, c78R6, c78R7, c78R8, c78R9, List.length_map, hk, go_sem, Nat.reduceSub, reduceIte, Nat.reduceEqDiff, Nat.reduceLT, Nat.reduceMul, Nat.reduceAdd, Nat.reduceBEq, Nat.reduceLeDiff, Int.reduceLT, Int.reduceLE, Int.reduceNeg, Int.reduceBEq, Int.reduceBNe, Int.reduceToNat]; repeat (simp (disch := omega) only [wrap_small, getD_map_lt]; try simp only [go_sem, Nat.reduceSub, reduceIte, Nat.reduceEqDiff, Nat.reduceLT, Nat.reduceMul, Nat.reduceAdd, Nat.reduceBEq, Nat.reduceLeDiff, Int.reduceLT, Int.reduceLE, Int.reduceNeg, Int.reduceBEq, Int.reduceBNe, Int.reduceToNat, List.length_map, hk]))
    | (refine AV.cond ?_ ?_ (fun hc => ?_) (fun hc => ?_) <;> (try simp only [go_sem, Nat.reduceSub, reduceIte, Nat.reduceEqDiff, Nat.reduceLT, Nat.reduceMul, Nat.reduceAdd, Nat.reduceBEq, Nat.reduceLeDiff, Int.reduceLT, Int.reduceLE, Int.reduceNeg, Int.reduceBEq, Int.reduceBNe, Int.reduceToNat, beq_iff_eq, beq_eq_false_iff_ne] at hc) <;> (try simp only [go_sem, Nat.reduceSub, reduceIte, Nat.reduceEqDiff, Nat.reduceLT, Nat.reduceMul, Nat.reduceAdd, Nat.reduceBEq, Nat.reduceLeDiff, Int.reduceLT, Int.reduceLE, Int.reduceNeg, Int.reduceBEq, Int.reduceBNe, Int.reduceToNat]))
    | ((first | refine AV.skip ?_ | refine AV.exit ?_); simp only [go_sem, Nat.reduceSub, reduceIte, Nat.reduceEqDiff, Nat.reduceLT, Nat.reduceMul, Nat.reduceAdd, Nat.reduceBEq, Nat.reduceLeDiff, Int.reduceLT, Int.reduceLE, Int.reduceNeg, Int.reduceBEq, Int.reduceBNe, Int.reduceToNat])
    | ((first | refine ⟨_, _, takes72_spec _, rfl, ?_⟩ | refine ⟨_, _, takes72_spec _, ?_⟩ | refine ⟨_, _, fun _ => takes72_spec _, rfl, fun _ => trivial, ?_⟩); (try simp only [go_sem, Nat.reduceSub, reduceIte, Nat.reduceEqDiff, Nat.reduceLT, Nat.reduceMul, Nat.reduceAdd, Nat.reduceBEq, Nat.reduceLeDiff, Int.reduceLT, Int.reduceLE, Int.reduceNeg, Int.reduceBEq, Int.reduceBNe, Int.reduceToNat, List.length_map, hk]); repeat (simp (disch := omega) only [wrap_small, getD_map_lt]; try simp only [go_sem, Nat.reduceSub, reduceIte, Nat.reduceEqDiff, Nat.reduceLT, Nat.reduceMul, Nat.reduceAdd, Nat.reduceBEq, Nat.reduceLeDiff, Int.reduceLT, Int.reduceLE, Int.reduceNeg, Int.reduceBEq, Int.reduceBNe, Int.reduceToNat, List.length_map, hk]))
    | ((first | refine ⟨.sh, .bool false, rfl, trivial, ?_⟩ | refine ⟨.sh, .bool false, rfl, ?_⟩); try simp only [go_sem, Nat.reduceSub, reduceIte, Nat.reduceEqDiff, Nat.reduceLT, Nat.reduceMul, Nat.reduceAdd, Nat.reduceBEq, Nat.reduceLeDiff, Int.reduceLT, Int.reduceLE, Int.reduceNeg, Int.reduceBEq, Int.reduceBNe, Int.reduceToNat])
    | (refine AV.ret ?_; (try simp only [go_sem, Nat.reduceSub, reduceIte, Nat.reduceEqDiff, Nat.reduceLT, Nat.reduceMul, Nat.reduceAdd, Nat.reduceBEq, Nat.reduceLeDiff, Int.reduceLT, Int.reduceLE, Int.reduceNeg, Int.reduceBEq, Int.reduceBNe, Int.reduceToNat]); first | refine atEnd_t (by simp only [go_sem, Nat.reduceSub, reduceIte, Nat.reduceEqDiff, Nat.reduceLT, Nat.reduceMul, Nat.reduceAdd, Nat.reduceBEq, Nat.reduceLeDiff, Int.reduceLT, Int.reduceLE, Int.reduceNeg, Int.reduceBEq, Int.reduceBNe, Int.reduceToNat] <;> rfl) ?_ (by first | (simp [rxT]; done) | exact leftT_tup _) | refine atEnd_c (by simp only [go_sem, Nat.reduceSub, reduceIte, Nat.reduceEqDiff, Nat.reduceLT, Nat.reduceMul, Nat.reduceAdd, Nat.reduceBEq, Nat.reduceLeDiff, Int.reduceLT, Int.reduceLE, Int.reduceNeg, Int.reduceBEq, Int.reduceBNe, Int.reduceToNat] <;> rfl) ?_ (by first | (simp [rxT]; done) | exact leftT_tup _) | refine atEnd_ct (by simp only [go_sem, Nat.reduceSub, reduceIte, Nat.reduceEqDiff, Nat.reduceLT, Nat.reduceMul, Nat.reduceAdd, Nat.reduceBEq, Nat.reduceLeDiff, Int.reduceLT, Int.reduceLE, Int.reduceNeg, Int.reduceBEq, Int.reduceBNe, Int.reduceToNat] <;> rfl) ?_ (by first | (simp; done) | exact leftT_tup _) (by simp only [go_sem, Nat.reduceSub, reduceIte, Nat.reduceEqDiff, Nat.reduceLT, Nat.reduceMul, Nat.reduceAdd, Nat.reduceBEq, Nat.reduceLeDiff, Int.reduceLT, Int.reduceLE, Int.reduceNeg, Int.reduceBEq, Int.reduceBNe, Int.reduceToNat] <;> rfl) ?_ (by simp) | refine atEnd_o (by simp only [go_sem, Nat.reduceSub, reduceIte, Nat.reduceEqDiff, Nat.reduceLT, Nat.reduceMul, Nat.reduceAdd, Nat.reduceBEq, Nat.reduceLeDiff, Int.reduceLT, Int.reduceLE, Int.reduceNeg, Int.reduceBEq, Int.reduceBNe, Int.reduceToNat] <;> rfl) ?_)
    | (refine And.intro ?_ ?_)
    | (with_reducible intro _)
  all_goals try first | exact True.intro | omega | exact ⟨_, _, rfl⟩ | exact allSolid_pcs _ | exact allSolid_one _ | exact allSolid_bool _ | rfl
  refine AV.loopK [0, 5, 18, 19, 20] (by simp only [hN]; decide) (n := ps.length) (join78I ps k) ?_ ⟨0, by omega, by simp only [go_sem, Nat.reduceSub, reduceIte, Nat.reduceEqDiff, Nat.reduceLT, Nat.reduceMul, Nat.reduceAdd, Nat.reduceBEq, Nat.reduceLeDiff, Int.reduceLT, Int.reduceLE, Int.reduceNeg, Int.reduceBEq, Int.reduceBNe, Int.reduceToNat] <;> rfl⟩
  rintro m σ ⟨i, hi, rfl⟩
  repeat' first
    | refine AV.seq ?_
    | refine AV.block ?_
    | ((first | refine AV.reg ?_ | refine AV.regD mixed ?_); simp only [hN, c78R0, c78R1, c78R2, c78R3, c78R4, c78R5, c78R6, c78R7, c78R8, c78R9, List.length_map, hk, rxT, go_sem, Nat.reduceSub, reduceIte, Nat.reduceEqDiff, Nat.reduceLT, Nat.reduceMul, Nat.reduceAdd, Nat.reduceBEq, Nat.reduceLeDiff, Int.reduceLT, Int.reduceLE, Int.reduceNeg, Int.reduceBEq, Int.reduceBNe, Int.reduceToNat]; repeat (simp (disch := omega) only [wrap_small, getD_map_lt]; try simp only [go_sem, Nat.reduceSub, reduceIte, Nat.reduceEqDiff, Nat.reduceLT, Nat.reduceMul, Nat.reduceAdd, Nat.reduceBEq, Nat.reduceLeDiff, Int.reduceLT, Int.reduceLE, Int.reduceNeg, Int.reduceBEq, Int.reduceBNe, Int.reduceToNat, List.length_map, hk, rxT]))
    | (refine AV.cond ?_ ?_ (fun hc => ?_) (fun hc => ?_) <;> (try simp only [go_sem, Nat.reduceSub, reduceIte, Nat.reduceEqDiff, Nat.reduceLT, Nat.reduceMul, Nat.reduceAdd, Nat.reduceBEq, Nat.reduceLeDiff, Int.reduceLT, Int.reduceLE, Int.reduceNeg, Int.reduceBEq, Int.reduceBNe, Int.reduceToNat, beq_iff_eq, beq_eq_false_iff_ne] at hc) <;> (try simp only [go_sem, Nat.reduceSub, reduceIte, Nat.reduceEqDiff, Nat.reduceLT, Nat.reduceMul, Nat.reduceAdd, Nat.reduceBEq, Nat.reduceLeDiff, Int.reduceLT, Int.reduceLE, Int.reduceNeg, Int.reduceBEq, Int.reduceBNe, Int.reduceToNat]))
    | ((first | refine AV.skip ?_ | refine AV.exit ?_); simp only [go_sem, Nat.reduceSub, reduceIte, Nat.reduceEqDiff, Nat.reduceLT, Nat.reduceMul, Nat.reduceAdd, Nat.reduceBEq, Nat.reduceLeDiff, Int.reduceLT, Int.reduceLE, Int.reduceNeg, Int.reduceBEq, Int.reduceBNe, Int.reduceToNat])
    | ((first | refine ⟨_, _, takes72_spec _, rfl, ?_⟩ | refine ⟨_, _, takes72_spec _, ?_⟩ | refine ⟨_, _, fun _ => takes72_spec _, rfl, fun _ => trivial, ?_⟩); (try simp only [go_sem, Nat.reduceSub, reduceIte, Nat.reduceEqDiff, Nat.reduceLT, Nat.reduceMul, Nat.reduceAdd, Nat.reduceBEq, Nat.reduceLeDiff, Int.reduceLT, Int.reduceLE, Int.reduceNeg, Int.reduceBEq, Int.reduceBNe, Int.reduceToNat, List.length_map, hk, rxT]); repeat (simp (disch := omega) only [wrap_small, getD_map_lt]; try simp only [go_sem, Nat.reduceSub, reduceIte, Nat.reduceEqDiff, Nat.reduceLT, Nat.reduceMul, Nat.reduceAdd, Nat.reduceBEq, Nat.reduceLeDiff, Int.reduceLT, Int.reduceLE, Int.reduceNeg, Int.reduceBEq, Int.reduceBNe, Int.reduceToNat, List.length_map, hk, rxT]))
    | ((first | refine ⟨.sh, .bool false, rfl, trivial, ?_⟩ | refine ⟨.sh, .bool false, rfl, ?_⟩); try simp only [go_sem, Nat.reduceSub, reduceIte, Nat.reduceEqDiff, Nat.reduceLT, Nat.reduceMul, Nat.reduceAdd, Nat.reduceBEq, Nat.reduceLeDiff, Int.reduceLT, Int.reduceLE, Int.reduceNeg, Int.reduceBEq, Int.reduceBNe, Int.reduceToNat])
    | (refine AV.ret ?_; (try simp only [go_sem, Nat.reduceSub, reduceIte, Nat.reduceEqDiff, Nat.reduceLT, Nat.reduceMul, Nat.reduceAdd, Nat.reduceBEq, Nat.reduceLeDiff, Int.reduceLT, Int.reduceLE, Int.reduceNeg, Int.reduceBEq, Int.reduceBNe, Int.reduceToNat]); first | refine atEnd_t (by simp only [go_sem, Nat.reduceSub, reduceIte, Nat.reduceEqDiff, Nat.reduceLT, Nat.reduceMul, Nat.reduceAdd, Nat.reduceBEq, Nat.reduceLeDiff, Int.reduceLT, Int.reduceLE, Int.reduceNeg, Int.reduceBEq, Int.reduceBNe, Int.reduceToNat] <;> rfl) ?_ (by first | (simp [rxT]; done) | exact leftT_tup _) | refine atEnd_c (by simp only [go_sem, Nat.reduceSub, reduceIte, Nat.reduceEqDiff, Nat.reduceLT, Nat.reduceMul, Nat.reduceAdd, Nat.reduceBEq, Nat.reduceLeDiff, Int.reduceLT, Int.reduceLE, Int.reduceNeg, Int.reduceBEq, Int.reduceBNe, Int.reduceToNat] <;> rfl) ?_ (by first | (simp [rxT]; done) | exact leftT_tup _) | refine atEnd_ct (by simp only [go_sem, Nat.reduceSub, reduceIte, Nat.reduceEqDiff, Nat.reduceLT, Nat.reduceMul, Nat.reduceAdd, Nat.reduceBEq, Nat.reduceLeDiff, Int.reduceLT, Int.reduceLE, Int.reduceNeg, Int.reduceBEq, Int.reduceBNe, Int.reduceToNat] <;> rfl) ?_ (by first | (simp; done) | exact leftT_tup _) (by simp only [go_sem, Nat.reduceSub, reduceIte, Nat.reduceEqDiff, Nat.reduceLT, Nat.reduceMul, Nat.reduceAdd, Nat.reduceBEq, Nat.reduceLeDiff, Int.reduceLT, Int.reduceLE, Int.reduceNeg, Int.reduceBEq, Int.reduceBNe, Int.reduceToNat] <;> rfl) ?_ (by simp) | refine atEnd_o (by simp only [go_sem, Nat.reduceSub, reduceIte, Nat.reduceEqDiff, Nat.reduceLT, Nat.reduceMul, Nat.reduceAdd, Nat.reduceBEq, Nat.reduceLeDiff, Int.reduceLT, Int.reduceLE, Int.reduceNeg, Int.reduceBEq, Int.reduceBNe, Int.reduceToNat] <;> rfl) ?_)
    | (refine And.intro ?_ ?_)
    | (with_reducible intro _)
  all_goals try first | exact True.intro | omega | exact ⟨_, _, rfl⟩ | exact allSolid_pcs _ | exact allSolid_one _ | exact allSolid_bool _ | rfl
  · have h := flat_take ps (i + 1)
    rw [flat_succ ps i (by omega), List.length_append] at h
    omega
  · refine ⟨m - 1, by omega, i + 1, by omega, ?_⟩
    rw [flat_succ ps i (by omega), List.map_append]
    rfl
  · intro y hy
    obtain rfl := List.mem_singleton.1 hy
    rfl
  · have h := flat_take ps i
    omega
  · have : i = ps.length := by omega
    subst this
    simp [pcT, S4.ts, z4]
end Go.Proofs.Ytaefhdklkbohmaa
/- Tables of truths: none, empty. -/
namespace Go.Proofs.Ytaefhdklkbohmaa
open Go Go.RowKit
set_option linter.unusedSimpArgs false
set_option maxRecDepth 20000
set_option maxHeartbeats 4000000
theorem atEnd_o {σ : Env} {s : Nat} {k : K} {t u : T} (h : σ.get s = .own k u) (hu : u = t) : atEnd [.tmp s] k t .ret σ := by
  subst hu
  exact .inl ⟨s, rfl, h⟩
/-- The places 0 .. n. -/
def idxs (n : Nat) : List Nat := List.range (n + 1)
theorem idxs_len (n : Nat) : (idxs n).length = n + 1 := by simp only [idxs, List.length_range]
theorem idxs_get (n i : Nat) (h : i < (idxs n).length) : (idxs n)[i] = i := by simp only [idxs, List.getElem_range]
theorem mem_idxs {n i : Nat} : i ∈ idxs n ↔ i < n + 1 := by simp only [idxs, List.mem_range]
def brow (n : Nat) (f : Nat → Nat → Bool) (i : Nat) : T := .sl 1 ((idxs n).map fun j => .bool (f i j))
def matT (n : Nat) (f : Nat → Nat → Bool) : T := .sl 1 ((idxs n).map (brow n f))
theorem getD_range {β : Type} (g : Nat → β) (n i : Nat) (d : β) (h : i < n + 1) : ((idxs n).map g).getD i d = g i := by
  rw [getD_map_lt g _ i d (by rw [idxs_len]; exact h), idxs_get]
theorem matT_congr (n : Nat) (f g : Nat → Nat → Bool) (h : ∀ i j, i ≤ n → j ≤ n → f i j = g i j) : matT n f = matT n g := by
  unfold matT
  refine congrArg (T.sl 1) (List.map_congr_left (fun i hi => ?_))
  rw [mem_idxs] at hi
  unfold brow
  refine congrArg (T.sl 1) (List.map_congr_left (fun j hj => ?_))
  rw [mem_idxs] at hj
  rw [h i j (by omega) (by omega)]
theorem allSolid_sl (z : Nat) (xs : List T) : allSolid [T.sl z xs] := by
  intro y hy
  obtain rfl := List.mem_singleton.1 hy
  rfl
def none79I (n m : Nat) (σ : Env) : Prop := ∃ i : Nat, i + m = n + 1 ∧ σ = [(0, .t (.int .i64 (n : Int))), (3, .own (.sl [.sl [.sh]]) (.sl 1 (List.replicate i (.sl 1 (List.replicate (n + 1) (.bool false)))))), (4, .t (.int .i64 (i : Int)))]
theorem none79_spec (n : Nat) (hn : n ≤ 1000000) : ACalls Try.prog 79 [.int .i64 (n : Int)] (.sl [.sl [.sh]]) (matT n fun _ _ => false) := by
  refine ACalls.of n79 rfl (m79 _ rfl) q79 (by simp only [List.length_cons, List.length_nil]; decide) (fun C hC => ?_)
  have hN : C.N = 17 := hC
  repeat' first
    | refine AV.seq ?_
    | refine AV.block ?_
    | ((first | refine AV.reg ?_ | refine AV.regD mixed ?_); simp only [hN, c79R0, c79R1, c79R2, c79R3, c79R5, c79R4, c79R6, List.length_map, go_sem, Nat.reduceSub, reduceIte, Nat.reduceEqDiff, Nat.reduceLT, Nat.reduceMul, Nat.reduceAdd, Nat.reduceBEq, Nat.reduceLeDiff, Int.reduceLT, Int.reduceLE, Int.reduceNeg, Int.reduceBEq, Int.reduceBNe, Int.reduceToNat]; repeat (simp (disch := omega) only [wrap_small, getD_map_lt, getD_range]; try simp only [go_sem, Nat.reduceSub, reduceIte, Nat.reduceEqDiff, Nat.reduceLT, Nat.reduceMul, Nat.reduceAdd, Nat.reduceBEq, Nat.reduceLeDiff, Int.reduceLT, Int.reduceLE, Int.reduceNeg, Int.reduceBEq, Int.reduceBNe, Int.reduceToNat, List.length_map]))
    | (refine AV.cond ?_ ?_ (fun hc => ?_) (fun hc => ?_) <;> (try simp only [go_sem, Nat.reduceSub, reduceIte, Nat.reduceEqDiff, Nat.reduceLT, Nat.reduceMul, Nat.reduceAdd, Nat.reduceBEq, Nat.reduceLeDiff, Int.reduceLT, Int.reduceLE, Int.reduceNeg, Int.reduceBEq, Int.reduceBNe, Int.reduceToNat, beq_iff_eq, beq_eq_false_iff_ne] at hc) <;> (try simp only [go_sem, Nat.reduceSub, reduceIte, Nat.reduceEqDiff, Nat.reduceLT, Nat.reduceMul, Nat.reduceAdd, Nat.reduceBEq, Nat.reduceLeDiff, Int.reduceLT, Int.reduceLE, Int.reduceNeg, Int.reduceBEq, Int.reduceBNe, Int.reduceToNat]))
    | ((first | refine AV.skip ?_ | refine AV.exit ?_); simp only [go_sem, Nat.reduceSub, reduceIte, Nat.reduceEqDiff, Nat.reduceLT, Nat.reduceMul, Nat.reduceAdd, Nat.reduceBEq, Nat.reduceLeDiff, Int.reduceLT, Int.reduceLE, Int.reduceNeg, Int.reduceBEq, Int.reduceBNe, Int.reduceToNat])
    | (refine AV.ret ?_; (try simp only [go_sem, Nat.reduceSub, reduceIte, Nat.reduceEqDiff, Nat.reduceLT, Nat.reduceMul, Nat.reduceAdd, Nat.reduceBEq, Nat.reduceLeDiff, Int.reduceLT, Int.reduceLE, Int.reduceNeg, Int.reduceBEq, Int.reduceBNe, Int.reduceToNat]); first | refine atEnd_t (by simp only [go_sem, Nat.reduceSub, reduceIte, Nat.reduceEqDiff, Nat.reduceLT, Nat.reduceMul, Nat.reduceAdd, Nat.reduceBEq, Nat.reduceLeDiff, Int.reduceLT, Int.reduceLE, Int.reduceNeg, Int.reduceBEq, Int.reduceBNe, Int.reduceToNat] <;> rfl) ?_ (by first | (simp [rxT]; done) | exact leftT_tup _) | refine atEnd_c (by simp only [go_sem, Nat.reduceSub, reduceIte, Nat.reduceEqDiff, Nat.reduceLT, Nat.reduceMul, Nat.reduceAdd, Nat.reduceBEq, Nat.reduceLeDiff, Int.reduceLT, Int.reduceLE, Int.reduceNeg, Int.reduceBEq, Int.reduceBNe, Int.reduceToNat] <;> rfl) ?_ (by first | (simp [rxT]; done) | exact leftT_tup _) | refine atEnd_ct (by simp only [go_sem, Nat.reduceSub, reduceIte, Nat.reduceEqDiff, Nat.reduceLT, Nat.reduceMul, Nat.reduceAdd, Nat.reduceBEq, Nat.reduceLeDiff, Int.reduceLT, Int.reduceLE, Int.reduceNeg, Int.reduceBEq, Int.reduceBNe, Int.reduceToNat] <;> rfl) ?_ (by first | (simp; done) | exact leftT_tup _) (by simp only [go_sem, Nat.reduceSub, reduceIte, Nat.reduceEqDiff, Nat.reduceLT, Nat.reduceMul, Nat.reduceAdd, Nat.reduceBEq, Nat.reduceLeDiff, Int.reduceLT, Int.reduceLE, Int.reduceNeg, Int.reduceBEq, Int.reduceBNe, Int.reduceToNat] <;> rfl) ?_ (by simp) | refine atEnd_o (by simp only [go_sem, Nat.reduceSub, reduceIte, Nat.reduceEqDiff, Nat.reduceLT, Nat.reduceMul, Nat.reduceAdd, Nat.reduceBEq, Nat.reduceLeDiff, Int.reduceLT, Int.reduceLE, Int.reduceNeg, Int.reduceBEq, Int.reduceBNe, Int.reduceToNat] <;> rfl) ?_)
    | (refine And.intro ?_ ?_)
    | (with_reducible intro _)
  all_goals try first | exact True.intro | omega | exact ⟨_, _, rfl⟩ | exact allSolid_pcs _ | exact allSolid_one _ | exact allSolid_bool _ | rfl
  refine AV.loopK [0, 3, 4] (by simp only [hN]; decide) (n := n + 1) (none79I n) ?_ ⟨0, by omega, by simp only [go_sem, Nat.reduceSub, reduceIte, Nat.reduceEqDiff, Nat.reduceLT, Nat.reduceMul, Nat.reduceAdd, Nat.reduceBEq, Nat.reduceLeDiff, Int.reduceLT, Int.reduceLE, Int.reduceNeg, Int.reduceBEq, Int.reduceBNe, Int.reduceToNat] <;> rfl⟩
  rintro m σ ⟨i, hi, rfl⟩
  have hw : IntKind.i64.wrap ((n : Int) + 1) = ((n + 1 : Nat) : Int) := by rw [wrap_small] <;> omega
  repeat' first
    | refine AV.seq ?_
    | refine AV.block ?_
    | ((first | refine AV.reg ?_ | refine AV.regD mixed ?_); simp only [hN, c79R0, c79R1, c79R2, c79R3, c79R5, c79R4, c79R6, List.length_map, hw, List.length_replicate, mkW, T.toInt, go_sem, Nat.reduceSub, reduceIte, Nat.reduceEqDiff, Nat.reduceLT, Nat.reduceMul, Nat.reduceAdd, Nat.reduceBEq, Nat.reduceLeDiff, Int.reduceLT, Int.reduceLE, Int.reduceNeg, Int.reduceBEq, Int.reduceBNe, Int.reduceToNat]; repeat (simp (disch := omega) only [wrap_small, getD_map_lt, getD_range]; try simp only [go_sem, Nat.reduceSub, reduceIte, Nat.reduceEqDiff, Nat.reduceLT, Nat.reduceMul, Nat.reduceAdd, Nat.reduceBEq, Nat.reduceLeDiff, Int.reduceLT, Int.reduceLE, Int.reduceNeg, Int.reduceBEq, Int.reduceBNe, Int.reduceToNat, List.length_map, hw, List.length_replicate, mkW, T.toInt]))
    | (refine AV.cond ?_ ?_ (fun hc => ?_) (fun hc => ?_) <;> (try simp only [go_sem, Nat.reduceSub, reduceIte, Nat.reduceEqDiff, Nat.reduceLT, Nat.reduceMul, Nat.reduceAdd, Nat.reduceBEq, Nat.reduceLeDiff, Int.reduceLT, Int.reduceLE, Int.reduceNeg, Int.reduceBEq, Int.reduceBNe, Int.reduceToNat, beq_iff_eq, beq_eq_false_iff_ne] at hc) <;> (try simp only [go_sem, Nat.reduceSub, reduceIte, Nat.reduceEqDiff, Nat.reduceLT, Nat.reduceMul, Nat.reduceAdd, Nat.reduceBEq, Nat.reduceLeDiff, Int.reduceLT, Int.reduceLE, Int.reduceNeg, Int.reduceBEq, Int.reduceBNe, Int.reduceToNat]))
    | ((first | refine AV.skip ?_ | refine AV.exit ?_); simp only [go_sem, Nat.reduceSub, reduceIte, Nat.reduceEqDiff, Nat.reduceLT, Nat.reduceMul, Nat.reduceAdd, Nat.reduceBEq, Nat.reduceLeDiff, Int.reduceLT, Int.reduceLE, Int.reduceNeg, Int.reduceBEq, Int.reduceBNe, Int.reduceToNat])
    | (refine AV.ret ?_; (try simp only [go_sem, Nat.reduceSub, reduceIte, Nat.reduceEqDiff, Nat.reduceLT, Nat.reduceMul, Nat.reduceAdd, Nat.reduceBEq, Nat.reduceLeDiff, Int.reduceLT, Int.reduceLE, Int.reduceNeg, Int.reduceBEq, Int.reduceBNe, Int.reduceToNat]); first | refine atEnd_t (by simp only [go_sem, Nat.reduceSub, reduceIte, Nat.reduceEqDiff, Nat.reduceLT, Nat.reduceMul, Nat.reduceAdd, Nat.reduceBEq, Nat.reduceLeDiff, Int.reduceLT, Int.reduceLE, Int.reduceNeg, Int.reduceBEq, Int.reduceBNe, Int.reduceToNat] <;> rfl) ?_ (by first | (simp [rxT]; done) | exact leftT_tup _) | refine atEnd_c (by simp only [go_sem, Nat.reduceSub, reduceIte, Nat.reduceEqDiff, Nat.reduceLT, Nat.reduceMul, Nat.reduceAdd, Nat.reduceBEq, Nat.reduceLeDiff, Int.reduceLT, Int.reduceLE, Int.reduceNeg, Int.reduceBEq, Int.reduceBNe, Int.reduceToNat] <;> rfl) ?_ (by first | (simp [rxT]; done) | exact leftT_tup _) | refine atEnd_ct (by simp only [go_sem, Nat.reduceSub, reduceIte, Nat.reduceEqDiff, Nat.reduceLT, Nat.reduceMul, Nat.reduceAdd, Nat.reduceBEq, Nat.reduceLeDiff, Int.reduceLT, Int.reduceLE, Int.reduceNeg, Int.reduceBEq, Int.reduceBNe, Int.reduceToNat] <;> rfl) ?_ (by first | (simp; done) | exact leftT_tup _) (by simp only [go_sem, Nat.reduceSub, reduceIte, Nat.reduceEqDiff, Nat.reduceLT, Nat.reduceMul, Nat.reduceAdd, Nat.reduceBEq, Nat.reduceLeDiff, Int.reduceLT, Int.reduceLE, Int.reduceNeg, Int.reduceBEq, Int.reduceBNe, Int.reduceToNat] <;> rfl) ?_ (by simp) | refine atEnd_o (by simp only [go_sem, Nat.reduceSub, reduceIte, Nat.reduceEqDiff, Nat.reduceLT, Nat.reduceMul, Nat.reduceAdd, Nat.reduceBEq, Nat.reduceLeDiff, Int.reduceLT, Int.reduceLE, Int.reduceNeg, Int.reduceBEq, Int.reduceBNe, Int.reduceToNat] <;> rfl) ?_)
    | (refine And.intro ?_ ?_)
    | (with_reducible intro _)
  all_goals try first | exact True.intro | omega | exact ⟨_, _, rfl⟩ | exact allSolid_pcs _ | exact allSolid_one _ | exact allSolid_bool _ | rfl
  · exact allSolid_sl _ _
  · refine ⟨m - 1, by omega, i + 1, by omega, ?_⟩
    rw [List.replicate_succ' (n := i)]
    rfl
  · have : i = n + 1 := by omega
    subst this
    have h1 : ∀ (k : Nat) (a : T), (idxs k).map (fun _ => a) = List.replicate (k + 1) a := by intro k a; simp only [List.map_const', idxs_len]
    show T.sl 1 (List.replicate (n + 1) (T.sl 1 (List.replicate (n + 1) (T.bool false)))) = _
    unfold matT
    have h2 : brow n (fun _ _ => false) = fun _ => T.sl 1 (List.replicate (n + 1) (T.bool false)) := by
      funext i
      unfold brow
      rw [h1]
    rw [h2, h1]
/-- A cell is written. -/
def up2 (f : Nat → Nat → Bool) (i j : Nat) (v : Bool) : Nat → Nat → Bool := fun i' j' => if i' = i ∧ j' = j then v else f i' j'
theorem row_put (n : Nat) (f : Nat → Nat → Bool) (i j : Nat) (v : Bool) : ((idxs n).map fun j => T.bool (f i j)).set j (.bool v) = (idxs n).map fun j' => T.bool (up2 f i j v i j') := by
  apply List.ext_getElem
  · simp
  · intro k h1 h2
    simp only [List.getElem_set, List.getElem_map, idxs_get, up2]
    by_cases e : k = j
    · subst e; simp
    · have : ¬ j = k := fun h => e h.symm
      simp [e, this]
theorem mat_put (n : Nat) (f : Nat → Nat → Bool) (i j : Nat) (v : Bool) : ((idxs n).map (brow n f)).set i (.sl 1 (((idxs n).map fun j => T.bool (f i j)).set j (.bool v))) = (idxs n).map (brow n (up2 f i j v)) := by
  rw [row_put]
  apply List.ext_getElem
  · simp
  · intro k h1 h2
    simp only [List.getElem_set, List.getElem_map, idxs_get]
    split
    · rename_i e; subst e; rfl
    · rename_i e
      unfold brow
      congr 1
      refine List.map_congr_left (fun j' _ => ?_)
      have : ¬ k = i := fun h => e h.symm
      simp [up2, this]
theorem bool_ext {a b : Bool} (h : a = true ↔ b = true) : a = b := by
  cases a <;> cases b <;> simp_all
def empty83I (n m : Nat) (σ : Env) : Prop := ∃ (i : Nat) (h : Nat → Nat → Bool), i + m = n + 1 ∧ (∀ a b, a ≤ n → b ≤ n → (h a b = true ↔ a = b ∧ a < i)) ∧ σ = [(0, .t (.int .i64 (n : Int))), (3, .own (.sl [.sl [.sh]]) (matT n h)), (4, .t (.int .i64 (i : Int)))]
theorem empty83_spec (n : Nat) (hn : n ≤ 1000000) : ACalls Try.prog 83 [.int .i64 (n : Int)] (.sl [.sl [.sh]]) (matT n fun a b => decide (a = b)) := by
  refine ACalls.of n83 rfl (m83 _ rfl) q83 (by simp only [List.length_cons, List.length_nil]; decide) (fun C hC => ?_)
  have hN : C.N = 19 := hC
  repeat' first
    | refine AV.seq ?_
    | refine AV.block ?_
    | ((first | refine AV.reg ?_ | refine AV.regD mixed ?_); simp only [hN, c83R0, c83R1, c83R2, c83R3, c83R5, c83R4, c83R6, List.length_map, go_sem, Nat.reduceSub, reduceIte, Nat.reduceEqDiff, Nat.reduceLT, Nat.reduceMul, Nat.reduceAdd, Nat.reduceBEq, Nat.reduceLeDiff, Int.reduceLT, Int.reduceLE, Int.reduceNeg, Int.reduceBEq, Int.reduceBNe, Int.reduceToNat]; repeat (simp (disch := omega) only [wrap_small, getD_map_lt, getD_range]; try simp only [go_sem, Nat.reduceSub, reduceIte, Nat.reduceEqDiff, Nat.reduceLT, Nat.reduceMul, Nat.reduceAdd, Nat.reduceBEq, Nat.reduceLeDiff, Int.reduceLT, Int.reduceLE, Int.reduceNeg, Int.reduceBEq, Int.reduceBNe, Int.reduceToNat, List.length_map]))
    | (refine AV.cond ?_ ?_ (fun hc => ?_) (fun hc => ?_) <;> (try simp only [go_sem, Nat.reduceSub, reduceIte, Nat.reduceEqDiff, Nat.reduceLT, Nat.reduceMul, Nat.reduceAdd, Nat.reduceBEq, Nat.reduceLeDiff, Int.reduceLT, Int.reduceLE, Int.reduceNeg, Int.reduceBEq, Int.reduceBNe, Int.reduceToNat, beq_iff_eq, beq_eq_false_iff_ne] at hc) <;> (try simp only [go_sem, Nat.reduceSub, reduceIte, Nat.reduceEqDiff, Nat.reduceLT, Nat.reduceMul, Nat.reduceAdd, Nat.reduceBEq, Nat.reduceLeDiff, Int.reduceLT, Int.reduceLE, Int.reduceNeg, Int.reduceBEq, Int.reduceBNe, Int.reduceToNat]))
    | ((first | refine AV.skip ?_ | refine AV.exit ?_); simp only [go_sem, Nat.reduceSub, reduceIte, Nat.reduceEqDiff, Nat.reduceLT, Nat.reduceMul, Nat.reduceAdd, Nat.reduceBEq, Nat.reduceLeDiff, Int.reduceLT, Int.reduceLE, Int.reduceNeg, Int.reduceBEq, Int.reduceBNe, Int.reduceToNat])
    | ((first | refine ⟨_, _, none79_spec n hn, rfl, ?_⟩ | refine ⟨_, _, none79_spec n hn, ?_⟩ | refine ⟨_, _, fun _ => none79_spec n hn, rfl, fun _ => trivial, ?_⟩); (try simp only [go_sem, Nat.reduceSub, reduceIte, Nat.reduceEqDiff, Nat.reduceLT, Nat.reduceMul, Nat.reduceAdd, Nat.reduceBEq, Nat.reduceLeDiff, Int.reduceLT, Int.reduceLE, Int.reduceNeg, Int.reduceBEq, Int.reduceBNe, Int.reduceToNat, List.length_map]); repeat (simp (disch := omega) only [wrap_small, getD_map_lt, getD_range]; try simp only [go_sem, Nat.reduceSub, reduceIte, Nat.reduceEqDiff, Nat.reduceLT, Nat.reduceMul, Nat.reduceAdd, Nat.reduceBEq, Nat.reduceLeDiff, Int.reduceLT, Int.reduceLE, Int.reduceNeg, Int.reduceBEq, Int.reduceBNe, Int.reduceToNat, List.length_map]))
    | ((first | refine ⟨.sh, .bool false, rfl, trivial, ?_⟩ | refine ⟨.sh, .bool false, rfl, ?_⟩); try simp only [go_sem, Nat.reduceSub, reduceIte, Nat.reduceEqDiff, Nat.reduceLT, Nat.reduceMul, Nat.reduceAdd, Nat.reduceBEq, Nat.reduceLeDiff, Int.reduceLT, Int.reduceLE, Int.reduceNeg, Int.reduceBEq, Int.reduceBNe, Int.reduceToNat])
    | (refine AV.ret ?_; (try simp only [go_sem, Nat.reduceSub, reduceIte, Nat.reduceEqDiff, Nat.reduceLT, Nat.reduceMul, Nat.reduceAdd, Nat.reduceBEq, Nat.reduceLeDiff, Int.reduceLT, Int.reduceLE, Int.reduceNeg, Int.reduceBEq, Int.reduceBNe, Int.reduceToNat]); first | refine atEnd_t (by simp only [go_sem, Nat.reduceSub, reduceIte, Nat.reduceEqDiff, Nat.reduceLT, Nat.reduceMul, Nat.reduceAdd, Nat.reduceBEq, Nat.reduceLeDiff, Int.reduceLT, Int.reduceLE, Int.reduceNeg, Int.reduceBEq, Int.reduceBNe, Int.reduceToNat] <;> rfl) ?_ (by first | (simp [rxT]; done) | exact leftT_tup _) | refine atEnd_c (by simp only [go_sem, Nat.reduceSub, reduceIte, Nat.reduceEqDiff, Nat.reduceLT, Nat.reduceMul, Nat.reduceAdd, Nat.reduceBEq, Nat.reduceLeDiff, Int.reduceLT, Int.reduceLE, Int.reduceNeg, Int.reduceBEq, Int.reduceBNe, Int.reduceToNat] <;> rfl) ?_ (by first | (simp [rxT]; done) | exact leftT_tup _) | refine atEnd_ct (by simp only [go_sem, Nat.reduceSub, reduceIte, Nat.reduceEqDiff, Nat.reduceLT, Nat.reduceMul, Nat.reduceAdd, Nat.reduceBEq, Nat.reduceLeDiff, Int.reduceLT, Int.reduceLE, Int.reduceNeg, Int.reduceBEq, Int.reduceBNe, Int.reduceToNat] <;> rfl) ?_ (by first | (simp; done) | exact leftT_tup _) (by simp only [go_sem, Nat.reduceSub, reduceIte, Nat.reduceEqDiff, Nat.reduceLT, Nat.reduceMul, Nat.reduceAdd, Nat.reduceBEq, Nat.reduceLeDiff, Int.reduceLT, Int.reduceLE, Int.reduceNeg, Int.reduceBEq, Int.reduceBNe, Int.reduceToNat] <;> rfl) ?_ (by simp) | refine atEnd_o (by simp only [go_sem, Nat.reduceSub, reduceIte, Nat.reduceEqDiff, Nat.reduceLT, Nat.reduceMul, Nat.reduceAdd, Nat.reduceBEq, Nat.reduceLeDiff, Int.reduceLT, Int.reduceLE, Int.reduceNeg, Int.reduceBEq, Int.reduceBNe, Int.reduceToNat] <;> rfl) ?_)
    | (refine And.intro ?_ ?_)
    | (with_reducible intro _)
  all_goals try first | exact True.intro | omega | exact ⟨_, _, rfl⟩ | exact allSolid_pcs _ | exact allSolid_one _ | exact allSolid_bool _ | rfl
  refine AV.loopK [0, 3, 4] (by simp only [hN]; decide) (n := n + 1) (empty83I n) ?_ ⟨0, fun _ _ => false, by omega, by simp, by simp only [go_sem, Nat.reduceSub, reduceIte, Nat.reduceEqDiff, Nat.reduceLT, Nat.reduceMul, Nat.reduceAdd, Nat.reduceBEq, Nat.reduceLeDiff, Int.reduceLT, Int.reduceLE, Int.reduceNeg, Int.reduceBEq, Int.reduceBNe, Int.reduceToNat] <;> rfl⟩
  rintro m σ ⟨i, h, hi, hh, rfl⟩
  repeat' first
    | refine AV.seq ?_
    | refine AV.block ?_
    | ((first | refine AV.reg ?_ | refine AV.regD mixed ?_); simp only [hN, c83R0, c83R1, c83R2, c83R3, c83R5, c83R4, c83R6, List.length_map, matT, brow, idxs_len, go_sem, Nat.reduceSub, reduceIte, Nat.reduceEqDiff, Nat.reduceLT, Nat.reduceMul, Nat.reduceAdd, Nat.reduceBEq, Nat.reduceLeDiff, Int.reduceLT, Int.reduceLE, Int.reduceNeg, Int.reduceBEq, Int.reduceBNe, Int.reduceToNat]; repeat (simp (disch := omega) only [wrap_small, getD_map_lt, getD_range]; try simp only [go_sem, Nat.reduceSub, reduceIte, Nat.reduceEqDiff, Nat.reduceLT, Nat.reduceMul, Nat.reduceAdd, Nat.reduceBEq, Nat.reduceLeDiff, Int.reduceLT, Int.reduceLE, Int.reduceNeg, Int.reduceBEq, Int.reduceBNe, Int.reduceToNat, List.length_map, matT, brow, idxs_len]))
    | (refine AV.cond ?_ ?_ (fun hc => ?_) (fun hc => ?_) <;> (try simp only [go_sem, Nat.reduceSub, reduceIte, Nat.reduceEqDiff, Nat.reduceLT, Nat.reduceMul, Nat.reduceAdd, Nat.reduceBEq, Nat.reduceLeDiff, Int.reduceLT, Int.reduceLE, Int.reduceNeg, Int.reduceBEq, Int.reduceBNe, Int.reduceToNat, beq_iff_eq, beq_eq_false_iff_ne] at hc) <;> (try simp only [go_sem, Nat.reduceSub, reduceIte, Nat.reduceEqDiff, Nat.reduceLT, Nat.reduceMul, Nat.reduceAdd, Nat.reduceBEq, Nat.reduceLeDiff, Int.reduceLT, Int.reduceLE, Int.reduceNeg, Int.reduceBEq, Int.reduceBNe, Int.reduceToNat]))
    | ((first | refine AV.skip ?_ | refine AV.exit ?_); simp only [go_sem, Nat.reduceSub, reduceIte, Nat.reduceEqDiff, Nat.reduceLT, Nat.reduceMul, Nat.reduceAdd, Nat.reduceBEq, Nat.reduceLeDiff, Int.reduceLT, Int.reduceLE, Int.reduceNeg, Int.reduceBEq, Int.reduceBNe, Int.reduceToNat])
    | (refine AV.ret ?_; (try simp only [go_sem, Nat.reduceSub, reduceIte, Nat.reduceEqDiff, Nat.reduceLT, Nat.reduceMul, Nat.reduceAdd, Nat.reduceBEq, Nat.reduceLeDiff, Int.reduceLT, Int.reduceLE, Int.reduceNeg, Int.reduceBEq, Int.reduceBNe, Int.reduceToNat]); first | refine atEnd_t (by simp only [go_sem, Nat.reduceSub, reduceIte, Nat.reduceEqDiff, Nat.reduceLT, Nat.reduceMul, Nat.reduceAdd, Nat.reduceBEq, Nat.reduceLeDiff, Int.reduceLT, Int.reduceLE, Int.reduceNeg, Int.reduceBEq, Int.reduceBNe, Int.reduceToNat] <;> rfl) ?_ (by first | (simp [rxT]; done) | exact leftT_tup _) | refine atEnd_c (by simp only [go_sem, Nat.reduceSub, reduceIte, Nat.reduceEqDiff, Nat.reduceLT, Nat.reduceMul, Nat.reduceAdd, Nat.reduceBEq, Nat.reduceLeDiff, Int.reduceLT, Int.reduceLE, Int.reduceNeg, Int.reduceBEq, Int.reduceBNe, Int.reduceToNat] <;> rfl) ?_ (by first | (simp [rxT]; done) | exact leftT_tup _) | refine atEnd_ct (by simp only [go_sem, Nat.reduceSub, reduceIte, Nat.reduceEqDiff, Nat.reduceLT, Nat.reduceMul, Nat.reduceAdd, Nat.reduceBEq, Nat.reduceLeDiff, Int.reduceLT, Int.reduceLE, Int.reduceNeg, Int.reduceBEq, Int.reduceBNe, Int.reduceToNat] <;> rfl) ?_ (by first | (simp; done) | exact leftT_tup _) (by simp only [go_sem, Nat.reduceSub, reduceIte, Nat.reduceEqDiff, Nat.reduceLT, Nat.reduceMul, Nat.reduceAdd, Nat.reduceBEq, Nat.reduceLeDiff, Int.reduceLT, Int.reduceLE, Int.reduceNeg, Int.reduceBEq, Int.reduceBNe, Int.reduceToNat] <;> rfl) ?_ (by simp) | refine atEnd_o (by simp only [go_sem, Nat.reduceSub, reduceIte, Nat.reduceEqDiff, Nat.reduceLT, Nat.reduceMul, Nat.reduceAdd, Nat.reduceBEq, Nat.reduceLeDiff, Int.reduceLT, Int.reduceLE, Int.reduceNeg, Int.reduceBEq, Int.reduceBNe, Int.reduceToNat] <;> rfl) ?_)
    | (refine And.intro ?_ ?_)
    | (with_reducible intro _)
  all_goals try first | exact True.intro | omega | exact ⟨_, _, rfl⟩ | exact allSolid_pcs _ | exact allSolid_one _ | exact allSolid_bool _ | rfl
  · refine ⟨m - 1, by omega, i + 1, up2 h i i true, by omega, ?_, by rw [mat_put]; rfl⟩
    intro a b ha hb
    simp only [up2]
    split
    · rename_i e; simp [e.1, e.2]
    · rename_i e; rw [hh a b ha hb]; omega
  · refine matT_congr n _ _ (fun a b ha hb => bool_ext ?_)
    rw [hh a b ha hb]; simp; omega
end Go.Proofs.Ytaefhdklkbohmaa
/- Tables of truths: or, then. -/
namespace Go.Proofs.Ytaefhdklkbohmaa
open Go Go.RowKit
set_option linter.unusedSimpArgs false
set_option maxRecDepth 20000
set_option maxHeartbeats 4000000
def or81A (n : Nat) (f g : Nat → Nat → Bool) (m : Nat) (σ : Env) : Prop := ∃ (i : Nat) (h : Nat → Nat → Bool), i + m = n + 1 ∧ (∀ a b, a ≤ n → b ≤ n → (h a b = true ↔ a ≤ b ∧ (f a b = true ∨ g a b = true) ∧ a < i)) ∧
  σ = [(0, .t (matT n f)), (1, .t (matT n g)), (5, .own (.sl [.sl [.sh]]) (matT n h)), (6, .t (.int .i64 (i : Int)))]
def or81B (n : Nat) (f g : Nat → Nat → Bool) (i m : Nat) (σ : Env) : Prop := ∃ (j : Nat) (h : Nat → Nat → Bool), j + m = n + 1 ∧ i ≤ j ∧ (∀ a b, a ≤ n → b ≤ n → (h a b = true ↔ a ≤ b ∧ (f a b = true ∨ g a b = true) ∧ (a < i ∨ a = i ∧ b < j))) ∧
  σ = [(0, .t (matT n f)), (1, .t (matT n g)), (5, .own (.sl [.sl [.sh]]) (matT n h)), (6, .t (.int .i64 (i : Int))), (7, .t (.int .i64 (j : Int)))]
theorem or81_spec (n : Nat) (hn : n ≤ 1000000) (f g r : Nat → Nat → Bool) (hr : ∀ a b, a ≤ n → b ≤ n → (r a b = true ↔ a ≤ b ∧ (f a b = true ∨ g a b = true))) :
    ACalls Try.prog 81 [matT n f, matT n g] (.sl [.sl [.sh]]) (matT n r) := by
  refine ACalls.of n81 rfl (m81 _ rfl) q81 (by simp only [List.length_cons, List.length_nil]; decide) (fun C hC => ?_)
  have hN : C.N = 48 := hC
  have hw : IntKind.i64.wrap (((n + 1 : Nat) : Int) - 1) = (n : Int) := by rw [wrap_small] <;> omega
  repeat' first
    | refine AV.seq ?_
    | refine AV.block ?_
    | ((first | refine AV.reg ?_ | refine AV.regD mixed ?_); simp only [hN, c81R0, c81R1, c81R2, c81R3, c81R5, c81R6, c81R8, c81R7, c81R4, c81R9, List.length_map, matT, idxs_len, hw, go_sem, Nat.reduceSub, reduceIte, Nat.reduceEqDiff, Nat.reduceLT, Nat.reduceMul, Nat.reduceAdd, Nat.reduceBEq, Nat.reduceLeDiff, Int.reduceLT, Int.reduceLE, Int.reduceNeg, Int.reduceBEq, Int.reduceBNe, Int.reduceToNat]; repeat (simp (disch := omega) only [wrap_small, getD_map_lt, getD_range]; try simp only [go_sem, Nat.reduceSub, reduceIte, Nat.reduceEqDiff, Nat.reduceLT, Nat.reduceMul, Nat.reduceAdd, Nat.reduceBEq, Nat.reduceLeDiff, Int.reduceLT, Int.reduceLE, Int.reduceNeg, Int.reduceBEq, Int.reduceBNe, Int.reduceToNat, List.length_map, matT, idxs_len, hw]))
    | (refine AV.cond ?_ ?_ (fun hc => ?_) (fun hc => ?_) <;> (try simp only [go_sem, Nat.reduceSub, reduceIte, Nat.reduceEqDiff, Nat.reduceLT, Nat.reduceMul, Nat.reduceAdd, Nat.reduceBEq, Nat.reduceLeDiff, Int.reduceLT, Int.reduceLE, Int.reduceNeg, Int.reduceBEq, Int.reduceBNe, Int.reduceToNat, beq_iff_eq, beq_eq_false_iff_ne] at hc) <;> (try simp only [go_sem, Nat.reduceSub, reduceIte, Nat.reduceEqDiff, Nat.reduceLT, Nat.reduceMul, Nat.reduceAdd, Nat.reduceBEq, Nat.reduceLeDiff, Int.reduceLT, Int.reduceLE, Int.reduceNeg, Int.reduceBEq, Int.reduceBNe, Int.reduceToNat]))
    | ((first | refine AV.skip ?_ | refine AV.exit ?_); simp only [go_sem, Nat.reduceSub, reduceIte, Nat.reduceEqDiff, Nat.reduceLT, Nat.reduceMul, Nat.reduceAdd, Nat.reduceBEq, Nat.reduceLeDiff, Int.reduceLT, Int.reduceLE, Int.reduceNeg, Int.reduceBEq, Int.reduceBNe, Int.reduceToNat])
    | ((first | refine ⟨_, _, none79_spec n hn, rfl, ?_⟩ | refine ⟨_, _, none79_spec n hn, ?_⟩ | refine ⟨_, _, fun _ => none79_spec n hn, rfl, fun _ => trivial, ?_⟩); (try simp only [go_sem, Nat.reduceSub, reduceIte, Nat.reduceEqDiff, Nat.reduceLT, Nat.reduceMul, Nat.reduceAdd, Nat.reduceBEq, Nat.reduceLeDiff, Int.reduceLT, Int.reduceLE, Int.reduceNeg, Int.reduceBEq, Int.reduceBNe, Int.reduceToNat, List.length_map, matT, idxs_len, hw]); repeat (simp (disch := omega) only [wrap_small, getD_map_lt, getD_range]; try simp only [go_sem, Nat.reduceSub, reduceIte, Nat.reduceEqDiff, Nat.reduceLT, Nat.reduceMul, Nat.reduceAdd, Nat.reduceBEq, Nat.reduceLeDiff, Int.reduceLT, Int.reduceLE, Int.reduceNeg, Int.reduceBEq, Int.reduceBNe, Int.reduceToNat, List.length_map, matT, idxs_len, hw]))
    | ((first | refine ⟨.sh, .bool false, rfl, trivial, ?_⟩ | refine ⟨.sh, .bool false, rfl, ?_⟩); try simp only [go_sem, Nat.reduceSub, reduceIte, Nat.reduceEqDiff, Nat.reduceLT, Nat.reduceMul, Nat.reduceAdd, Nat.reduceBEq, Nat.reduceLeDiff, Int.reduceLT, Int.reduceLE, Int.reduceNeg, Int.reduceBEq, Int.reduceBNe, Int.reduceToNat])
    | (refine AV.ret ?_; (try simp only [go_sem, Nat.reduceSub, reduceIte, Nat.reduceEqDiff, Nat.reduceLT, Nat.reduceMul, Nat.reduceAdd, Nat.reduceBEq, Nat.reduceLeDiff, Int.reduceLT, Int.reduceLE, Int.reduceNeg, Int.reduceBEq, Int.reduceBNe, Int.reduceToNat]); first | refine atEnd_t (by simp only [go_sem, Nat.reduceSub, reduceIte, Nat.reduceEqDiff, Nat.reduceLT, Nat.reduceMul, Nat.reduceAdd, Nat.reduceBEq, Nat.reduceLeDiff, Int.reduceLT, Int.reduceLE, Int.reduceNeg, Int.reduceBEq, Int.reduceBNe, Int.reduceToNat] <;> rfl) ?_ (by first | (simp [rxT]; done) | exact leftT_tup _) | refine atEnd_c (by simp only [go_sem, Nat.reduceSub, reduceIte, Nat.reduceEqDiff, Nat.reduceLT, Nat.reduceMul, Nat.reduceAdd, Nat.reduceBEq, Nat.reduceLeDiff, Int.reduceLT, Int.reduceLE, Int.reduceNeg, Int.reduceBEq, Int.reduceBNe, Int.reduceToNat] <;> rfl) ?_ (by first | (simp [rxT]; done) | exact leftT_tup _) | refine atEnd_ct (by simp only [go_sem, Nat.reduceSub, reduceIte, Nat.reduceEqDiff, Nat.reduceLT, Nat.reduceMul, Nat.reduceAdd, Nat.reduceBEq, Nat.reduceLeDiff, Int.reduceLT, Int.reduceLE, Int.reduceNeg, Int.reduceBEq, Int.reduceBNe, Int.reduceToNat] <;> rfl) ?_ (by first | (simp; done) | exact leftT_tup _) (by simp only [go_sem, Nat.reduceSub, reduceIte, Nat.reduceEqDiff, Nat.reduceLT, Nat.reduceMul, Nat.reduceAdd, Nat.reduceBEq, Nat.reduceLeDiff, Int.reduceLT, Int.reduceLE, Int.reduceNeg, Int.reduceBEq, Int.reduceBNe, Int.reduceToNat] <;> rfl) ?_ (by simp) | refine atEnd_o (by simp only [go_sem, Nat.reduceSub, reduceIte, Nat.reduceEqDiff, Nat.reduceLT, Nat.reduceMul, Nat.reduceAdd, Nat.reduceBEq, Nat.reduceLeDiff, Int.reduceLT, Int.reduceLE, Int.reduceNeg, Int.reduceBEq, Int.reduceBNe, Int.reduceToNat] <;> rfl) ?_)
    | (refine And.intro ?_ ?_)
    | (with_reducible intro _)
  all_goals try first | exact True.intro | omega | exact ⟨_, _, rfl⟩ | exact allSolid_pcs _ | exact allSolid_one _ | exact allSolid_bool _ | rfl
  refine AV.loopK [0, 1, 5, 6] (by simp only [hN]; decide) (n := n + 1) (or81A n f g) ?_ ⟨0, fun _ _ => false, by omega, by simp, by simp only [go_sem, Nat.reduceSub, reduceIte, Nat.reduceEqDiff, Nat.reduceLT, Nat.reduceMul, Nat.reduceAdd, Nat.reduceBEq, Nat.reduceLeDiff, Int.reduceLT, Int.reduceLE, Int.reduceNeg, Int.reduceBEq, Int.reduceBNe, Int.reduceToNat] <;> rfl⟩
  rintro m σ ⟨i, h, hi, hh, rfl⟩
  repeat' first
    | refine AV.seq ?_
    | refine AV.block ?_
    | ((first | refine AV.reg ?_ | refine AV.regD mixed ?_); simp only [hN, c81R0, c81R1, c81R2, c81R3, c81R5, c81R6, c81R8, c81R7, c81R4, c81R9, List.length_map, matT, idxs_len, go_sem, Nat.reduceSub, reduceIte, Nat.reduceEqDiff, Nat.reduceLT, Nat.reduceMul, Nat.reduceAdd, Nat.reduceBEq, Nat.reduceLeDiff, Int.reduceLT, Int.reduceLE, Int.reduceNeg, Int.reduceBEq, Int.reduceBNe, Int.reduceToNat]; repeat (simp (disch := omega) only [wrap_small, getD_map_lt, getD_range]; try simp only [go_sem, Nat.reduceSub, reduceIte, Nat.reduceEqDiff, Nat.reduceLT, Nat.reduceMul, Nat.reduceAdd, Nat.reduceBEq, Nat.reduceLeDiff, Int.reduceLT, Int.reduceLE, Int.reduceNeg, Int.reduceBEq, Int.reduceBNe, Int.reduceToNat, List.length_map, matT, idxs_len]))
    | (refine AV.cond ?_ ?_ (fun hc => ?_) (fun hc => ?_) <;> (try simp only [go_sem, Nat.reduceSub, reduceIte, Nat.reduceEqDiff, Nat.reduceLT, Nat.reduceMul, Nat.reduceAdd, Nat.reduceBEq, Nat.reduceLeDiff, Int.reduceLT, Int.reduceLE, Int.reduceNeg, Int.reduceBEq, Int.reduceBNe, Int.reduceToNat, beq_iff_eq, beq_eq_false_iff_ne] at hc) <;> (try simp only [go_sem, Nat.reduceSub, reduceIte, Nat.reduceEqDiff, Nat.reduceLT, Nat.reduceMul, Nat.reduceAdd, Nat.reduceBEq, Nat.reduceLeDiff, Int.reduceLT, Int.reduceLE, Int.reduceNeg, Int.reduceBEq, Int.reduceBNe, Int.reduceToNat]))
    | ((first | refine AV.skip ?_ | refine AV.exit ?_); simp only [go_sem, Nat.reduceSub, reduceIte, Nat.reduceEqDiff, Nat.reduceLT, Nat.reduceMul, Nat.reduceAdd, Nat.reduceBEq, Nat.reduceLeDiff, Int.reduceLT, Int.reduceLE, Int.reduceNeg, Int.reduceBEq, Int.reduceBNe, Int.reduceToNat])
    | (refine AV.ret ?_; (try simp only [go_sem, Nat.reduceSub, reduceIte, Nat.reduceEqDiff, Nat.reduceLT, Nat.reduceMul, Nat.reduceAdd, Nat.reduceBEq, Nat.reduceLeDiff, Int.reduceLT, Int.reduceLE, Int.reduceNeg, Int.reduceBEq, Int.reduceBNe, Int.reduceToNat]); first | refine atEnd_t (by simp only [go_sem, Nat.reduceSub, reduceIte, Nat.reduceEqDiff, Nat.reduceLT, Nat.reduceMul, Nat.reduceAdd, Nat.reduceBEq, Nat.reduceLeDiff, Int.reduceLT, Int.reduceLE, Int.reduceNeg, Int.reduceBEq, Int.reduceBNe, Int.reduceToNat] <;> rfl) ?_ (by first | (simp [rxT]; done) | exact leftT_tup _) | refine atEnd_c (by simp only [go_sem, Nat.reduceSub, reduceIte, Nat.reduceEqDiff, Nat.reduceLT, Nat.reduceMul, Nat.reduceAdd, Nat.reduceBEq, Nat.reduceLeDiff, Int.reduceLT, Int.reduceLE, Int.reduceNeg, Int.reduceBEq, Int.reduceBNe, Int.reduceToNat] <;> rfl) ?_ (by first | (simp [rxT]; done) | exact leftT_tup _) | refine atEnd_ct (by simp only [go_sem, Nat.reduceSub, reduceIte, Nat.reduceEqDiff, Nat.reduceLT, Nat.reduceMul, Nat.reduceAdd, Nat.reduceBEq, Nat.reduceLeDiff, Int.reduceLT, Int.reduceLE, Int.reduceNeg, Int.reduceBEq, Int.reduceBNe, Int.reduceToNat] <;> rfl) ?_ (by first | (simp; done) | exact leftT_tup _) (by simp only [go_sem, Nat.reduceSub, reduceIte, Nat.reduceEqDiff, Nat.reduceLT, Nat.reduceMul, Nat.reduceAdd, Nat.reduceBEq, Nat.reduceLeDiff, Int.reduceLT, Int.reduceLE, Int.reduceNeg, Int.reduceBEq, Int.reduceBNe, Int.reduceToNat] <;> rfl) ?_ (by simp) | refine atEnd_o (by simp only [go_sem, Nat.reduceSub, reduceIte, Nat.reduceEqDiff, Nat.reduceLT, Nat.reduceMul, Nat.reduceAdd, Nat.reduceBEq, Nat.reduceLeDiff, Int.reduceLT, Int.reduceLE, Int.reduceNeg, Int.reduceBEq, Int.reduceBNe, Int.reduceToNat] <;> rfl) ?_)
    | (refine And.intro ?_ ?_)
    | (with_reducible intro _)
  all_goals try first | exact True.intro | omega | exact ⟨_, _, rfl⟩ | exact allSolid_pcs _ | exact allSolid_one _ | exact allSolid_bool _ | rfl
  · refine AV.loopK [0, 1, 5, 6, 7] (by simp only [hN]; decide) (n := m) (or81B n f g i) ?_ ⟨i, h, by omega, by omega, ?_, by simp only [go_sem, Nat.reduceSub, reduceIte, Nat.reduceEqDiff, Nat.reduceLT, Nat.reduceMul, Nat.reduceAdd, Nat.reduceBEq, Nat.reduceLeDiff, Int.reduceLT, Int.reduceLE, Int.reduceNeg, Int.reduceBEq, Int.reduceBNe, Int.reduceToNat] <;> rfl⟩
    · clear hh h
      rintro m' σ ⟨j, h, hj, hij, hh, rfl⟩
      repeat' first
        | refine AV.seq ?_
        | refine AV.block ?_
        | ((first | refine AV.reg ?_ | refine AV.regD mixed ?_); simp only [hN, c81R0, c81R1, c81R2, c81R3, c81R5, c81R6, c81R8, c81R7, c81R4, c81R9, List.length_map, matT, brow, idxs_len, go_sem, Nat.reduceSub, reduceIte, Nat.reduceEqDiff, Nat.reduceLT, Nat.reduceMul, Nat.reduceAdd, Nat.reduceBEq, Nat.reduceLeDiff, Int.reduceLT, Int.reduceLE, Int.reduceNeg, Int.reduceBEq, Int.reduceBNe, Int.reduceToNat]; repeat (simp (disch := omega) only [wrap_small, getD_map_lt, getD_range]; try simp only [go_sem, Nat.reduceSub, reduceIte, Nat.reduceEqDiff, Nat.reduceLT, Nat.reduceMul, Nat.reduceAdd, Nat.reduceBEq, Nat.reduceLeDiff, Int.reduceLT, Int.reduceLE, Int.reduceNeg, Int.reduceBEq, Int.reduceBNe, Int.reduceToNat, List.length_map, matT, brow, idxs_len]))
        | (refine AV.cond ?_ ?_ (fun hc => ?_) (fun hc => ?_) <;> (try simp only [go_sem, Nat.reduceSub, reduceIte, Nat.reduceEqDiff, Nat.reduceLT, Nat.reduceMul, Nat.reduceAdd, Nat.reduceBEq, Nat.reduceLeDiff, Int.reduceLT, Int.reduceLE, Int.reduceNeg, Int.reduceBEq, Int.reduceBNe, Int.reduceToNat, beq_iff_eq, beq_eq_false_iff_ne] at hc) <;> (try simp only [go_sem, Nat.reduceSub, reduceIte, Nat.reduceEqDiff, Nat.reduceLT, Nat.reduceMul, Nat.reduceAdd, Nat.reduceBEq, Nat.reduceLeDiff, Int.reduceLT, Int.reduceLE, Int.reduceNeg, Int.reduceBEq, Int.reduceBNe, Int.reduceToNat]))
        | ((first | refine AV.skip ?_ | refine AV.exit ?_); simp only [go_sem, Nat.reduceSub, reduceIte, Nat.reduceEqDiff, Nat.reduceLT, Nat.reduceMul, Nat.reduceAdd, Nat.reduceBEq, Nat.reduceLeDiff, Int.reduceLT, Int.reduceLE, Int.reduceNeg, Int.reduceBEq, Int.reduceBNe, Int.reduceToNat])
        | (refine AV.ret ?_; (try simp only [go_sem, Nat.reduceSub, reduceIte, Nat.reduceEqDiff, Nat.reduceLT, Nat.reduceMul, Nat.reduceAdd, Nat.reduceBEq, Nat.reduceLeDiff, Int.reduceLT, Int.reduceLE, Int.reduceNeg, Int.reduceBEq, Int.reduceBNe, Int.reduceToNat]); first | refine atEnd_t (by simp only [go_sem, Nat.reduceSub, reduceIte, Nat.reduceEqDiff, Nat.reduceLT, Nat.reduceMul, Nat.reduceAdd, Nat.reduceBEq, Nat.reduceLeDiff, Int.reduceLT, Int.reduceLE, Int.reduceNeg, Int.reduceBEq, Int.reduceBNe, Int.reduceToNat] <;> rfl) ?_ (by first | (simp [rxT]; done) | exact leftT_tup _) | refine atEnd_c (by simp only [go_sem, Nat.reduceSub, reduceIte, Nat.reduceEqDiff, Nat.reduceLT, Nat.reduceMul, Nat.reduceAdd, Nat.reduceBEq, Nat.reduceLeDiff, Int.reduceLT, Int.reduceLE, Int.reduceNeg, Int.reduceBEq, Int.reduceBNe, Int.reduceToNat] <;> rfl) ?_ (by first | (simp [rxT]; done) | exact leftT_tup _) | refine atEnd_ct (by simp only [go_sem, Nat.reduceSub, reduceIte, Nat.reduceEqDiff, Nat.reduceLT, Nat.reduceMul, Nat.reduceAdd, Nat.reduceBEq, Nat.reduceLeDiff, Int.reduceLT, Int.reduceLE, Int.reduceNeg, Int.reduceBEq, Int.reduceBNe, Int.reduceToNat] <;> rfl) ?_ (by first | (simp; done) | exact leftT_tup _) (by simp only [go_sem, Nat.reduceSub, reduceIte, Nat.reduceEqDiff, Nat.reduceLT, Nat.reduceMul, Nat.reduceAdd, Nat.reduceBEq, Nat.reduceLeDiff, Int.reduceLT, Int.reduceLE, Int.reduceNeg, Int.reduceBEq, Int.reduceBNe, Int.reduceToNat] <;> rfl) ?_ (by simp) | refine atEnd_o (by simp only [go_sem, Nat.reduceSub, reduceIte, Nat.reduceEqDiff, Nat.reduceLT, Nat.reduceMul, Nat.reduceAdd, Nat.reduceBEq, Nat.reduceLeDiff, Int.reduceLT, Int.reduceLE, Int.reduceNeg, Int.reduceBEq, Int.reduceBNe, Int.reduceToNat] <;> rfl) ?_)
        | (refine And.intro ?_ ?_)
        | (with_reducible intro _)
      all_goals try first | exact True.intro | omega | exact ⟨_, _, rfl⟩ | exact allSolid_pcs _ | exact allSolid_one _ | exact allSolid_bool _ | rfl
      · refine ⟨m' - 1, by omega, j + 1, up2 h i j (bif f i j then true else g i j), by omega, by omega, ?_, by rw [mat_put]; rfl⟩
        intro a b ha hb
        have e := hh a b ha hb
        unfold up2
        split
        · rename_i e1
          obtain ⟨rfl, rfl⟩ := e1
          cases hf : f a b <;> simp [hf, hij]
        · rw [e]
          have e2 : (a < i ∨ a = i ∧ b < j) ↔ (a < i ∨ a = i ∧ b < j + 1) := by omega
          rw [e2]
      · refine ⟨m - 1, by omega, i + 1, h, by omega, ?_, rfl⟩
        intro a b ha hb
        rw [hh a b ha hb]
        have e2 : (a < i ∨ a = i ∧ b < j) ↔ a < i + 1 := by omega
        rw [e2]
    · intro a b ha hb
      rw [hh a b ha hb]
      constructor
      · rintro ⟨h1, h2, h3⟩; exact ⟨h1, h2, .inl h3⟩
      · rintro ⟨h1, h2, h3⟩; exact ⟨h1, h2, by omega⟩
  · refine matT_congr n h r (fun a b ha hb => bool_ext ?_)
    rw [hh a b ha hb, hr a b ha hb]
    constructor
    · rintro ⟨h1, h2, _⟩; exact ⟨h1, h2⟩
    · rintro ⟨h1, h2⟩; exact ⟨h1, h2, by omega⟩
/-! ### then -/
def thenP (f g : Nat → Nat → Bool) (a b : Nat) : Prop := ∃ k, a ≤ k ∧ k ≤ b ∧ f a k = true ∧ g k b = true
/-- As far as place k. -/
def thenK (f g : Nat → Nat → Bool) (k a b : Nat) : Prop := ∃ k', a ≤ k' ∧ k' < k ∧ k' ≤ b ∧ f a k' = true ∧ g k' b = true
def then80A (n : Nat) (f g : Nat → Nat → Bool) (m : Nat) (σ : Env) : Prop := ∃ (i : Nat) (h : Nat → Nat → Bool), i + m = n + 1 ∧ (∀ a b, a ≤ n → b ≤ n → (h a b = true ↔ a < i ∧ thenP f g a b)) ∧
  σ = [(0, .t (matT n f)), (1, .t (matT n g)), (5, .own (.sl [.sl [.sh]]) (matT n h)), (6, .t (.int .i64 (i : Int)))]
def then80B (n : Nat) (f g : Nat → Nat → Bool) (i m : Nat) (σ : Env) : Prop := ∃ (k : Nat) (h : Nat → Nat → Bool), k + m = n + 1 ∧ i ≤ k ∧ (∀ a b, a ≤ n → b ≤ n → (h a b = true ↔ a < i ∧ thenP f g a b ∨ a = i ∧ thenK f g k a b)) ∧
  σ = [(0, .t (matT n f)), (1, .t (matT n g)), (5, .own (.sl [.sl [.sh]]) (matT n h)), (6, .t (.int .i64 (i : Int))), (7, .t (.int .i64 (k : Int)))]
def then80C (n : Nat) (f g : Nat → Nat → Bool) (i k m : Nat) (σ : Env) : Prop := ∃ (j : Nat) (h : Nat → Nat → Bool), j + m = n + 1 ∧ k ≤ j ∧ (∀ a b, a ≤ n → b ≤ n → (h a b = true ↔ (a < i ∧ thenP f g a b ∨ a = i ∧ thenK f g k a b) ∨ a = i ∧ f i k = true ∧ k ≤ b ∧ b < j ∧ g k b = true)) ∧
  σ = [(0, .t (matT n f)), (1, .t (matT n g)), (5, .own (.sl [.sl [.sh]]) (matT n h)), (6, .t (.int .i64 (i : Int))), (7, .t (.int .i64 (k : Int))), (8, .t (.int .i64 (j : Int)))]
theorem thenK_step (f g : Nat → Nat → Bool) (k a b : Nat) (h : a ≤ k) : thenK f g (k + 1) a b ↔ thenK f g k a b ∨ f a k = true ∧ k ≤ b ∧ g k b = true := by
  constructor
  · rintro ⟨k', h1, h2, h3, h4, h5⟩
    by_cases e : k' = k
    · subst e; exact .inr ⟨h4, h3, h5⟩
    · exact .inl ⟨k', h1, by omega, h3, h4, h5⟩
  · rintro (⟨k', h1, h2, h3, h4, h5⟩ | ⟨h1, h2, h3⟩)
    · exact ⟨k', h1, by omega, h3, h4, h5⟩
    · exact ⟨k, h, by omega, h2, h1, h3⟩
theorem thenK_none (f g : Nat → Nat → Bool) (a b : Nat) : ¬ thenK f g a a b := by
  rintro ⟨k', h1, h2, _⟩; omega
theorem thenK_all (n : Nat) (f g : Nat → Nat → Bool) (a b : Nat) (hb : b ≤ n) : thenK f g (n + 1) a b ↔ thenP f g a b := by
  constructor
  · rintro ⟨k', h1, h2, h3, h4, h5⟩; exact ⟨k', h1, h3, h4, h5⟩
  · rintro ⟨k', h1, h3, h4, h5⟩; exact ⟨k', h1, by omega, h3, h4, h5⟩
theorem then80_spec (n : Nat) (hn : n ≤ 1000000) (f g r : Nat → Nat → Bool) (hr : ∀ a b, a ≤ n → b ≤ n → (r a b = true ↔ thenP f g a b)) :
    ACalls Try.prog 80 [matT n f, matT n g] (.sl [.sl [.sh]]) (matT n r) := by
  refine ACalls.of n80 rfl (m80 _ rfl) q80 (by simp only [List.length_cons, List.length_nil]; decide) (fun C hC => ?_)
  have hN : C.N = 65 := hC
  have hw : IntKind.i64.wrap (((n + 1 : Nat) : Int) - 1) = (n : Int) := by rw [wrap_small] <;> omega
  repeat' first
    | refine AV.seq ?_
    | refine AV.block ?_
    | ((first | refine AV.reg ?_ | refine AV.regD mixed ?_); simp only [hN, c80R0, c80R1, c80R2, c80R3, c80R5, c80R6, c80R8, c80R9, c80R11, c80R10, c80R7, c80R4, c80R12, List.length_map, matT, idxs_len, hw, go_sem, Nat.reduceSub, reduceIte, Nat.reduceEqDiff, Nat.reduceLT, Nat.reduceMul, Nat.reduceAdd, Nat.reduceBEq, Nat.reduceLeDiff, Int.reduceLT, Int.reduceLE, Int.reduceNeg, Int.reduceBEq, Int.reduceBNe, Int.reduceToNat]; repeat (simp (disch := omega) only [wrap_small, getD_map_lt, getD_range]; try simp only [go_sem, Nat.reduceSub, reduceIte, Nat.reduceEqDiff, Nat.reduceLT, Nat.reduceMul, Nat.reduceAdd, Nat.reduceBEq, Nat.reduceLeDiff, Int.reduceLT, Int.reduceLE, Int.reduceNeg, Int.reduceBEq, Int.reduceBNe, Int.reduceToNat, List.length_map, matT, idxs_len, hw]))
    | (refine AV.cond ?_ ?_ (fun hc => ?_) (fun hc => ?_) <;> (try simp only [go_sem, Nat.reduceSub, reduceIte, Nat.reduceEqDiff, Nat.reduceLT, Nat.reduceMul, Nat.reduceAdd, Nat.reduceBEq, Nat.reduceLeDiff, Int.reduceLT, Int.reduceLE, Int.reduceNeg, Int.reduceBEq, Int.reduceBNe, Int.reduceToNat, beq_iff_eq, beq_eq_false_iff_ne] at hc) <;> (try simp only [go_sem, Nat.reduceSub, reduceIte, Nat.reduceEqDiff, Nat.reduceLT, Nat.reduceMul, Nat.reduceAdd, Nat.reduceBEq, Nat.reduceLeDiff, Int.reduceLT, Int.reduceLE, Int.reduceNeg, Int.reduceBEq, Int.reduceBNe, Int.reduceToNat]))
    | ((first | refine AV.skip ?_ | refine AV.exit ?_); simp only [go_sem, Nat.reduceSub, reduceIte, Nat.reduceEqDiff, Nat.reduceLT, Nat.reduceMul, Nat.reduceAdd, Nat.reduceBEq, Nat.reduceLeDiff, Int.reduceLT, Int.reduceLE, Int.reduceNeg, Int.reduceBEq, Int.reduceBNe, Int.reduceToNat])
    | ((first | refine ⟨_, _, none79_spec n hn, rfl, ?_⟩ | refine ⟨_, _, none79_spec n hn, ?_⟩ | refine ⟨_, _, fun _ => none79_spec n hn, rfl, fun _ => trivial, ?_⟩); (try simp only [go_sem, Nat.reduceSub, reduceIte, Nat.reduceEqDiff, Nat.reduceLT, Nat.reduceMul, Nat.reduceAdd, Nat.reduceBEq, Nat.reduceLeDiff, Int.reduceLT, Int.reduceLE, Int.reduceNeg, Int.reduceBEq, Int.reduceBNe, Int.reduceToNat, List.length_map, matT, idxs_len, hw]); repeat (simp (disch := omega) only [wrap_small, getD_map_lt, getD_range]; try simp only [go_sem, Nat.reduceSub, reduceIte, Nat.reduceEqDiff, Nat.reduceLT, Nat.reduceMul, Nat.reduceAdd, Nat.reduceBEq, Nat.reduceLeDiff, Int.reduceLT, Int.reduceLE, Int.reduceNeg, Int.reduceBEq, Int.reduceBNe, Int.reduceToNat, List.length_map, matT, idxs_len, hw]))
    | ((first | refine ⟨.sh, .bool false, rfl, trivial, ?_⟩ | refine ⟨.sh, .bool false, rfl, ?_⟩); try simp only [go_sem, Nat.reduceSub, reduceIte, Nat.reduceEqDiff, Nat.reduceLT, Nat.reduceMul, Nat.reduceAdd, Nat.reduceBEq, Nat.reduceLeDiff, Int.reduceLT, Int.reduceLE, Int.reduceNeg, Int.reduceBEq, Int.reduceBNe, Int.reduceToNat])
    | (refine AV.ret ?_; (try simp only [go_sem, Nat.reduceSub, reduceIte, Nat.reduceEqDiff, Nat.reduceLT, Nat.reduceMul, Nat.reduceAdd, Nat.reduceBEq, Nat.reduceLeDiff, Int.reduceLT, Int.reduceLE, Int.reduceNeg, Int.reduceBEq, Int.reduceBNe, Int.reduceToNat]); first | refine atEnd_t (by simp only [go_sem, Nat.reduceSub, reduceIte, Nat.reduceEqDiff, Nat.reduceLT, Nat.reduceMul, Nat.reduceAdd, Nat.reduceBEq, Nat.reduceLeDiff, Int.reduceLT, Int.reduceLE, Int.reduceNeg, Int.reduceBEq, Int.reduceBNe, Int.reduceToNat] <;> rfl) ?_ (by first | (simp [rxT]; done) | exact leftT_tup _) | refine atEnd_c (by simp only [go_sem, Nat.reduceSub, reduceIte, Nat.reduceEqDiff, Nat.reduceLT, Nat.reduceMul, Nat.reduceAdd, Nat.reduceBEq, Nat.reduceLeDiff, Int.reduceLT, Int.reduceLE, Int.reduceNeg, Int.reduceBEq, Int.reduceBNe, Int.reduceToNat] <;> rfl) ?_ (by first | (simp [rxT]; done) | exact leftT_tup _) | refine atEnd_ct (by simp only [go_sem, Nat.reduceSub, reduceIte, Nat.reduceEqDiff, Nat.reduceLT, Nat.reduceMul, Nat.reduceAdd, Nat.reduceBEq, Nat.reduceLeDiff, Int.reduceLT, Int.reduceLE, Int.reduceNeg, Int.reduceBEq, Int.reduceBNe, Int.reduceToNat] <;> rfl) ?_ (by first | (simp; done) | exact leftT_tup _) (by simp only [go_sem, Nat.reduceSub, reduceIte, Nat.reduceEqDiff, Nat.reduceLT, Nat.reduceMul, Nat.reduceAdd, Nat.reduceBEq, Nat.reduceLeDiff, Int.reduceLT, Int.reduceLE, Int.reduceNeg, Int.reduceBEq, Int.reduceBNe, Int.reduceToNat] <;> rfl) ?_ (by simp) | refine atEnd_o (by simp only [go_sem, Nat.reduceSub, reduceIte, Nat.reduceEqDiff, Nat.reduceLT, Nat.reduceMul, Nat.reduceAdd, Nat.reduceBEq, Nat.reduceLeDiff, Int.reduceLT, Int.reduceLE, Int.reduceNeg, Int.reduceBEq, Int.reduceBNe, Int.reduceToNat] <;> rfl) ?_)
    | (refine And.intro ?_ ?_)
    | (with_reducible intro _)
  all_goals try first | exact True.intro | omega | exact ⟨_, _, rfl⟩ | exact allSolid_pcs _ | exact allSolid_one _ | exact allSolid_bool _ | rfl
  refine AV.loopK [0, 1, 5, 6] (by simp only [hN]; decide) (n := n + 1) (then80A n f g) ?_ ⟨0, fun _ _ => false, by omega, by simp, by simp only [go_sem, Nat.reduceSub, reduceIte, Nat.reduceEqDiff, Nat.reduceLT, Nat.reduceMul, Nat.reduceAdd, Nat.reduceBEq, Nat.reduceLeDiff, Int.reduceLT, Int.reduceLE, Int.reduceNeg, Int.reduceBEq, Int.reduceBNe, Int.reduceToNat] <;> rfl⟩
  rintro m σ ⟨i, h, hi, hh, rfl⟩
  repeat' first
    | refine AV.seq ?_
    | refine AV.block ?_
    | ((first | refine AV.reg ?_ | refine AV.regD mixed ?_); simp only [hN, c80R0, c80R1, c80R2, c80R3, c80R5, c80R6, c80R8, c80R9, c80R11, c80R10, c80R7, c80R4, c80R12, List.length_map, matT, idxs_len, go_sem, Nat.reduceSub, reduceIte, Nat.reduceEqDiff, Nat.reduceLT, Nat.reduceMul, Nat.reduceAdd, Nat.reduceBEq, Nat.reduceLeDiff, Int.reduceLT, Int.reduceLE, Int.reduceNeg, Int.reduceBEq, Int.reduceBNe, Int.reduceToNat]; repeat (simp (disch := omega) only [wrap_small, getD_map_lt, getD_range]; try simp only [go_sem, Nat.reduceSub, reduceIte, Nat.reduceEqDiff, Nat.reduceLT, Nat.reduceMul, Nat.reduceAdd, Nat.reduceBEq, Nat.reduceLeDiff, Int.reduceLT, Int.reduceLE, Int.reduceNeg, Int.reduceBEq, Int.reduceBNe, Int.reduceToNat, List.length_map, matT, idxs_len]))
    | (refine AV.cond ?_ ?_ (fun hc => ?_) (fun hc => ?_) <;> (try simp only [go_sem, Nat.reduceSub, reduceIte, Nat.reduceEqDiff, Nat.reduceLT, Nat.reduceMul, Nat.reduceAdd, Nat.reduceBEq, Nat.reduceLeDiff, Int.reduceLT, Int.reduceLE, Int.reduceNeg, Int.reduceBEq, Int.reduceBNe, Int.reduceToNat, beq_iff_eq, beq_eq_false_iff_ne] at hc) <;> (try simp only [go_sem, Nat.reduceSub, reduceIte, Nat.reduceEqDiff, Nat.reduceLT, Nat.reduceMul, Nat.reduceAdd, Nat.reduceBEq, Nat.reduceLeDiff, Int.reduceLT, Int.reduceLE, Int.reduceNeg, Int.reduceBEq, Int.reduceBNe, Int.reduceToNat]))
    | ((first | refine AV.skip ?_ | refine AV.exit ?_); simp only [go_sem, Nat.reduceSub, reduceIte, Nat.reduceEqDiff, Nat.reduceLT, Nat.reduceMul, Nat.reduceAdd, Nat.reduceBEq, Nat.reduceLeDiff, Int.reduceLT, Int.reduceLE, Int.reduceNeg, Int.reduceBEq, Int.reduceBNe, Int.reduceToNat])
    | (refine AV.ret ?_; (try simp only [go_sem, Nat.reduceSub, reduceIte, Nat.reduceEqDiff, Nat.reduceLT, Nat.reduceMul, Nat.reduceAdd, Nat.reduceBEq, Nat.reduceLeDiff, Int.reduceLT, Int.reduceLE, Int.reduceNeg, Int.reduceBEq, Int.reduceBNe, Int.reduceToNat]); first | refine atEnd_t (by simp only [go_sem, Nat.reduceSub, reduceIte, Nat.reduceEqDiff, Nat.reduceLT, Nat.reduceMul, Nat.reduceAdd, Nat.reduceBEq, Nat.reduceLeDiff, Int.reduceLT, Int.reduceLE, Int.reduceNeg, Int.reduceBEq, Int.reduceBNe, Int.reduceToNat] <;> rfl) ?_ (by first | (simp [rxT]; done) | exact leftT_tup _) | refine atEnd_c (by simp only [go_sem, Nat.reduceSub, reduceIte, Nat.reduceEqDiff, Nat.reduceLT, Nat.reduceMul, Nat.reduceAdd, Nat.reduceBEq, Nat.reduceLeDiff, Int.reduceLT, Int.reduceLE, Int.reduceNeg, Int.reduceBEq, Int.reduceBNe, Int.reduceToNat] <;> rfl) ?_ (by first | (simp [rxT]; done) | exact leftT_tup _) | refine atEnd_ct (by simp only [go_sem, Nat.reduceSub, reduceIte, Nat.reduceEqDiff, Nat.reduceLT, Nat.reduceMul, Nat.reduceAdd, Nat.reduceBEq, Nat.reduceLeDiff, Int.reduceLT, Int.reduceLE, Int.reduceNeg, Int.reduceBEq, Int.reduceBNe, Int.reduceToNat] <;> rfl) ?_ (by first | (simp; done) | exact leftT_tup _) (by simp only [go_sem, Nat.reduceSub, reduceIte, Nat.reduceEqDiff, Nat.reduceLT, Nat.reduceMul, Nat.reduceAdd, Nat.reduceBEq, Nat.reduceLeDiff, Int.reduceLT, Int.reduceLE, Int.reduceNeg, Int.reduceBEq, Int.reduceBNe, Int.reduceToNat] <;> rfl) ?_ (by simp) | refine atEnd_o (by simp only [go_sem, Nat.reduceSub, reduceIte, Nat.reduceEqDiff, Nat.reduceLT, Nat.reduceMul, Nat.reduceAdd, Nat.reduceBEq, Nat.reduceLeDiff, Int.reduceLT, Int.reduceLE, Int.reduceNeg, Int.reduceBEq, Int.reduceBNe, Int.reduceToNat] <;> rfl) ?_)
    | (refine And.intro ?_ ?_)
    | (with_reducible intro _)
  all_goals try first | exact True.intro | omega | exact ⟨_, _, rfl⟩ | exact allSolid_pcs _ | exact allSolid_one _ | exact allSolid_bool _ | rfl
  · refine AV.loopK [0, 1, 5, 6, 7] (by simp only [hN]; decide) (n := m) (then80B n f g i) ?_ ⟨i, h, by omega, by omega, ?_, by simp only [go_sem, Nat.reduceSub, reduceIte, Nat.reduceEqDiff, Nat.reduceLT, Nat.reduceMul, Nat.reduceAdd, Nat.reduceBEq, Nat.reduceLeDiff, Int.reduceLT, Int.reduceLE, Int.reduceNeg, Int.reduceBEq, Int.reduceBNe, Int.reduceToNat] <;> rfl⟩
    · clear hh h
      rintro m' σ ⟨k, h, hk, hik, hh, rfl⟩
      repeat' first
        | refine AV.seq ?_
        | refine AV.block ?_
        | ((first | refine AV.reg ?_ | refine AV.regD mixed ?_); simp only [hN, c80R0, c80R1, c80R2, c80R3, c80R5, c80R6, c80R8, c80R9, c80R11, c80R10, c80R7, c80R4, c80R12, List.length_map, matT, idxs_len, go_sem, Nat.reduceSub, reduceIte, Nat.reduceEqDiff, Nat.reduceLT, Nat.reduceMul, Nat.reduceAdd, Nat.reduceBEq, Nat.reduceLeDiff, Int.reduceLT, Int.reduceLE, Int.reduceNeg, Int.reduceBEq, Int.reduceBNe, Int.reduceToNat]; repeat (simp (disch := omega) only [wrap_small, getD_map_lt, getD_range]; try simp only [go_sem, Nat.reduceSub, reduceIte, Nat.reduceEqDiff, Nat.reduceLT, Nat.reduceMul, Nat.reduceAdd, Nat.reduceBEq, Nat.reduceLeDiff, Int.reduceLT, Int.reduceLE, Int.reduceNeg, Int.reduceBEq, Int.reduceBNe, Int.reduceToNat, List.length_map, matT, idxs_len]))
        | (refine AV.cond ?_ ?_ (fun hc => ?_) (fun hc => ?_) <;> (try simp only [go_sem, Nat.reduceSub, reduceIte, Nat.reduceEqDiff, Nat.reduceLT, Nat.reduceMul, Nat.reduceAdd, Nat.reduceBEq, Nat.reduceLeDiff, Int.reduceLT, Int.reduceLE, Int.reduceNeg, Int.reduceBEq, Int.reduceBNe, Int.reduceToNat, beq_iff_eq, beq_eq_false_iff_ne] at hc) <;> (try simp only [go_sem, Nat.reduceSub, reduceIte, Nat.reduceEqDiff, Nat.reduceLT, Nat.reduceMul, Nat.reduceAdd, Nat.reduceBEq, Nat.reduceLeDiff, Int.reduceLT, Int.reduceLE, Int.reduceNeg, Int.reduceBEq, Int.reduceBNe, Int.reduceToNat]))
        | ((first | refine AV.skip ?_ | refine AV.exit ?_); simp only [go_sem, Nat.reduceSub, reduceIte, Nat.reduceEqDiff, Nat.reduceLT, Nat.reduceMul, Nat.reduceAdd, Nat.reduceBEq, Nat.reduceLeDiff, Int.reduceLT, Int.reduceLE, Int.reduceNeg, Int.reduceBEq, Int.reduceBNe, Int.reduceToNat])
        | (refine AV.ret ?_; (try simp only [go_sem, Nat.reduceSub, reduceIte, Nat.reduceEqDiff, Nat.reduceLT, Nat.reduceMul, Nat.reduceAdd, Nat.reduceBEq, Nat.reduceLeDiff, Int.reduceLT, Int.reduceLE, Int.reduceNeg, Int.reduceBEq, Int.reduceBNe, Int.reduceToNat]); first | refine atEnd_t (by simp only [go_sem, Nat.reduceSub, reduceIte, Nat.reduceEqDiff, Nat.reduceLT, Nat.reduceMul, Nat.reduceAdd, Nat.reduceBEq, Nat.reduceLeDiff, Int.reduceLT, Int.reduceLE, Int.reduceNeg, Int.reduceBEq, Int.reduceBNe, Int.reduceToNat] <;> rfl) ?_ (by first | (simp [rxT]; done) | exact leftT_tup _) | refine atEnd_c (by simp only [go_sem, Nat.reduceSub, reduceIte, Nat.reduceEqDiff, Nat.reduceLT, Nat.reduceMul, Nat.reduceAdd, Nat.reduceBEq, Nat.reduceLeDiff, Int.reduceLT, Int.reduceLE, Int.reduceNeg, Int.reduceBEq, Int.reduceBNe, Int.reduceToNat] <;> rfl) ?_ (by first | (simp [rxT]; done) | exact leftT_tup _) | refine atEnd_ct (by simp only [go_sem, Nat.reduceSub, reduceIte, Nat.reduceEqDiff, Nat.reduceLT, Nat.reduceMul, Nat.reduceAdd, Nat.reduceBEq, Nat.reduceLeDiff, Int.reduceLT, Int.reduceLE, Int.reduceNeg, Int.reduceBEq, Int.reduceBNe, Int.reduceToNat] <;> rfl) ?_ (by first | (simp; done) | exact leftT_tup _) (by simp only [go_sem, Nat.reduceSub, reduceIte, Nat.reduceEqDiff, Nat.reduceLT, Nat.reduceMul, Nat.reduceAdd, Nat.reduceBEq, Nat.reduceLeDiff, Int.reduceLT, Int.reduceLE, Int.reduceNeg, Int.reduceBEq, Int.reduceBNe, Int.reduceToNat] <;> rfl) ?_ (by simp) | refine atEnd_o (by simp only [go_sem, Nat.reduceSub, reduceIte, Nat.reduceEqDiff, Nat.reduceLT, Nat.reduceMul, Nat.reduceAdd, Nat.reduceBEq, Nat.reduceLeDiff, Int.reduceLT, Int.reduceLE, Int.reduceNeg, Int.reduceBEq, Int.reduceBNe, Int.reduceToNat] <;> rfl) ?_)
        | (refine And.intro ?_ ?_)
        | (with_reducible intro _)
      all_goals try first | exact True.intro | omega | exact ⟨_, _, rfl⟩ | exact allSolid_pcs _ | exact allSolid_one _ | exact allSolid_bool _ | rfl
      · refine AV.loopK [0, 1, 5, 6, 7, 8] (by simp only [hN]; decide) (n := m') (then80C n f g i k) ?_ ⟨k, h, by omega, by omega, ?_, by simp only [go_sem, Nat.reduceSub, reduceIte, Nat.reduceEqDiff, Nat.reduceLT, Nat.reduceMul, Nat.reduceAdd, Nat.reduceBEq, Nat.reduceLeDiff, Int.reduceLT, Int.reduceLE, Int.reduceNeg, Int.reduceBEq, Int.reduceBNe, Int.reduceToNat] <;> rfl⟩
        · clear hh h
          rintro m2 σ ⟨j, h, hj, hkj, hh, rfl⟩
          by_cases hj1 : j < n + 1
          · have hjt : ((j : Int) < ((n + 1 : Nat) : Int)) = True := eq_true (by omega)
            repeat' first
              | refine AV.seq ?_
              | refine AV.block ?_
              | ((first | refine AV.reg ?_ | refine AV.regD mixed ?_); simp only [hN, c80R0, c80R1, c80R2, c80R3, c80R5, c80R6, c80R8, c80R9, c80R11, c80R10, c80R7, c80R4, c80R12, List.length_map, matT, brow, idxs_len, hjt, go_sem, Nat.reduceSub, reduceIte, Nat.reduceEqDiff, Nat.reduceLT, Nat.reduceMul, Nat.reduceAdd, Nat.reduceBEq, Nat.reduceLeDiff, Int.reduceLT, Int.reduceLE, Int.reduceNeg, Int.reduceBEq, Int.reduceBNe, Int.reduceToNat]; repeat (simp (disch := omega) only [wrap_small, getD_map_lt, getD_range]; try simp only [go_sem, Nat.reduceSub, reduceIte, Nat.reduceEqDiff, Nat.reduceLT, Nat.reduceMul, Nat.reduceAdd, Nat.reduceBEq, Nat.reduceLeDiff, Int.reduceLT, Int.reduceLE, Int.reduceNeg, Int.reduceBEq, Int.reduceBNe, Int.reduceToNat, List.length_map, matT, brow, idxs_len, hjt]))
              | (refine AV.cond ?_ ?_ (fun hc => ?_) (fun hc => ?_) <;> (try simp only [go_sem, Nat.reduceSub, reduceIte, Nat.reduceEqDiff, Nat.reduceLT, Nat.reduceMul, Nat.reduceAdd, Nat.reduceBEq, Nat.reduceLeDiff, Int.reduceLT, Int.reduceLE, Int.reduceNeg, Int.reduceBEq, Int.reduceBNe, Int.reduceToNat, beq_iff_eq, beq_eq_false_iff_ne] at hc) <;> (try simp only [go_sem, Nat.reduceSub, reduceIte, Nat.reduceEqDiff, Nat.reduceLT, Nat.reduceMul, Nat.reduceAdd, Nat.reduceBEq, Nat.reduceLeDiff, Int.reduceLT, Int.reduceLE, Int.reduceNeg, Int.reduceBEq, Int.reduceBNe, Int.reduceToNat]))
              | ((first | refine AV.skip ?_ | refine AV.exit ?_); simp only [go_sem, Nat.reduceSub, reduceIte, Nat.reduceEqDiff, Nat.reduceLT, Nat.reduceMul, Nat.reduceAdd, Nat.reduceBEq, Nat.reduceLeDiff, Int.reduceLT, Int.reduceLE, Int.reduceNeg, Int.reduceBEq, Int.reduceBNe, Int.reduceToNat])
              | (refine AV.ret ?_; (try simp only [go_sem, Nat.reduceSub, reduceIte, Nat.reduceEqDiff, Nat.reduceLT, Nat.reduceMul, Nat.reduceAdd, Nat.reduceBEq, Nat.reduceLeDiff, Int.reduceLT, Int.reduceLE, Int.reduceNeg, Int.reduceBEq, Int.reduceBNe, Int.reduceToNat]); first | refine atEnd_t (by simp only [go_sem, Nat.reduceSub, reduceIte, Nat.reduceEqDiff, Nat.reduceLT, Nat.reduceMul, Nat.reduceAdd, Nat.reduceBEq, Nat.reduceLeDiff, Int.reduceLT, Int.reduceLE, Int.reduceNeg, Int.reduceBEq, Int.reduceBNe, Int.reduceToNat] <;> rfl) ?_ (by first | (simp [rxT]; done) | exact leftT_tup _) | refine atEnd_c (by simp only [go_sem, Nat.reduceSub, reduceIte, Nat.reduceEqDiff, Nat.reduceLT, Nat.reduceMul, Nat.reduceAdd, Nat.reduceBEq, Nat.reduceLeDiff, Int.reduceLT, Int.reduceLE, Int.reduceNeg, Int.reduceBEq, Int.reduceBNe, Int.reduceToNat] <;> rfl) ?_ (by first | (simp [rxT]; done) | exact leftT_tup _) | refine atEnd_ct (by simp only [go_sem, Nat.reduceSub, reduceIte, Nat.reduceEqDiff, Nat.reduceLT, Nat.reduceMul, Nat.reduceAdd, Nat.reduceBEq, Nat.reduceLeDiff, Int.reduceLT, Int.reduceLE, Int.reduceNeg, Int.reduceBEq, Int.reduceBNe, Int.reduceToNat] <;> rfl) ?_ (by first | (simp; done) | exact leftT_tup _) (by simp only [go_sem, Nat.reduceSub, reduceIte, Nat.reduceEqDiff, Nat.reduceLT, Nat.reduceMul, Nat.reduceAdd, Nat.reduceBEq, Nat.reduceLeDiff, Int.reduceLT, Int.reduceLE, Int.reduceNeg, Int.reduceBEq, Int.reduceBNe, Int.reduceToNat] <;> rfl) ?_ (by simp) | refine atEnd_o (by simp only [go_sem, Nat.reduceSub, reduceIte, Nat.reduceEqDiff, Nat.reduceLT, Nat.reduceMul, Nat.reduceAdd, Nat.reduceBEq, Nat.reduceLeDiff, Int.reduceLT, Int.reduceLE, Int.reduceNeg, Int.reduceBEq, Int.reduceBNe, Int.reduceToNat] <;> rfl) ?_)
              | (refine And.intro ?_ ?_)
              | (with_reducible intro _)
            all_goals try first | exact True.intro | omega | exact ⟨_, _, rfl⟩ | exact allSolid_pcs _ | exact allSolid_one _ | exact allSolid_bool _ | rfl
            · refine ⟨m2 - 1, by omega, j + 1, up2 h i j (bif h i j then true else g k j), by omega, by omega, ?_, by rw [mat_put]; rfl⟩
              intro a b ha hb
              have e := hh a b ha hb
              unfold up2
              split
              · rename_i e1
                obtain ⟨rfl, rfl⟩ := e1
                cases hx : h a b with
                | true =>
                  refine ⟨fun _ => ?_, fun _ => rfl⟩
                  rcases e.1 hx with h1 | ⟨h1, h2, h3, h4, h5⟩
                  · exact .inl h1
                  · omega
                | false =>
                  show g k b = true ↔ _
                  have hno : ¬ (a < a ∧ thenP f g a b ∨ a = a ∧ thenK f g k a b) := fun h => by
                    have := e.2 (.inl h)
                    rw [hx] at this; cases this
                  constructor
                  · intro h5; exact .inr ⟨rfl, hc, hkj, by omega, h5⟩
                  · rintro (h1 | ⟨_, _, _, _, h5⟩)
                    · exact (hno h1).elim
                    · exact h5
              · rename_i e1
                rw [e]
                constructor
                · rintro (h1 | ⟨h1, h2, h3, h4, h5⟩)
                  · exact .inl h1
                  · exact .inr ⟨h1, h2, h3, by omega, h5⟩
                · rintro (h1 | ⟨h1, h2, h3, h4, h5⟩)
                  · exact .inl h1
                  · exact .inr ⟨h1, h2, h3, by omega, h5⟩
            · refine ⟨m' - 1, by omega, k + 1, h, by omega, by omega, ?_, rfl⟩
              intro a b ha hb
              rw [hh a b ha hb]
              constructor
              · rintro ((h1 | ⟨h1, h2⟩) | ⟨_, h2, _⟩)
                · exact .inl h1
                · subst h1; exact .inr ⟨rfl, (thenK_step f g k a b hik).2 (.inl h2)⟩
                · rw [hc] at h2; cases h2
              · rintro (h1 | ⟨h1, h2⟩)
                · exact .inl (.inl h1)
                · subst h1
                  rcases (thenK_step f g k a b hik).1 h2 with h3 | ⟨h3, _⟩
                  · exact .inl (.inr ⟨rfl, h3⟩)
                  · rw [hc] at h3; cases h3
          · have hjt : ((j : Int) < ((n + 1 : Nat) : Int)) = False := eq_false (by omega)
            repeat' first
              | refine AV.seq ?_
              | refine AV.block ?_
              | ((first | refine AV.reg ?_ | refine AV.regD mixed ?_); simp only [hN, c80R0, c80R1, c80R2, c80R3, c80R5, c80R6, c80R8, c80R9, c80R11, c80R10, c80R7, c80R4, c80R12, List.length_map, matT, brow, idxs_len, hjt, go_sem, Nat.reduceSub, reduceIte, Nat.reduceEqDiff, Nat.reduceLT, Nat.reduceMul, Nat.reduceAdd, Nat.reduceBEq, Nat.reduceLeDiff, Int.reduceLT, Int.reduceLE, Int.reduceNeg, Int.reduceBEq, Int.reduceBNe, Int.reduceToNat]; repeat (simp (disch := omega) only [wrap_small, getD_map_lt, getD_range]; try simp only [go_sem, Nat.reduceSub, reduceIte, Nat.reduceEqDiff, Nat.reduceLT, Nat.reduceMul, Nat.reduceAdd, Nat.reduceBEq, Nat.reduceLeDiff, Int.reduceLT, Int.reduceLE, Int.reduceNeg, Int.reduceBEq, Int.reduceBNe, Int.reduceToNat, List.length_map, matT, brow, idxs_len, hjt]))
              | (refine AV.cond ?_ ?_ (fun hc => ?_) (fun hc => ?_) <;> (try simp only [go_sem, Nat.reduceSub, reduceIte, Nat.reduceEqDiff, Nat.reduceLT, Nat.reduceMul, Nat.reduceAdd, Nat.reduceBEq, Nat.reduceLeDiff, Int.reduceLT, Int.reduceLE, Int.reduceNeg, Int.reduceBEq, Int.reduceBNe, Int.reduceToNat, beq_iff_eq, beq_eq_false_iff_ne] at hc) <;> (try simp only [go_sem, Nat.reduceSub, reduceIte, Nat.reduceEqDiff, Nat.reduceLT, Nat.reduceMul, Nat.reduceAdd, Nat.reduceBEq, Nat.reduceLeDiff, Int.reduceLT, Int.reduceLE, Int.reduceNeg, Int.reduceBEq, Int.reduceBNe, Int.reduceToNat]))
              | ((first | refine AV.skip ?_ | refine AV.exit ?_); simp only [go_sem, Nat.reduceSub, reduceIte, Nat.reduceEqDiff, Nat.reduceLT, Nat.reduceMul, Nat.reduceAdd, Nat.reduceBEq, Nat.reduceLeDiff, Int.reduceLT, Int.reduceLE, Int.reduceNeg, Int.reduceBEq, Int.reduceBNe, Int.reduceToNat])
              | (refine AV.ret ?_; (try simp only [go_sem, Nat.reduceSub, reduceIte, Nat.reduceEqDiff, Nat.reduceLT, Nat.reduceMul, Nat.reduceAdd, Nat.reduceBEq, Nat.reduceLeDiff, Int.reduceLT, Int.reduceLE, Int.reduceNeg, Int.reduceBEq, Int.reduceBNe, Int.reduceToNat]); first | refine atEnd_t (by simp only [go_sem, Nat.reduceSub, reduceIte, Nat.reduceEqDiff, Nat.reduceLT, Nat.reduceMul, Nat.reduceAdd, Nat.reduceBEq, Nat.reduceLeDiff, Int.reduceLT, Int.reduceLE, Int.reduceNeg, Int.reduceBEq, Int.reduceBNe, Int.reduceToNat] <;> rfl) ?_ (by first | (simp [rxT]; done) | exact leftT_tup _) | refine atEnd_c (by simp only [go_sem, Nat.reduceSub, reduceIte, Nat.reduceEqDiff, Nat.reduceLT, Nat.reduceMul, Nat.reduceAdd, Nat.reduceBEq, Nat.reduceLeDiff, Int.reduceLT, Int.reduceLE, Int.reduceNeg, Int.reduceBEq, Int.reduceBNe, Int.reduceToNat] <;> rfl) ?_ (by first | (simp [rxT]; done) | exact leftT_tup _) | refine atEnd_ct (by simp only [go_sem, Nat.reduceSub, reduceIte, Nat.reduceEqDiff, Nat.reduceLT, Nat.reduceMul, Nat.reduceAdd, Nat.reduceBEq, Nat.reduceLeDiff, Int.reduceLT, Int.reduceLE, Int.reduceNeg, Int.reduceBEq, Int.reduceBNe, Int.reduceToNat] <;> rfl) ?_ (by first | (simp; done) | exact leftT_tup _) (by simp only [go_sem, Nat.reduceSub, reduceIte, Nat.reduceEqDiff, Nat.reduceLT, Nat.reduceMul, Nat.reduceAdd, Nat.reduceBEq, Nat.reduceLeDiff, Int.reduceLT, Int.reduceLE, Int.reduceNeg, Int.reduceBEq, Int.reduceBNe, Int.reduceToNat] <;> rfl) ?_ (by simp) | refine atEnd_o (by simp only [go_sem, Nat.reduceSub, reduceIte, Nat.reduceEqDiff, Nat.reduceLT, Nat.reduceMul, Nat.reduceAdd, Nat.reduceBEq, Nat.reduceLeDiff, Int.reduceLT, Int.reduceLE, Int.reduceNeg, Int.reduceBEq, Int.reduceBNe, Int.reduceToNat] <;> rfl) ?_)
              | (refine And.intro ?_ ?_)
              | (with_reducible intro _)
            all_goals try first | exact True.intro | omega | exact ⟨_, _, rfl⟩ | exact allSolid_pcs _ | exact allSolid_one _ | exact allSolid_bool _ | rfl
            refine ⟨m' - 1, by omega, k + 1, h, by omega, by omega, ?_, rfl⟩
            intro a b ha hb
            rw [hh a b ha hb]
            constructor
            · rintro ((h1 | ⟨h1, h2⟩) | ⟨h1, h2, h3, _, h5⟩)
              · exact .inl h1
              · subst h1; exact .inr ⟨rfl, (thenK_step f g k a b hik).2 (.inl h2)⟩
              · subst h1; exact .inr ⟨rfl, (thenK_step f g k a b hik).2 (.inr ⟨h2, h3, h5⟩)⟩
            · rintro (h1 | ⟨h1, h2⟩)
              · exact .inl (.inl h1)
              · subst h1
                rcases (thenK_step f g k a b hik).1 h2 with h3 | ⟨h3, h4, h5⟩
                · exact .inl (.inr ⟨rfl, h3⟩)
                · exact .inr ⟨rfl, h3, h4, by omega, h5⟩
        · intro a b ha hb
          rw [hh a b ha hb]
          constructor
          · intro h; exact .inl h
          · rintro (h | ⟨_, _, _, h, _⟩)
            · exact h
            · omega
      · refine ⟨m - 1, by omega, i + 1, h, by omega, ?_, rfl⟩
        intro a b ha hb
        rw [hh a b ha hb]
        have : k = n + 1 := by omega
        subst this
        rw [thenK_all n f g a b hb]
        constructor
        · rintro (⟨h1, h2⟩ | ⟨h1, h2⟩)
          · exact ⟨by omega, h2⟩
          · exact ⟨by omega, h2⟩
        · rintro ⟨h1, h2⟩
          by_cases e : a = i
          · exact .inr ⟨e, h2⟩
          · exact .inl ⟨by omega, h2⟩
    · intro a b ha hb
      rw [hh a b ha hb]
      constructor
      · intro h; exact .inl h
      · rintro (h | ⟨rfl, h⟩)
        · exact h
        · exact (thenK_none f g _ b h).elim
  · refine matT_congr n h r (fun a b ha hb => bool_ext ?_)
    rw [hh a b ha hb, hr a b ha hb]
    constructor
    · rintro ⟨_, h2⟩; exact h2
    · intro h2; exact ⟨by omega, h2⟩
end Go.Proofs.Ytaefhdklkbohmaa
/- Tables of truths: again. -/
namespace Go.Proofs.Ytaefhdklkbohmaa
open Go Go.RowKit
set_option linter.unusedSimpArgs false
set_option maxRecDepth 20000
set_option maxHeartbeats 4000000
inductive AgP (f : Nat → Nat → Bool) : Nat → Nat → Prop where
  | refl (a : Nat) : AgP f a a
  | step {a k b : Nat} (h : a < k) (h1 : f a k = true) (h2 : AgP f k b) : AgP f a b
theorem AgP.le {f : Nat → Nat → Bool} {a b : Nat} (h : AgP f a b) : a ≤ b := by
  induction h with
  | refl => exact Nat.le_refl _
  | step h _ _ ih => omega
theorem AgP.iff {f : Nat → Nat → Bool} {a b : Nat} : AgP f a b ↔ a = b ∨ ∃ k, a < k ∧ f a k = true ∧ AgP f k b := by
  constructor
  · intro h
    cases h with
    | refl => exact .inl rfl
    | step h h1 h2 => exact .inr ⟨_, h, h1, h2⟩
  · rintro (rfl | ⟨k, h, h1, h2⟩)
    · exact .refl _
    · exact .step h h1 h2
def agK (f : Nat → Nat → Bool) (k a b : Nat) : Prop := a = b ∨ ∃ k', a < k' ∧ k' < k ∧ f a k' = true ∧ AgP f k' b
theorem agK_none (f : Nat → Nat → Bool) (a b : Nat) : agK f (a + 1) a b ↔ a = b := by
  constructor
  · rintro (h | ⟨k', h1, h2, _⟩)
    · exact h
    · omega
  · exact .inl
theorem agK_step (f : Nat → Nat → Bool) (k a b : Nat) (h : a < k) : agK f (k + 1) a b ↔ agK f k a b ∨ f a k = true ∧ AgP f k b := by
  constructor
  · rintro (h | ⟨k', h1, h2, h3, h4⟩)
    · exact .inl (.inl h)
    · by_cases e : k' = k
      · subst e; exact .inr ⟨h3, h4⟩
      · exact .inl (.inr ⟨k', h1, by omega, h3, h4⟩)
  · rintro ((h | ⟨k', h1, h2, h3, h4⟩) | ⟨h1, h2⟩)
    · exact .inl h
    · exact .inr ⟨k', h1, by omega, h3, h4⟩
    · exact .inr ⟨k, h, by omega, h1, h2⟩
theorem agK_all (n : Nat) (f : Nat → Nat → Bool) (a b : Nat) (hb : b ≤ n) : agK f (n + 1) a b ↔ AgP f a b := by
  rw [AgP.iff]
  constructor
  · rintro (h | ⟨k', h1, h2, h3, h4⟩)
    · exact .inl h
    · exact .inr ⟨k', h1, h3, h4⟩
  · rintro (h | ⟨k', h1, h3, h4⟩)
    · exact .inl h
    · exact .inr ⟨k', h1, by have := h4.le; omega, h3, h4⟩
def again82A (n : Nat) (f : Nat → Nat → Bool) (m : Nat) (σ : Env) : Prop := ∃ (h : Nat → Nat → Bool), m ≤ n + 1 ∧ (∀ a b, a ≤ n → b ≤ n → (h a b = true ↔ m ≤ a ∧ AgP f a b ∨ a < m ∧ a = b)) ∧
  σ = [(0, .t (matT n f)), (3, .own (.sl [.sl [.sh]]) (matT n h)), (4, .t (.int .i64 ((m : Int) - 1)))]
def again82B (n : Nat) (f : Nat → Nat → Bool) (i m : Nat) (σ : Env) : Prop := ∃ (k : Nat) (h : Nat → Nat → Bool), k + m = n + 1 ∧ i < k ∧ (∀ a b, a ≤ n → b ≤ n → (h a b = true ↔ i < a ∧ AgP f a b ∨ a = i ∧ agK f k a b ∨ a < i ∧ a = b)) ∧
  σ = [(0, .t (matT n f)), (3, .own (.sl [.sl [.sh]]) (matT n h)), (4, .t (.int .i64 (i : Int))), (5, .t (.int .i64 (k : Int)))]
def again82C (n : Nat) (f : Nat → Nat → Bool) (i k m : Nat) (σ : Env) : Prop := ∃ (j : Nat) (h : Nat → Nat → Bool), j + m = n + 1 ∧ k ≤ j ∧
  (∀ a b, a ≤ n → b ≤ n → (h a b = true ↔ (i < a ∧ AgP f a b ∨ a = i ∧ agK f k a b ∨ a < i ∧ a = b) ∨ a = i ∧ f i k = true ∧ b < j ∧ AgP f k b)) ∧
  σ = [(0, .t (matT n f)), (3, .own (.sl [.sl [.sh]]) (matT n h)), (4, .t (.int .i64 (i : Int))), (5, .t (.int .i64 (k : Int))), (6, .t (.int .i64 (j : Int)))]
theorem again82_spec (n : Nat) (hn : n ≤ 1000000) (f r : Nat → Nat → Bool) (hr : ∀ a b, a ≤ n → b ≤ n → (r a b = true ↔ AgP f a b)) :
    ACalls Try.prog 82 [matT n f] (.sl [.sl [.sh]]) (matT n r) := by
  refine ACalls.of n82 rfl (m82 _ rfl) q82 (by simp only [List.length_cons, List.length_nil]; decide) (fun C hC => ?_)
  have hN : C.N = 65 := hC
  have hw : IntKind.i64.wrap (((n + 1 : Nat) : Int) - 1) = (n : Int) := by rw [wrap_small] <;> omega
  have hw2 : (n : Int) = ((n + 1 : Nat) : Int) - 1 := by omega
  repeat' first
    | refine AV.seq ?_
    | refine AV.block ?_
    | ((first | refine AV.reg ?_ | refine AV.regD mixed ?_); simp only [hN, c82R0, c82R1, c82R2, c82R3, c82R5, c82R6, c82R8, c82R9, c82R11, c82R10, c82R7, c82R4, c82R12, List.length_map, matT, idxs_len, hw, go_sem, Nat.reduceSub, reduceIte, Nat.reduceEqDiff, Nat.reduceLT, Nat.reduceMul, Nat.reduceAdd, Nat.reduceBEq, Nat.reduceLeDiff, Int.reduceLT, Int.reduceLE, Int.reduceNeg, Int.reduceBEq, Int.reduceBNe, Int.reduceToNat]; repeat (simp (disch := omega) only [wrap_small, getD_map_lt, getD_range]; try simp only [go_sem, Nat.reduceSub, reduceIte, Nat.reduceEqDiff, Nat.reduceLT, Nat.reduceMul, Nat.reduceAdd, Nat.reduceBEq, Nat.reduceLeDiff, Int.reduceLT, Int.reduceLE, Int.reduceNeg, Int.reduceBEq, Int.reduceBNe, Int.reduceToNat, List.length_map, matT, idxs_len, hw]))
    | (refine AV.cond ?_ ?_ (fun hc => ?_) (fun hc => ?_) <;> (try simp only [go_sem, Nat.reduceSub, reduceIte, Nat.reduceEqDiff, Nat.reduceLT, Nat.reduceMul, Nat.reduceAdd, Nat.reduceBEq, Nat.reduceLeDiff, Int.reduceLT, Int.reduceLE, Int.reduceNeg, Int.reduceBEq, Int.reduceBNe, Int.reduceToNat, beq_iff_eq, beq_eq_false_iff_ne] at hc) <;> (try simp only [go_sem, Nat.reduceSub, reduceIte, Nat.reduceEqDiff, Nat.reduceLT, Nat.reduceMul, Nat.reduceAdd, Nat.reduceBEq, Nat.reduceLeDiff, Int.reduceLT, Int.reduceLE, Int.reduceNeg, Int.reduceBEq, Int.reduceBNe, Int.reduceToNat]))
    | ((first | refine AV.skip ?_ | refine AV.exit ?_); simp only [go_sem, Nat.reduceSub, reduceIte, Nat.reduceEqDiff, Nat.reduceLT, Nat.reduceMul, Nat.reduceAdd, Nat.reduceBEq, Nat.reduceLeDiff, Int.reduceLT, Int.reduceLE, Int.reduceNeg, Int.reduceBEq, Int.reduceBNe, Int.reduceToNat])
    | ((first | refine ⟨_, _, empty83_spec n hn, rfl, ?_⟩ | refine ⟨_, _, empty83_spec n hn, ?_⟩ | refine ⟨_, _, fun _ => empty83_spec n hn, rfl, fun _ => trivial, ?_⟩); (try simp only [go_sem, Nat.reduceSub, reduceIte, Nat.reduceEqDiff, Nat.reduceLT, Nat.reduceMul, Nat.reduceAdd, Nat.reduceBEq, Nat.reduceLeDiff, Int.reduceLT, Int.reduceLE, Int.reduceNeg, Int.reduceBEq, Int.reduceBNe, Int.reduceToNat, List.length_map, matT, idxs_len, hw]); repeat (simp (disch := omega) only [wrap_small, getD_map_lt, getD_range]; try simp only [go_sem, Nat.reduceSub, reduceIte, Nat.reduceEqDiff, Nat.reduceLT, Nat.reduceMul, Nat.reduceAdd, Nat.reduceBEq, Nat.reduceLeDiff, Int.reduceLT, Int.reduceLE, Int.reduceNeg, Int.reduceBEq, Int.reduceBNe, Int.reduceToNat, List.length_map, matT, idxs_len, hw]))
    | ((first | refine ⟨.sh, .bool false, rfl, trivial, ?_⟩ | refine ⟨.sh, .bool false, rfl, ?_⟩); try simp only [go_sem, Nat.reduceSub, reduceIte, Nat.reduceEqDiff, Nat.reduceLT, Nat.reduceMul, Nat.reduceAdd, Nat.reduceBEq, Nat.reduceLeDiff, Int.reduceLT, Int.reduceLE, Int.reduceNeg, Int.reduceBEq, Int.reduceBNe, Int.reduceToNat])
    | (refine AV.ret ?_; (try simp only [go_sem, Nat.reduceSub, reduceIte, Nat.reduceEqDiff, Nat.reduceLT, Nat.reduceMul, Nat.reduceAdd, Nat.reduceBEq, Nat.reduceLeDiff, Int.reduceLT, Int.reduceLE, Int.reduceNeg, Int.reduceBEq, Int.reduceBNe, Int.reduceToNat]); first | refine atEnd_t (by simp only [go_sem, Nat.reduceSub, reduceIte, Nat.reduceEqDiff, Nat.reduceLT, Nat.reduceMul, Nat.reduceAdd, Nat.reduceBEq, Nat.reduceLeDiff, Int.reduceLT, Int.reduceLE, Int.reduceNeg, Int.reduceBEq, Int.reduceBNe, Int.reduceToNat] <;> rfl) ?_ (by first | (simp [rxT]; done) | exact leftT_tup _) | refine atEnd_c (by simp only [go_sem, Nat.reduceSub, reduceIte, Nat.reduceEqDiff, Nat.reduceLT, Nat.reduceMul, Nat.reduceAdd, Nat.reduceBEq, Nat.reduceLeDiff, Int.reduceLT, Int.reduceLE, Int.reduceNeg, Int.reduceBEq, Int.reduceBNe, Int.reduceToNat] <;> rfl) ?_ (by first | (simp [rxT]; done) | exact leftT_tup _) | refine atEnd_ct (by simp only [go_sem, Nat.reduceSub, reduceIte, Nat.reduceEqDiff, Nat.reduceLT, Nat.reduceMul, Nat.reduceAdd, Nat.reduceBEq, Nat.reduceLeDiff, Int.reduceLT, Int.reduceLE, Int.reduceNeg, Int.reduceBEq, Int.reduceBNe, Int.reduceToNat] <;> rfl) ?_ (by first | (simp; done) | exact leftT_tup _) (by simp only [go_sem, Nat.reduceSub, reduceIte, Nat.reduceEqDiff, Nat.reduceLT, Nat.reduceMul, Nat.reduceAdd, Nat.reduceBEq, Nat.reduceLeDiff, Int.reduceLT, Int.reduceLE, Int.reduceNeg, Int.reduceBEq, Int.reduceBNe, Int.reduceToNat] <;> rfl) ?_ (by simp) | refine atEnd_o (by simp only [go_sem, Nat.reduceSub, reduceIte, Nat.reduceEqDiff, Nat.reduceLT, Nat.reduceMul, Nat.reduceAdd, Nat.reduceBEq, Nat.reduceLeDiff, Int.reduceLT, Int.reduceLE, Int.reduceNeg, Int.reduceBEq, Int.reduceBNe, Int.reduceToNat] <;> rfl) ?_)
    | (refine And.intro ?_ ?_)
    | (with_reducible intro _)
  all_goals try first | exact True.intro | omega | exact ⟨_, _, rfl⟩ | exact allSolid_pcs _ | exact allSolid_one _ | exact allSolid_bool _ | rfl
  refine AV.loopK [0, 3, 4] (by simp only [hN]; decide) (n := n + 1) (again82A n f) ?_ ⟨fun a b => decide (a = b), by omega, by intro a b ha hb; simp; omega, by simp only [go_sem, Nat.reduceSub, reduceIte, Nat.reduceEqDiff, Nat.reduceLT, Nat.reduceMul, Nat.reduceAdd, Nat.reduceBEq, Nat.reduceLeDiff, Int.reduceLT, Int.reduceLE, Int.reduceNeg, Int.reduceBEq, Int.reduceBNe, Int.reduceToNat]; rw [← hw2]; rfl⟩
  rintro m σ ⟨h, hi, hh, rfl⟩
  by_cases hm0 : m = 0
  · subst hm0
    repeat' first
      | refine AV.seq ?_
      | refine AV.block ?_
      | ((first | refine AV.reg ?_ | refine AV.regD mixed ?_); simp only [hN, c82R0, c82R1, c82R2, c82R3, c82R5, c82R6, c82R8, c82R9, c82R11, c82R10, c82R7, c82R4, c82R12, List.length_map, matT, idxs_len, go_sem, Nat.reduceSub, reduceIte, Nat.reduceEqDiff, Nat.reduceLT, Nat.reduceMul, Nat.reduceAdd, Nat.reduceBEq, Nat.reduceLeDiff, Int.reduceLT, Int.reduceLE, Int.reduceNeg, Int.reduceBEq, Int.reduceBNe, Int.reduceToNat]; repeat (simp (disch := omega) only [wrap_small, getD_map_lt, getD_range]; try simp only [go_sem, Nat.reduceSub, reduceIte, Nat.reduceEqDiff, Nat.reduceLT, Nat.reduceMul, Nat.reduceAdd, Nat.reduceBEq, Nat.reduceLeDiff, Int.reduceLT, Int.reduceLE, Int.reduceNeg, Int.reduceBEq, Int.reduceBNe, Int.reduceToNat, List.length_map, matT, idxs_len]))
      | (refine AV.cond ?_ ?_ (fun hc => ?_) (fun hc => ?_) <;> (try simp only [go_sem, Nat.reduceSub, reduceIte, Nat.reduceEqDiff, Nat.reduceLT, Nat.reduceMul, Nat.reduceAdd, Nat.reduceBEq, Nat.reduceLeDiff, Int.reduceLT, Int.reduceLE, Int.reduceNeg, Int.reduceBEq, Int.reduceBNe, Int.reduceToNat, beq_iff_eq, beq_eq_false_iff_ne] at hc) <;> (try simp only [go_sem, Nat.reduceSub, reduceIte, Nat.reduceEqDiff, Nat.reduceLT, Nat.reduceMul, Nat.reduceAdd, Nat.reduceBEq, Nat.reduceLeDiff, Int.reduceLT, Int.reduceLE, Int.reduceNeg, Int.reduceBEq, Int.reduceBNe, Int.reduceToNat]))
      | ((first | refine AV.skip ?_ | refine AV.exit ?_); simp only [go_sem, Nat.reduceSub, reduceIte, Nat.reduceEqDiff, Nat.reduceLT, Nat.reduceMul, Nat.reduceAdd, Nat.reduceBEq, Nat.reduceLeDiff, Int.reduceLT, Int.reduceLE, Int.reduceNeg, Int.reduceBEq, Int.reduceBNe, Int.reduceToNat])
      | (refine AV.ret ?_; (try simp only [go_sem, Nat.reduceSub, reduceIte, Nat.reduceEqDiff, Nat.reduceLT, Nat.reduceMul, Nat.reduceAdd, Nat.reduceBEq, Nat.reduceLeDiff, Int.reduceLT, Int.reduceLE, Int.reduceNeg, Int.reduceBEq, Int.reduceBNe, Int.reduceToNat]); first | refine atEnd_t (by simp only [go_sem, Nat.reduceSub, reduceIte, Nat.reduceEqDiff, Nat.reduceLT, Nat.reduceMul, Nat.reduceAdd, Nat.reduceBEq, Nat.reduceLeDiff, Int.reduceLT, Int.reduceLE, Int.reduceNeg, Int.reduceBEq, Int.reduceBNe, Int.reduceToNat] <;> rfl) ?_ (by first | (simp [rxT]; done) | exact leftT_tup _) | refine atEnd_c (by simp only [go_sem, Nat.reduceSub, reduceIte, Nat.reduceEqDiff, Nat.reduceLT, Nat.reduceMul, Nat.reduceAdd, Nat.reduceBEq, Nat.reduceLeDiff, Int.reduceLT, Int.reduceLE, Int.reduceNeg, Int.reduceBEq, Int.reduceBNe, Int.reduceToNat] <;> rfl) ?_ (by first | (simp [rxT]; done) | exact leftT_tup _) | refine atEnd_ct (by simp only [go_sem, Nat.reduceSub, reduceIte, Nat.reduceEqDiff, Nat.reduceLT, Nat.reduceMul, Nat.reduceAdd, Nat.reduceBEq, Nat.reduceLeDiff, Int.reduceLT, Int.reduceLE, Int.reduceNeg, Int.reduceBEq, Int.reduceBNe, Int.reduceToNat] <;> rfl) ?_ (by first | (simp; done) | exact leftT_tup _) (by simp only [go_sem, Nat.reduceSub, reduceIte, Nat.reduceEqDiff, Nat.reduceLT, Nat.reduceMul, Nat.reduceAdd, Nat.reduceBEq, Nat.reduceLeDiff, Int.reduceLT, Int.reduceLE, Int.reduceNeg, Int.reduceBEq, Int.reduceBNe, Int.reduceToNat] <;> rfl) ?_ (by simp) | refine atEnd_o (by simp only [go_sem, Nat.reduceSub, reduceIte, Nat.reduceEqDiff, Nat.reduceLT, Nat.reduceMul, Nat.reduceAdd, Nat.reduceBEq, Nat.reduceLeDiff, Int.reduceLT, Int.reduceLE, Int.reduceNeg, Int.reduceBEq, Int.reduceBNe, Int.reduceToNat] <;> rfl) ?_)
      | (refine And.intro ?_ ?_)
      | (with_reducible intro _)
    all_goals try first | exact True.intro | omega | exact ⟨_, _, rfl⟩ | exact allSolid_pcs _ | exact allSolid_one _ | exact allSolid_bool _ | rfl
    refine matT_congr n h r (fun a b ha hb => bool_ext ?_)
    rw [hh a b ha hb, hr a b ha hb]
    constructor
    · rintro (⟨_, h1⟩ | ⟨h1, _⟩)
      · exact h1
      · omega
    · intro h1; exact .inl ⟨by omega, h1⟩
  obtain ⟨i, rfl⟩ : ∃ i, m = i + 1 := ⟨m - 1, by omega⟩
  have e1 : ((i + 1 : Nat) : Int) - 1 = (i : Int) := by omega
  rw [e1]
  repeat' first
    | refine AV.seq ?_
    | refine AV.block ?_
    | ((first | refine AV.reg ?_ | refine AV.regD mixed ?_); simp only [hN, c82R0, c82R1, c82R2, c82R3, c82R5, c82R6, c82R8, c82R9, c82R11, c82R10, c82R7, c82R4, c82R12, List.length_map, matT, idxs_len, go_sem, Nat.reduceSub, reduceIte, Nat.reduceEqDiff, Nat.reduceLT, Nat.reduceMul, Nat.reduceAdd, Nat.reduceBEq, Nat.reduceLeDiff, Int.reduceLT, Int.reduceLE, Int.reduceNeg, Int.reduceBEq, Int.reduceBNe, Int.reduceToNat]; repeat (simp (disch := omega) only [wrap_small, getD_map_lt, getD_range]; try simp only [go_sem, Nat.reduceSub, reduceIte, Nat.reduceEqDiff, Nat.reduceLT, Nat.reduceMul, Nat.reduceAdd, Nat.reduceBEq, Nat.reduceLeDiff, Int.reduceLT, Int.reduceLE, Int.reduceNeg, Int.reduceBEq, Int.reduceBNe, Int.reduceToNat, List.length_map, matT, idxs_len]))
    | (refine AV.cond ?_ ?_ (fun hc => ?_) (fun hc => ?_) <;> (try simp only [go_sem, Nat.reduceSub, reduceIte, Nat.reduceEqDiff, Nat.reduceLT, Nat.reduceMul, Nat.reduceAdd, Nat.reduceBEq, Nat.reduceLeDiff, Int.reduceLT, Int.reduceLE, Int.reduceNeg, Int.reduceBEq, Int.reduceBNe, Int.reduceToNat, beq_iff_eq, beq_eq_false_iff_ne] at hc) <;> (try simp only [go_sem, Nat.reduceSub, reduceIte, Nat.reduceEqDiff, Nat.reduceLT, Nat.reduceMul, Nat.reduceAdd, Nat.reduceBEq, Nat.reduceLeDiff, Int.reduceLT, Int.reduceLE, Int.reduceNeg, Int.reduceBEq, Int.reduceBNe, Int.reduceToNat]))
    | ((first | refine AV.skip ?_ | refine AV.exit ?_); simp only [go_sem, Nat.reduceSub, reduceIte, Nat.reduceEqDiff, Nat.reduceLT, Nat.reduceMul, Nat.reduceAdd, Nat.reduceBEq, Nat.reduceLeDiff, Int.reduceLT, Int.reduceLE, Int.reduceNeg, Int.reduceBEq, Int.reduceBNe, Int.reduceToNat])
    | (refine AV.ret ?_; (try simp only [go_sem, Nat.reduceSub, reduceIte, Nat.reduceEqDiff, Nat.reduceLT, Nat.reduceMul, Nat.reduceAdd, Nat.reduceBEq, Nat.reduceLeDiff, Int.reduceLT, Int.reduceLE, Int.reduceNeg, Int.reduceBEq, Int.reduceBNe, Int.reduceToNat]); first | refine atEnd_t (by simp only [go_sem, Nat.reduceSub, reduceIte, Nat.reduceEqDiff, Nat.reduceLT, Nat.reduceMul, Nat.reduceAdd, Nat.reduceBEq, Nat.reduceLeDiff, Int.reduceLT, Int.reduceLE, Int.reduceNeg, Int.reduceBEq, Int.reduceBNe, Int.reduceToNat] <;> rfl) ?_ (by first | (simp [rxT]; done) | exact leftT_tup _) | refine atEnd_c (by simp only [go_sem, Nat.reduceSub, reduceIte, Nat.reduceEqDiff, Nat.reduceLT, Nat.reduceMul, Nat.reduceAdd, Nat.reduceBEq, Nat.reduceLeDiff, Int.reduceLT, Int.reduceLE, Int.reduceNeg, Int.reduceBEq, Int.reduceBNe, Int.reduceToNat] <;> rfl) ?_ (by first | (simp [rxT]; done) | exact leftT_tup _) | refine atEnd_ct (by simp only [go_sem, Nat.reduceSub, reduceIte, Nat.reduceEqDiff, Nat.reduceLT, Nat.reduceMul, Nat.reduceAdd, Nat.reduceBEq, Nat.reduceLeDiff, Int.reduceLT, Int.reduceLE, Int.reduceNeg, Int.reduceBEq, Int.reduceBNe, Int.reduceToNat] <;> rfl) ?_ (by first | (simp; done) | exact leftT_tup _) (by simp only [go_sem, Nat.reduceSub, reduceIte, Nat.reduceEqDiff, Nat.reduceLT, Nat.reduceMul, Nat.reduceAdd, Nat.reduceBEq, Nat.reduceLeDiff, Int.reduceLT, Int.reduceLE, Int.reduceNeg, Int.reduceBEq, Int.reduceBNe, Int.reduceToNat] <;> rfl) ?_ (by simp) | refine atEnd_o (by simp only [go_sem, Nat.reduceSub, reduceIte, Nat.reduceEqDiff, Nat.reduceLT, Nat.reduceMul, Nat.reduceAdd, Nat.reduceBEq, Nat.reduceLeDiff, Int.reduceLT, Int.reduceLE, Int.reduceNeg, Int.reduceBEq, Int.reduceBNe, Int.reduceToNat] <;> rfl) ?_)
    | (refine And.intro ?_ ?_)
    | (with_reducible intro _)
  all_goals try first | exact True.intro | omega | exact ⟨_, _, rfl⟩ | exact allSolid_pcs _ | exact allSolid_one _ | exact allSolid_bool _ | rfl
  · refine AV.loopK [0, 3, 4, 5] (by simp only [hN]; decide) (n := n - i) (again82B n f i) ?_ ⟨i + 1, h, by omega, by omega, ?_, by simp only [go_sem, Nat.reduceSub, reduceIte, Nat.reduceEqDiff, Nat.reduceLT, Nat.reduceMul, Nat.reduceAdd, Nat.reduceBEq, Nat.reduceLeDiff, Int.reduceLT, Int.reduceLE, Int.reduceNeg, Int.reduceBEq, Int.reduceBNe, Int.reduceToNat] <;> rfl⟩
    · clear hh h
      rintro m' σ ⟨k, h, hk, hik, hh, rfl⟩
      repeat' first
        | refine AV.seq ?_
        | refine AV.block ?_
        | ((first | refine AV.reg ?_ | refine AV.regD mixed ?_); simp only [hN, c82R0, c82R1, c82R2, c82R3, c82R5, c82R6, c82R8, c82R9, c82R11, c82R10, c82R7, c82R4, c82R12, List.length_map, matT, idxs_len, go_sem, Nat.reduceSub, reduceIte, Nat.reduceEqDiff, Nat.reduceLT, Nat.reduceMul, Nat.reduceAdd, Nat.reduceBEq, Nat.reduceLeDiff, Int.reduceLT, Int.reduceLE, Int.reduceNeg, Int.reduceBEq, Int.reduceBNe, Int.reduceToNat]; repeat (simp (disch := omega) only [wrap_small, getD_map_lt, getD_range]; try simp only [go_sem, Nat.reduceSub, reduceIte, Nat.reduceEqDiff, Nat.reduceLT, Nat.reduceMul, Nat.reduceAdd, Nat.reduceBEq, Nat.reduceLeDiff, Int.reduceLT, Int.reduceLE, Int.reduceNeg, Int.reduceBEq, Int.reduceBNe, Int.reduceToNat, List.length_map, matT, idxs_len]))
        | (refine AV.cond ?_ ?_ (fun hc => ?_) (fun hc => ?_) <;> (try simp only [go_sem, Nat.reduceSub, reduceIte, Nat.reduceEqDiff, Nat.reduceLT, Nat.reduceMul, Nat.reduceAdd, Nat.reduceBEq, Nat.reduceLeDiff, Int.reduceLT, Int.reduceLE, Int.reduceNeg, Int.reduceBEq, Int.reduceBNe, Int.reduceToNat, beq_iff_eq, beq_eq_false_iff_ne] at hc) <;> (try simp only [go_sem, Nat.reduceSub, reduceIte, Nat.reduceEqDiff, Nat.reduceLT, Nat.reduceMul, Nat.reduceAdd, Nat.reduceBEq, Nat.reduceLeDiff, Int.reduceLT, Int.reduceLE, Int.reduceNeg, Int.reduceBEq, Int.reduceBNe, Int.reduceToNat]))
        | ((first | refine AV.skip ?_ | refine AV.exit ?_); simp only [go_sem, Nat.reduceSub, reduceIte, Nat.reduceEqDiff, Nat.reduceLT, Nat.reduceMul, Nat.reduceAdd, Nat.reduceBEq, Nat.reduceLeDiff, Int.reduceLT, Int.reduceLE, Int.reduceNeg, Int.reduceBEq, Int.reduceBNe, Int.reduceToNat])
        | (refine AV.ret ?_; (try simp only [go_sem, Nat.reduceSub, reduceIte, Nat.reduceEqDiff, Nat.reduceLT, Nat.reduceMul, Nat.reduceAdd, Nat.reduceBEq, Nat.reduceLeDiff, Int.reduceLT, Int.reduceLE, Int.reduceNeg, Int.reduceBEq, Int.reduceBNe, Int.reduceToNat]); first | refine atEnd_t (by simp only [go_sem, Nat.reduceSub, reduceIte, Nat.reduceEqDiff, Nat.reduceLT, Nat.reduceMul, Nat.reduceAdd, Nat.reduceBEq, Nat.reduceLeDiff, Int.reduceLT, Int.reduceLE, Int.reduceNeg, Int.reduceBEq, Int.reduceBNe, Int.reduceToNat] <;> rfl) ?_ (by first | (simp [rxT]; done) | exact leftT_tup _) | refine atEnd_c (by simp only [go_sem, Nat.reduceSub, reduceIte, Nat.reduceEqDiff, Nat.reduceLT, Nat.reduceMul, Nat.reduceAdd, Nat.reduceBEq, Nat.reduceLeDiff, Int.reduceLT, Int.reduceLE, Int.reduceNeg, Int.reduceBEq, Int.reduceBNe, Int.reduceToNat] <;> rfl) ?_ (by first | (simp [rxT]; done) | exact leftT_tup _) | refine atEnd_ct (by simp only [go_sem, Nat.reduceSub, reduceIte, Nat.reduceEqDiff, Nat.reduceLT, Nat.reduceMul, Nat.reduceAdd, Nat.reduceBEq, Nat.reduceLeDiff, Int.reduceLT, Int.reduceLE, Int.reduceNeg, Int.reduceBEq, Int.reduceBNe, Int.reduceToNat] <;> rfl) ?_ (by first | (simp; done) | exact leftT_tup _) (by simp only [go_sem, Nat.reduceSub, reduceIte, Nat.reduceEqDiff, Nat.reduceLT, Nat.reduceMul, Nat.reduceAdd, Nat.reduceBEq, Nat.reduceLeDiff, Int.reduceLT, Int.reduceLE, Int.reduceNeg, Int.reduceBEq, Int.reduceBNe, Int.reduceToNat] <;> rfl) ?_ (by simp) | refine atEnd_o (by simp only [go_sem, Nat.reduceSub, reduceIte, Nat.reduceEqDiff, Nat.reduceLT, Nat.reduceMul, Nat.reduceAdd, Nat.reduceBEq, Nat.reduceLeDiff, Int.reduceLT, Int.reduceLE, Int.reduceNeg, Int.reduceBEq, Int.reduceBNe, Int.reduceToNat] <;> rfl) ?_)
        | (refine And.intro ?_ ?_)
        | (with_reducible intro _)
      all_goals try first | exact True.intro | omega | exact ⟨_, _, rfl⟩ | exact allSolid_pcs _ | exact allSolid_one _ | exact allSolid_bool _ | rfl
      · refine AV.loopK [0, 3, 4, 5, 6] (by simp only [hN]; decide) (n := m') (again82C n f i k) ?_ ⟨k, h, by omega, by omega, ?_, by simp only [go_sem, Nat.reduceSub, reduceIte, Nat.reduceEqDiff, Nat.reduceLT, Nat.reduceMul, Nat.reduceAdd, Nat.reduceBEq, Nat.reduceLeDiff, Int.reduceLT, Int.reduceLE, Int.reduceNeg, Int.reduceBEq, Int.reduceBNe, Int.reduceToNat] <;> rfl⟩
        · clear hh h
          rintro m2 σ ⟨j, h, hj, hkj, hh, rfl⟩
          by_cases hj1 : j < n + 1
          · have hjt : ((j : Int) < ((n + 1 : Nat) : Int)) = True := eq_true (by omega)
            repeat' first
              | refine AV.seq ?_
              | refine AV.block ?_
              | ((first | refine AV.reg ?_ | refine AV.regD mixed ?_); simp only [hN, c82R0, c82R1, c82R2, c82R3, c82R5, c82R6, c82R8, c82R9, c82R11, c82R10, c82R7, c82R4, c82R12, List.length_map, matT, brow, idxs_len, hjt, go_sem, Nat.reduceSub, reduceIte, Nat.reduceEqDiff, Nat.reduceLT, Nat.reduceMul, Nat.reduceAdd, Nat.reduceBEq, Nat.reduceLeDiff, Int.reduceLT, Int.reduceLE, Int.reduceNeg, Int.reduceBEq, Int.reduceBNe, Int.reduceToNat]; repeat (simp (disch := omega) only [wrap_small, getD_map_lt, getD_range]; try simp only [go_sem, Nat.reduceSub, reduceIte, Nat.reduceEqDiff, Nat.reduceLT, Nat.reduceMul, Nat.reduceAdd, Nat.reduceBEq, Nat.reduceLeDiff, Int.reduceLT, Int.reduceLE, Int.reduceNeg, Int.reduceBEq, Int.reduceBNe, Int.reduceToNat, List.length_map, matT, brow, idxs_len, hjt]))
              | (refine AV.cond ?_ ?_ (fun hc => ?_) (fun hc => ?_) <;> (try simp only [go_sem, Nat.reduceSub, reduceIte, Nat.reduceEqDiff, Nat.reduceLT, Nat.reduceMul, Nat.reduceAdd, Nat.reduceBEq, Nat.reduceLeDiff, Int.reduceLT, Int.reduceLE, Int.reduceNeg, Int.reduceBEq, Int.reduceBNe, Int.reduceToNat, beq_iff_eq, beq_eq_false_iff_ne] at hc) <;> (try simp only [go_sem, Nat.reduceSub, reduceIte, Nat.reduceEqDiff, Nat.reduceLT, Nat.reduceMul, Nat.reduceAdd, Nat.reduceBEq, Nat.reduceLeDiff, Int.reduceLT, Int.reduceLE, Int.reduceNeg, Int.reduceBEq, Int.reduceBNe, Int.reduceToNat]))
              | ((first | refine AV.skip ?_ | refine AV.exit ?_); simp only [go_sem, Nat.reduceSub, reduceIte, Nat.reduceEqDiff, Nat.reduceLT, Nat.reduceMul, Nat.reduceAdd, Nat.reduceBEq, Nat.reduceLeDiff, Int.reduceLT, Int.reduceLE, Int.reduceNeg, Int.reduceBEq, Int.reduceBNe, Int.reduceToNat])
              | (refine AV.ret ?_; (try simp only [go_sem, Nat.reduceSub, reduceIte, Nat.reduceEqDiff, Nat.reduceLT, Nat.reduceMul, Nat.reduceAdd, Nat.reduceBEq, Nat.reduceLeDiff, Int.reduceLT, Int.reduceLE, Int.reduceNeg, Int.reduceBEq, Int.reduceBNe, Int.reduceToNat]); first | refine atEnd_t (by simp only [go_sem, Nat.reduceSub, reduceIte, Nat.reduceEqDiff, Nat.reduceLT, Nat.reduceMul, Nat.reduceAdd, Nat.reduceBEq, Nat.reduceLeDiff, Int.reduceLT, Int.reduceLE, Int.reduceNeg, Int.reduceBEq, Int.reduceBNe, Int.reduceToNat] <;> rfl) ?_ (by first | (simp [rxT]; done) | exact leftT_tup _) | refine atEnd_c (by simp only [go_sem, Nat.reduceSub, reduceIte, Nat.reduceEqDiff, Nat.reduceLT, Nat.reduceMul, Nat.reduceAdd, Nat.reduceBEq, Nat.reduceLeDiff, Int.reduceLT, Int.reduceLE, Int.reduceNeg, Int.reduceBEq, Int.reduceBNe, Int.reduceToNat] <;> rfl) ?_ (by first | (simp [rxT]; done) | exact leftT_tup _) | refine atEnd_ct (by simp only [go_sem, Nat.reduceSub, reduceIte, Nat.reduceEqDiff, Nat.reduceLT, Nat.reduceMul, Nat.reduceAdd, Nat.reduceBEq, Nat.reduceLeDiff, Int.reduceLT, Int.reduceLE, Int.reduceNeg, Int.reduceBEq, Int.reduceBNe, Int.reduceToNat] <;> rfl) ?_ (by first | (simp; done) | exact leftT_tup _) (by simp only [go_sem, Nat.reduceSub, reduceIte, Nat.reduceEqDiff, Nat.reduceLT, Nat.reduceMul, Nat.reduceAdd, Nat.reduceBEq, Nat.reduceLeDiff, Int.reduceLT, Int.reduceLE, Int.reduceNeg, Int.reduceBEq, Int.reduceBNe, Int.reduceToNat] <;> rfl) ?_ (by simp) | refine atEnd_o (by simp only [go_sem, Nat.reduceSub, reduceIte, Nat.reduceEqDiff, Nat.reduceLT, Nat.reduceMul, Nat.reduceAdd, Nat.reduceBEq, Nat.reduceLeDiff, Int.reduceLT, Int.reduceLE, Int.reduceNeg, Int.reduceBEq, Int.reduceBNe, Int.reduceToNat] <;> rfl) ?_)
              | (refine And.intro ?_ ?_)
              | (with_reducible intro _)
            all_goals try first | exact True.intro | omega | exact ⟨_, _, rfl⟩ | exact allSolid_pcs _ | exact allSolid_one _ | exact allSolid_bool _ | rfl
            · refine ⟨m2 - 1, by omega, j + 1, up2 h i j (bif h i j then true else h k j), by omega, by omega, ?_, by rw [mat_put]; rfl⟩
              have hkk : h k j = true ↔ AgP f k j := by
                rw [hh k j (by omega) (by omega)]
                constructor
                · rintro ((⟨_, h1⟩ | ⟨h1, _⟩ | ⟨h1, _⟩) | ⟨h1, _⟩)
                  · exact h1
                  all_goals omega
                · intro h1; exact .inl (.inl ⟨by omega, h1⟩)
              intro a b ha hb
              have e := hh a b ha hb
              unfold up2
              split
              · rename_i e1
                obtain ⟨rfl, rfl⟩ := e1
                cases hx : h a b with
                | true =>
                  refine ⟨fun _ => ?_, fun _ => rfl⟩
                  rcases e.1 hx with h1 | ⟨h1, h2, h4, h5⟩
                  · exact .inl h1
                  · omega
                | false =>
                  show h k b = true ↔ _
                  rw [hkk]
                  have hno : ¬ (a < a ∧ AgP f a b ∨ a = a ∧ agK f k a b ∨ a < a ∧ a = b) := fun h => by
                    have := e.2 (.inl h)
                    rw [hx] at this; cases this
                  constructor
                  · intro h5; exact .inr ⟨rfl, hc, by omega, h5⟩
                  · rintro (h1 | ⟨_, _, _, h5⟩)
                    · exact (hno h1).elim
                    · exact h5
              · rename_i e1
                rw [e]
                constructor
                · rintro (h1 | ⟨h1, h2, h4, h5⟩)
                  · exact .inl h1
                  · exact .inr ⟨h1, h2, by omega, h5⟩
                · rintro (h1 | ⟨h1, h2, h4, h5⟩)
                  · exact .inl h1
                  · exact .inr ⟨h1, h2, by omega, h5⟩
            · refine ⟨m' - 1, by omega, k + 1, h, by omega, by omega, ?_, rfl⟩
              intro a b ha hb
              rw [hh a b ha hb]
              constructor
              · rintro ((h1 | ⟨h1, h2⟩ | h1) | ⟨_, h2, _⟩)
                · exact .inl h1
                · subst h1; exact .inr (.inl ⟨rfl, (agK_step f k a b hik).2 (.inl h2)⟩)
                · exact .inr (.inr h1)
                · rw [hc] at h2; cases h2
              · rintro (h1 | ⟨h1, h2⟩ | h1)
                · exact .inl (.inl h1)
                · subst h1
                  rcases (agK_step f k a b hik).1 h2 with h3 | ⟨h3, _⟩
                  · exact .inl (.inr (.inl ⟨rfl, h3⟩))
                  · rw [hc] at h3; cases h3
                · exact .inl (.inr (.inr h1))
          · have hjt : ((j : Int) < ((n + 1 : Nat) : Int)) = False := eq_false (by omega)
            repeat' first
              | refine AV.seq ?_
              | refine AV.block ?_
              | ((first | refine AV.reg ?_ | refine AV.regD mixed ?_); simp only [hN, c82R0, c82R1, c82R2, c82R3, c82R5, c82R6, c82R8, c82R9, c82R11, c82R10, c82R7, c82R4, c82R12, List.length_map, matT, brow, idxs_len, hjt, go_sem, Nat.reduceSub, reduceIte, Nat.reduceEqDiff, Nat.reduceLT, Nat.reduceMul, Nat.reduceAdd, Nat.reduceBEq, Nat.reduceLeDiff, Int.reduceLT, Int.reduceLE, Int.reduceNeg, Int.reduceBEq, Int.reduceBNe, Int.reduceToNat]; repeat (simp (disch := omega) only [wrap_small, getD_map_lt, getD_range]; try simp only [go_sem, Nat.reduceSub, reduceIte, Nat.reduceEqDiff, Nat.reduceLT, Nat.reduceMul, Nat.reduceAdd, Nat.reduceBEq, Nat.reduceLeDiff, Int.reduceLT, Int.reduceLE, Int.reduceNeg, Int.reduceBEq, Int.reduceBNe, Int.reduceToNat, List.length_map, matT, brow, idxs_len, hjt]))
              | (refine AV.cond ?_ ?_ (fun hc => ?_) (fun hc => ?_) <;> (try simp only [go_sem, Nat.reduceSub, reduceIte, Nat.reduceEqDiff, Nat.reduceLT, Nat.reduceMul, Nat.reduceAdd, Nat.reduceBEq, Nat.reduceLeDiff, Int.reduceLT, Int.reduceLE, Int.reduceNeg, Int.reduceBEq, Int.reduceBNe, Int.reduceToNat, beq_iff_eq, beq_eq_false_iff_ne] at hc) <;> (try simp only [go_sem, Nat.reduceSub, reduceIte, Nat.reduceEqDiff, Nat.reduceLT, Nat.reduceMul, Nat.reduceAdd, Nat.reduceBEq, Nat.reduceLeDiff, Int.reduceLT, Int.reduceLE, Int.reduceNeg, Int.reduceBEq, Int.reduceBNe, Int.reduceToNat]))
              | ((first | refine AV.skip ?_ | refine AV.exit ?_); simp only [go_sem, Nat.reduceSub, reduceIte, Nat.reduceEqDiff, Nat.reduceLT, Nat.reduceMul, Nat.reduceAdd, Nat.reduceBEq, Nat.reduceLeDiff, Int.reduceLT, Int.reduceLE, Int.reduceNeg, Int.reduceBEq, Int.reduceBNe, Int.reduceToNat])
              | (refine AV.ret ?_; (try simp only [go_sem, Nat.reduceSub, reduceIte, Nat.reduceEqDiff, Nat.reduceLT, Nat.reduceMul, Nat.reduceAdd, Nat.reduceBEq, Nat.reduceLeDiff, Int.reduceLT, Int.reduceLE, Int.reduceNeg, Int.reduceBEq, Int.reduceBNe, Int.reduceToNat]); first | refine atEnd_t (by simp only [go_sem, Nat.reduceSub, reduceIte, Nat.reduceEqDiff, Nat.reduceLT, Nat.reduceMul, Nat.reduceAdd, Nat.reduceBEq, Nat.reduceLeDiff, Int.reduceLT, Int.reduceLE, Int.reduceNeg, Int.reduceBEq, Int.reduceBNe, Int.reduceToNat] <;> rfl) ?_ (by first | (simp [rxT]; done) | exact leftT_tup _) | refine atEnd_c (by simp only [go_sem, Nat.reduceSub, reduceIte, Nat.reduceEqDiff, Nat.reduceLT, Nat.reduceMul, Nat.reduceAdd, Nat.reduceBEq, Nat.reduceLeDiff, Int.reduceLT, Int.reduceLE, Int.reduceNeg, Int.reduceBEq, Int.reduceBNe, Int.reduceToNat] <;> rfl) ?_ (by first | (simp [rxT]; done) | exact leftT_tup _) | refine atEnd_ct (by simp only [go_sem, Nat.reduceSub, reduceIte, Nat.reduceEqDiff, Nat.reduceLT, Nat.reduceMul, Nat.reduceAdd, Nat.reduceBEq, Nat.reduceLeDiff, Int.reduceLT, Int.reduceLE, Int.reduceNeg, Int.reduceBEq, Int.reduceBNe, Int.reduceToNat] <;> rfl) ?_ (by first | (simp; done) | exact leftT_tup _) (by simp only [go_sem, Nat.reduceSub, reduceIte, Nat.reduceEqDiff, Nat.reduceLT, Nat.reduceMul, Nat.reduceAdd, Nat.reduceBEq, Nat.reduceLeDiff, Int.reduceLT, Int.reduceLE, Int.reduceNeg, Int.reduceBEq, Int.reduceBNe, Int.reduceToNat] <;> rfl) ?_ (by simp) | refine atEnd_o (by simp only [go_sem, Nat.reduceSub, reduceIte, Nat.reduceEqDiff, Nat.reduceLT, Nat.reduceMul, Nat.reduceAdd, Nat.reduceBEq, Nat.reduceLeDiff, Int.reduceLT, Int.reduceLE, Int.reduceNeg, Int.reduceBEq, Int.reduceBNe, Int.reduceToNat] <;> rfl) ?_)
              | (refine And.intro ?_ ?_)
              | (with_reducible intro _)
            all_goals try first | exact True.intro | omega | exact ⟨_, _, rfl⟩ | exact allSolid_pcs _ | exact allSolid_one _ | exact allSolid_bool _ | rfl
            refine ⟨m' - 1, by omega, k + 1, h, by omega, by omega, ?_, rfl⟩
            intro a b ha hb
            rw [hh a b ha hb]
            constructor
            · rintro ((h1 | ⟨h1, h2⟩ | h1) | ⟨h1, h2, _, h5⟩)
              · exact .inl h1
              · subst h1; exact .inr (.inl ⟨rfl, (agK_step f k a b hik).2 (.inl h2)⟩)
              · exact .inr (.inr h1)
              · subst h1; exact .inr (.inl ⟨rfl, (agK_step f k a b hik).2 (.inr ⟨h2, h5⟩)⟩)
            · rintro (h1 | ⟨h1, h2⟩ | h1)
              · exact .inl (.inl h1)
              · subst h1
                rcases (agK_step f k a b hik).1 h2 with h3 | ⟨h3, h5⟩
                · exact .inl (.inr (.inl ⟨rfl, h3⟩))
                · exact .inr ⟨rfl, h3, by omega, h5⟩
              · exact .inl (.inr (.inr h1))
        · intro a b ha hb
          rw [hh a b ha hb]
          constructor
          · intro h; exact .inl h
          · rintro (h | ⟨_, _, h, h'⟩)
            · exact h
            · have := h'.le; omega
      · refine ⟨i, by omega, h, by omega, ?_, rfl⟩
        intro a b ha hb
        rw [hh a b ha hb]
        have : k = n + 1 := by omega
        subst this
        rw [agK_all n f a b hb]
        constructor
        · rintro (⟨h1, h2⟩ | ⟨h1, h2⟩ | ⟨h1, h2⟩)
          · exact .inl ⟨by omega, h2⟩
          · exact .inl ⟨by omega, h2⟩
          · exact .inr ⟨h1, h2⟩
        · rintro (⟨h1, h2⟩ | ⟨h1, h2⟩)
          · by_cases e : a = i
            · exact .inr (.inl ⟨e, h2⟩)
            · exact .inl ⟨by omega, h2⟩
          · exact .inr (.inr ⟨h1, h2⟩)
    · intro a b ha hb
      rw [hh a b ha hb]
      constructor
      · rintro (⟨h1, h2⟩ | ⟨h1, h2⟩)
        · exact .inl ⟨by omega, h2⟩
        · by_cases e : a = i
          · subst e; exact .inr (.inl ⟨rfl, (agK_none f a b).2 h2⟩)
          · exact .inr (.inr ⟨by omega, h2⟩)
      · rintro (⟨h1, h2⟩ | ⟨rfl, h2⟩ | ⟨h1, h2⟩)
        · exact .inl ⟨by omega, h2⟩
        · exact .inr ⟨by omega, (agK_none f a b).1 h2⟩
        · exact .inr ⟨by omega, h2⟩
end Go.Proofs.Ytaefhdklkbohmaa
/- deriv: cat, alt. -/
namespace Go.Proofs.Ytaefhdklkbohmaa
open Go Go.RowKit
set_option linter.unusedSimpArgs false
set_option maxRecDepth 20000
def oe : Option Rx → List Pc
  | .none => []
  | .some t => t.enc
def leftT (x : Option Rx) : T := .agg [.bool x.isNone, .sl 5 ((oe x).map pcT)]
theorem leftT_solid (x : Option Rx) : (leftT x).solid = true := rfl
theorem leftT_leaves (x : Option Rx) : (leftT x).leaves = [.bool x.isNone, .sl 5 ((oe x).map pcT)] := rfl
theorem leftT_isAgg (x : Option Rx) : (leftT x).isAgg = True := rfl
theorem leftT_isAny (x : Option Rx) : (leftT x).isAny = false := rfl
theorem leftT_isLeaf (x : Option Rx) : (leftT x).isLeaf = false := rfl
theorem leftT_none : leftT .none = .agg [.bool true, .sl 5 []] := rfl
theorem leftT_some (t : Rx) : leftT (.some t) = .agg [.bool false, .sl 5 (t.enc.map pcT)] := rfl
theorem leftT_tup (x : Option Rx) : ∀ us, leftT x ≠ .tup us := by
  intro us h
  cases x <;> cases h
theorem none_iff (a : Rx) (h : 0 < a.enc.length) : (bif ((a.enc.length : Int) == 1) then (a.enc[0].kind == 0) else false) = decide (a = .none) := by
  cases a with
  | none => rfl
  | one s => rfl
  | cat x y =>
    have := x.enc_pos
    have h1 : ((Rx.cat x y).enc.length : Int) ≠ 1 := by simp only [Rx.enc, List.length_append, List.length_cons, List.length_nil]; omega
    rw [beq_eq_false_iff_ne.2 h1]; rfl
  | alt x y =>
    have := x.enc_pos
    have h1 : ((Rx.alt x y).enc.length : Int) ≠ 1 := by simp only [Rx.enc, List.length_append, List.length_cons, List.length_nil]; omega
    rw [beq_eq_false_iff_ne.2 h1]; rfl
  | star x =>
    have := x.enc_pos
    have h1 : ((Rx.star x).enc.length : Int) ≠ 1 := by simp only [Rx.enc, List.length_append, List.length_cons, List.length_nil]; omega
    rw [beq_eq_false_iff_ne.2 h1]; rfl
  | plus x =>
    have := x.enc_pos
    have h1 : ((Rx.plus x).enc.length : Int) ≠ 1 := by simp only [Rx.enc, List.length_append, List.length_cons, List.length_nil]; omega
    rw [beq_eq_false_iff_ne.2 h1]; rfl
  | opt x =>
    have := x.enc_pos
    have h1 : ((Rx.opt x).enc.length : Int) ≠ 1 := by simp only [Rx.enc, List.length_append, List.length_cons, List.length_nil]; omega
    rw [beq_eq_false_iff_ne.2 h1]; rfl
theorem cat76_ss (a b : Rx) (h : a.enc.length + b.enc.length < 1073741824) : ACalls Try.prog 76 [leftT (.some a), leftT (.some b)] .sh (leftT (lcat (.some a) (.some b))) := by
  refine ACalls.of n76 rfl (m76 _ rfl) q76 (by simp only [List.length_cons, List.length_nil]; decide) (fun C hC => ?_)
  have hN : C.N = 48 := hC
  have ha := a.enc_pos
  have hb := b.enc_pos
  repeat' first
    | refine AV.seq ?_
    | refine AV.block ?_
    | ((first | refine AV.reg ?_ | refine AV.regD mixed ?_); simp only [hN, c76R0, c76R1, c76R2, c76R3, c76R4, c76R5, c76R6, c76R7, leftT_some, rxT, List.length_map, pcT, S4.ts, go_sem, Nat.reduceSub, reduceIte, Nat.reduceEqDiff, Nat.reduceLT, Nat.reduceMul, Nat.reduceAdd, Nat.reduceBEq, Nat.reduceLeDiff, Int.reduceLT, Int.reduceLE, Int.reduceNeg, Int.reduceBEq, Int.reduceBNe, Int.reduceToNat]; repeat (simp (disch := omega) only [wrap_small, getD_map_lt]; try simp only [go_sem, Nat.reduceSub, reduceIte, Nat.reduceEqDiff, Nat.reduceLT, Nat.reduceMul, Nat.reduceAdd, Nat.reduceBEq, Nat.reduceLeDiff, Int.reduceLT, Int.reduceLE, Int.reduceNeg, Int.reduceBEq, Int.reduceBNe, Int.reduceToNat, leftT_some, rxT, List.length_map, pcT, S4.ts]))
    | (refine AV.cond ?_ ?_ (fun hc => ?_) (fun hc => ?_) <;> (try simp only [go_sem, Nat.reduceSub, reduceIte, Nat.reduceEqDiff, Nat.reduceLT, Nat.reduceMul, Nat.reduceAdd, Nat.reduceBEq, Nat.reduceLeDiff, Int.reduceLT, Int.reduceLE, Int.reduceNeg, Int.reduceBEq, Int.reduceBNe, Int.reduceToNat, beq_iff_eq, beq_eq_false_iff_ne] at hc) <;> (try simp only [go_sem, Nat.reduceSub, reduceIte, Nat.reduceEqDiff, Nat.reduceLT, Nat.reduceMul, Nat.reduceAdd, Nat.reduceBEq, Nat.reduceLeDiff, Int.reduceLT, Int.reduceLE, Int.reduceNeg, Int.reduceBEq, Int.reduceBNe, Int.reduceToNat]))
    | ((first | refine AV.skip ?_ | refine AV.exit ?_); simp only [go_sem, Nat.reduceSub, reduceIte, Nat.reduceEqDiff, Nat.reduceLT, Nat.reduceMul, Nat.reduceAdd, Nat.reduceBEq, Nat.reduceLeDiff, Int.reduceLT, Int.reduceLE, Int.reduceNeg, Int.reduceBEq, Int.reduceBNe, Int.reduceToNat])
    | ((first | refine ⟨_, _, join78_spec 2 [a.enc, b.enc] rfl (by simp) (by simp; omega), rfl, ?_⟩ | refine ⟨_, _, join78_spec 2 [a.enc, b.enc] rfl (by simp) (by simp; omega), ?_⟩ | refine ⟨_, _, fun _ => join78_spec 2 [a.enc, b.enc] rfl (by simp) (by simp; omega), rfl, fun _ => trivial, ?_⟩); (try simp only [go_sem, Nat.reduceSub, reduceIte, Nat.reduceEqDiff, Nat.reduceLT, Nat.reduceMul, Nat.reduceAdd, Nat.reduceBEq, Nat.reduceLeDiff, Int.reduceLT, Int.reduceLE, Int.reduceNeg, Int.reduceBEq, Int.reduceBNe, Int.reduceToNat, leftT_some, rxT, List.length_map, pcT, S4.ts]); repeat (simp (disch := omega) only [wrap_small, getD_map_lt]; try simp only [go_sem, Nat.reduceSub, reduceIte, Nat.reduceEqDiff, Nat.reduceLT, Nat.reduceMul, Nat.reduceAdd, Nat.reduceBEq, Nat.reduceLeDiff, Int.reduceLT, Int.reduceLE, Int.reduceNeg, Int.reduceBEq, Int.reduceBNe, Int.reduceToNat, leftT_some, rxT, List.length_map, pcT, S4.ts]))
    | ((first | refine ⟨.sh, .bool false, rfl, trivial, ?_⟩ | refine ⟨.sh, .bool false, rfl, ?_⟩); try simp only [go_sem, Nat.reduceSub, reduceIte, Nat.reduceEqDiff, Nat.reduceLT, Nat.reduceMul, Nat.reduceAdd, Nat.reduceBEq, Nat.reduceLeDiff, Int.reduceLT, Int.reduceLE, Int.reduceNeg, Int.reduceBEq, Int.reduceBNe, Int.reduceToNat])
    | (refine AV.ret ?_; (try simp only [go_sem, Nat.reduceSub, reduceIte, Nat.reduceEqDiff, Nat.reduceLT, Nat.reduceMul, Nat.reduceAdd, Nat.reduceBEq, Nat.reduceLeDiff, Int.reduceLT, Int.reduceLE, Int.reduceNeg, Int.reduceBEq, Int.reduceBNe, Int.reduceToNat]); first | refine atEnd_t (by simp only [go_sem, Nat.reduceSub, reduceIte, Nat.reduceEqDiff, Nat.reduceLT, Nat.reduceMul, Nat.reduceAdd, Nat.reduceBEq, Nat.reduceLeDiff, Int.reduceLT, Int.reduceLE, Int.reduceNeg, Int.reduceBEq, Int.reduceBNe, Int.reduceToNat] <;> rfl) ?_ (by first | (simp [rxT]; done) | exact leftT_tup _) | refine atEnd_c (by simp only [go_sem, Nat.reduceSub, reduceIte, Nat.reduceEqDiff, Nat.reduceLT, Nat.reduceMul, Nat.reduceAdd, Nat.reduceBEq, Nat.reduceLeDiff, Int.reduceLT, Int.reduceLE, Int.reduceNeg, Int.reduceBEq, Int.reduceBNe, Int.reduceToNat] <;> rfl) ?_ (by first | (simp [rxT]; done) | exact leftT_tup _) | refine atEnd_ct (by simp only [go_sem, Nat.reduceSub, reduceIte, Nat.reduceEqDiff, Nat.reduceLT, Nat.reduceMul, Nat.reduceAdd, Nat.reduceBEq, Nat.reduceLeDiff, Int.reduceLT, Int.reduceLE, Int.reduceNeg, Int.reduceBEq, Int.reduceBNe, Int.reduceToNat] <;> rfl) ?_ (by first | (simp; done) | exact leftT_tup _) (by simp only [go_sem, Nat.reduceSub, reduceIte, Nat.reduceEqDiff, Nat.reduceLT, Nat.reduceMul, Nat.reduceAdd, Nat.reduceBEq, Nat.reduceLeDiff, Int.reduceLT, Int.reduceLE, Int.reduceNeg, Int.reduceBEq, Int.reduceBNe, Int.reduceToNat] <;> rfl) ?_ (by simp) | refine atEnd_o (by simp only [go_sem, Nat.reduceSub, reduceIte, Nat.reduceEqDiff, Nat.reduceLT, Nat.reduceMul, Nat.reduceAdd, Nat.reduceBEq, Nat.reduceLeDiff, Int.reduceLT, Int.reduceLE, Int.reduceNeg, Int.reduceBEq, Int.reduceBNe, Int.reduceToNat] <;> rfl) ?_)
    | (refine And.intro ?_ ?_)
    | (with_reducible intro _)
  all_goals try first | exact True.intro | omega | exact ⟨_, _, rfl⟩ | exact allSolid_pcs _ | exact allSolid_one _ | exact allSolid_bool _ | rfl
  · rw [none_iff a ha, decide_eq_true_eq] at hc
    rw [lcat, if_pos hc]; rfl
  · rename_i h1
    rw [none_iff a ha, decide_eq_false_iff_not] at h1
    rw [none_iff b hb, decide_eq_true_eq] at hc
    rw [lcat, if_neg h1, if_pos hc]; rfl
  · rename_i h1
    rw [none_iff a ha, decide_eq_false_iff_not] at h1
    rw [none_iff b hb, decide_eq_false_iff_not] at hc
    rw [lcat, if_neg h1, if_neg hc, leftT_some]
    simp [Rx.enc]
theorem cat76_n (y : Option Rx) : ACalls Try.prog 76 [leftT .none, leftT y] .sh (leftT (lcat .none y)) := by
  refine ACalls.of n76 rfl (m76 _ rfl) q76 (by simp only [List.length_cons, List.length_nil]; decide) (fun C hC => ?_)
  have hN : C.N = 48 := hC
  have e : leftT (lcat .none y) = .agg [.bool true, .sl 5 []] := rfl
  rw [e]
  obtain ⟨v, r, hy⟩ : ∃ v r, leftT y = .agg [.bool v, .sl 5 r] := by cases y <;> exact ⟨_, _, rfl⟩
  rw [hy]
  repeat' first
    | refine AV.seq ?_
    | refine AV.block ?_
    | ((first | refine AV.reg ?_ | refine AV.regD mixed ?_); simp only [hN, c76R0, c76R1, c76R2, c76R3, c76R4, c76R5, c76R6, c76R7, leftT_none, rxT, List.length_map, pcT, S4.ts, go_sem, Nat.reduceSub, reduceIte, Nat.reduceEqDiff, Nat.reduceLT, Nat.reduceMul, Nat.reduceAdd, Nat.reduceBEq, Nat.reduceLeDiff, Int.reduceLT, Int.reduceLE, Int.reduceNeg, Int.reduceBEq, Int.reduceBNe, Int.reduceToNat]; repeat (simp (disch := omega) only [wrap_small, getD_map_lt]; try simp only [go_sem, Nat.reduceSub, reduceIte, Nat.reduceEqDiff, Nat.reduceLT, Nat.reduceMul, Nat.reduceAdd, Nat.reduceBEq, Nat.reduceLeDiff, Int.reduceLT, Int.reduceLE, Int.reduceNeg, Int.reduceBEq, Int.reduceBNe, Int.reduceToNat, leftT_none, rxT, List.length_map, pcT, S4.ts]))
    | (refine AV.cond ?_ ?_ (fun hc => ?_) (fun hc => ?_) <;> (try simp only [go_sem, Nat.reduceSub, reduceIte, Nat.reduceEqDiff, Nat.reduceLT, Nat.reduceMul, Nat.reduceAdd, Nat.reduceBEq, Nat.reduceLeDiff, Int.reduceLT, Int.reduceLE, Int.reduceNeg, Int.reduceBEq, Int.reduceBNe, Int.reduceToNat, beq_iff_eq, beq_eq_false_iff_ne] at hc) <;> (try simp only [go_sem, Nat.reduceSub, reduceIte, Nat.reduceEqDiff, Nat.reduceLT, Nat.reduceMul, Nat.reduceAdd, Nat.reduceBEq, Nat.reduceLeDiff, Int.reduceLT, Int.reduceLE, Int.reduceNeg, Int.reduceBEq, Int.reduceBNe, Int.reduceToNat]))
    | ((first | refine AV.skip ?_ | refine AV.exit ?_); simp only [go_sem, Nat.reduceSub, reduceIte, Nat.reduceEqDiff, Nat.reduceLT, Nat.reduceMul, Nat.reduceAdd, Nat.reduceBEq, Nat.reduceLeDiff, Int.reduceLT, Int.reduceLE, Int.reduceNeg, Int.reduceBEq, Int.reduceBNe, Int.reduceToNat])
    | (refine AV.ret ?_; (try simp only [go_sem, Nat.reduceSub, reduceIte, Nat.reduceEqDiff, Nat.reduceLT, Nat.reduceMul, Nat.reduceAdd, Nat.reduceBEq, Nat.reduceLeDiff, Int.reduceLT, Int.reduceLE, Int.reduceNeg, Int.reduceBEq, Int.reduceBNe, Int.reduceToNat]); first | refine atEnd_t (by simp only [go_sem, Nat.reduceSub, reduceIte, Nat.reduceEqDiff, Nat.reduceLT, Nat.reduceMul, Nat.reduceAdd, Nat.reduceBEq, Nat.reduceLeDiff, Int.reduceLT, Int.reduceLE, Int.reduceNeg, Int.reduceBEq, Int.reduceBNe, Int.reduceToNat] <;> rfl) ?_ (by first | (simp [rxT]; done) | exact leftT_tup _) | refine atEnd_c (by simp only [go_sem, Nat.reduceSub, reduceIte, Nat.reduceEqDiff, Nat.reduceLT, Nat.reduceMul, Nat.reduceAdd, Nat.reduceBEq, Nat.reduceLeDiff, Int.reduceLT, Int.reduceLE, Int.reduceNeg, Int.reduceBEq, Int.reduceBNe, Int.reduceToNat] <;> rfl) ?_ (by first | (simp [rxT]; done) | exact leftT_tup _) | refine atEnd_ct (by simp only [go_sem, Nat.reduceSub, reduceIte, Nat.reduceEqDiff, Nat.reduceLT, Nat.reduceMul, Nat.reduceAdd, Nat.reduceBEq, Nat.reduceLeDiff, Int.reduceLT, Int.reduceLE, Int.reduceNeg, Int.reduceBEq, Int.reduceBNe, Int.reduceToNat] <;> rfl) ?_ (by first | (simp; done) | exact leftT_tup _) (by simp only [go_sem, Nat.reduceSub, reduceIte, Nat.reduceEqDiff, Nat.reduceLT, Nat.reduceMul, Nat.reduceAdd, Nat.reduceBEq, Nat.reduceLeDiff, Int.reduceLT, Int.reduceLE, Int.reduceNeg, Int.reduceBEq, Int.reduceBNe, Int.reduceToNat] <;> rfl) ?_ (by simp) | refine atEnd_o (by simp only [go_sem, Nat.reduceSub, reduceIte, Nat.reduceEqDiff, Nat.reduceLT, Nat.reduceMul, Nat.reduceAdd, Nat.reduceBEq, Nat.reduceLeDiff, Int.reduceLT, Int.reduceLE, Int.reduceNeg, Int.reduceBEq, Int.reduceBNe, Int.reduceToNat] <;> rfl) ?_)
    | (refine And.intro ?_ ?_)
    | (with_reducible intro _)
  all_goals try first | exact True.intro | omega | exact ⟨_, _, rfl⟩ | exact allSolid_pcs _ | exact allSolid_one _ | exact allSolid_bool _ | rfl
/-- deriv.cat, as the program calls it. -/
theorem cat76_spec (x : Option Rx) (b : Rx) (h : olen x + b.enc.length < 1073741824) : ACalls Try.prog 76 [leftT x, leftT (.some b)] .sh (leftT (lcat x (.some b))) := by
  cases x with
  | none => exact cat76_n _
  | some a => exact cat76_ss a b h
theorem alt77_n (y : Option Rx) : ACalls Try.prog 77 [leftT .none, leftT y] .sh (leftT (lalt .none y)) := by
  refine ACalls.of n77 rfl (m77 _ rfl) q77 (by simp only [List.length_cons, List.length_nil]; decide) (fun C hC => ?_)
  have hN : C.N = 27 := hC
  have e : leftT (lalt .none y) = leftT y := rfl
  rw [e]
  obtain ⟨v, r, hy⟩ : ∃ v r, leftT y = .agg [.bool v, .sl 5 r] := by cases y <;> exact ⟨_, _, rfl⟩
  rw [hy]
  repeat' first
    | refine AV.seq ?_
    | refine AV.block ?_
    | ((first | refine AV.reg ?_ | refine AV.regD mixed ?_); simp only [hN, c77R0, c77R1, c77R2, c77R3, c77R4, c77R5, leftT_none, rxT, List.length_map, pcT, S4.ts, go_sem, Nat.reduceSub, reduceIte, Nat.reduceEqDiff, Nat.reduceLT, Nat.reduceMul, Nat.reduceAdd, Nat.reduceBEq, Nat.reduceLeDiff, Int.reduceLT, Int.reduceLE, Int.reduceNeg, Int.reduceBEq, Int.reduceBNe, Int.reduceToNat]; repeat (simp (disch := omega) only [wrap_small, getD_map_lt]; try simp only [go_sem, Nat.reduceSub, reduceIte, Nat.reduceEqDiff, Nat.reduceLT, Nat.reduceMul, Nat.reduceAdd, Nat.reduceBEq, Nat.reduceLeDiff, Int.reduceLT, Int.reduceLE, Int.reduceNeg, Int.reduceBEq, Int.reduceBNe, Int.reduceToNat, leftT_none, rxT, List.length_map, pcT, S4.ts]))
    | (refine AV.cond ?_ ?_ (fun hc => ?_) (fun hc => ?_) <;> (try simp only [go_sem, Nat.reduceSub, reduceIte, Nat.reduceEqDiff, Nat.reduceLT, Nat.reduceMul, Nat.reduceAdd, Nat.reduceBEq, Nat.reduceLeDiff, Int.reduceLT, Int.reduceLE, Int.reduceNeg, Int.reduceBEq, Int.reduceBNe, Int.reduceToNat, beq_iff_eq, beq_eq_false_iff_ne] at hc) <;> (try simp only [go_sem, Nat.reduceSub, reduceIte, Nat.reduceEqDiff, Nat.reduceLT, Nat.reduceMul, Nat.reduceAdd, Nat.reduceBEq, Nat.reduceLeDiff, Int.reduceLT, Int.reduceLE, Int.reduceNeg, Int.reduceBEq, Int.reduceBNe, Int.reduceToNat]))
    | ((first | refine AV.skip ?_ | refine AV.exit ?_); simp only [go_sem, Nat.reduceSub, reduceIte, Nat.reduceEqDiff, Nat.reduceLT, Nat.reduceMul, Nat.reduceAdd, Nat.reduceBEq, Nat.reduceLeDiff, Int.reduceLT, Int.reduceLE, Int.reduceNeg, Int.reduceBEq, Int.reduceBNe, Int.reduceToNat])
    | (refine AV.ret ?_; (try simp only [go_sem, Nat.reduceSub, reduceIte, Nat.reduceEqDiff, Nat.reduceLT, Nat.reduceMul, Nat.reduceAdd, Nat.reduceBEq, Nat.reduceLeDiff, Int.reduceLT, Int.reduceLE, Int.reduceNeg, Int.reduceBEq, Int.reduceBNe, Int.reduceToNat]); first | refine atEnd_t (by simp only [go_sem, Nat.reduceSub, reduceIte, Nat.reduceEqDiff, Nat.reduceLT, Nat.reduceMul, Nat.reduceAdd, Nat.reduceBEq, Nat.reduceLeDiff, Int.reduceLT, Int.reduceLE, Int.reduceNeg, Int.reduceBEq, Int.reduceBNe, Int.reduceToNat] <;> rfl) ?_ (by first | (simp [rxT]; done) | exact leftT_tup _) | refine atEnd_c (by simp only [go_sem, Nat.reduceSub, reduceIte, Nat.reduceEqDiff, Nat.reduceLT, Nat.reduceMul, Nat.reduceAdd, Nat.reduceBEq, Nat.reduceLeDiff, Int.reduceLT, Int.reduceLE, Int.reduceNeg, Int.reduceBEq, Int.reduceBNe, Int.reduceToNat] <;> rfl) ?_ (by first | (simp [rxT]; done) | exact leftT_tup _) | refine atEnd_ct (by simp only [go_sem, Nat.reduceSub, reduceIte, Nat.reduceEqDiff, Nat.reduceLT, Nat.reduceMul, Nat.reduceAdd, Nat.reduceBEq, Nat.reduceLeDiff, Int.reduceLT, Int.reduceLE, Int.reduceNeg, Int.reduceBEq, Int.reduceBNe, Int.reduceToNat] <;> rfl) ?_ (by first | (simp; done) | exact leftT_tup _) (by simp only [go_sem, Nat.reduceSub, reduceIte, Nat.reduceEqDiff, Nat.reduceLT, Nat.reduceMul, Nat.reduceAdd, Nat.reduceBEq, Nat.reduceLeDiff, Int.reduceLT, Int.reduceLE, Int.reduceNeg, Int.reduceBEq, Int.reduceBNe, Int.reduceToNat] <;> rfl) ?_ (by simp) | refine atEnd_o (by simp only [go_sem, Nat.reduceSub, reduceIte, Nat.reduceEqDiff, Nat.reduceLT, Nat.reduceMul, Nat.reduceAdd, Nat.reduceBEq, Nat.reduceLeDiff, Int.reduceLT, Int.reduceLE, Int.reduceNeg, Int.reduceBEq, Int.reduceBNe, Int.reduceToNat] <;> rfl) ?_)
    | (refine And.intro ?_ ?_)
    | (with_reducible intro _)
  all_goals try first | exact True.intro | omega | exact ⟨_, _, rfl⟩ | exact allSolid_pcs _ | exact allSolid_one _ | exact allSolid_bool _ | rfl
theorem alt77_sn (a : Rx) : ACalls Try.prog 77 [leftT (.some a), leftT .none] .sh (leftT (lalt (.some a) .none)) := by
  refine ACalls.of n77 rfl (m77 _ rfl) q77 (by simp only [List.length_cons, List.length_nil]; decide) (fun C hC => ?_)
  have hN : C.N = 27 := hC
  have e : leftT (lalt (.some a) .none) = leftT (.some a) := rfl
  rw [e]
  repeat' first
    | refine AV.seq ?_
    | refine AV.block ?_
    | ((first | refine AV.reg ?_ | refine AV.regD mixed ?_); simp only [hN, c77R0, c77R1, c77R2, c77R3, c77R4, c77R5, leftT_none, leftT_some, rxT, List.length_map, pcT, S4.ts, go_sem, Nat.reduceSub, reduceIte, Nat.reduceEqDiff, Nat.reduceLT, Nat.reduceMul, Nat.reduceAdd, Nat.reduceBEq, Nat.reduceLeDiff, Int.reduceLT, Int.reduceLE, Int.reduceNeg, Int.reduceBEq, Int.reduceBNe, Int.reduceToNat]; repeat (simp (disch := omega) only [wrap_small, getD_map_lt]; try simp only [go_sem, Nat.reduceSub, reduceIte, Nat.reduceEqDiff, Nat.reduceLT, Nat.reduceMul, Nat.reduceAdd, Nat.reduceBEq, Nat.reduceLeDiff, Int.reduceLT, Int.reduceLE, Int.reduceNeg, Int.reduceBEq, Int.reduceBNe, Int.reduceToNat, leftT_none, leftT_some, rxT, List.length_map, pcT, S4.ts]))
    | (refine AV.cond ?_ ?_ (fun hc => ?_) (fun hc => ?_) <;> (try simp only [go_sem, Nat.reduceSub, reduceIte, Nat.reduceEqDiff, Nat.reduceLT, Nat.reduceMul, Nat.reduceAdd, Nat.reduceBEq, Nat.reduceLeDiff, Int.reduceLT, Int.reduceLE, Int.reduceNeg, Int.reduceBEq, Int.reduceBNe, Int.reduceToNat, beq_iff_eq, beq_eq_false_iff_ne] at hc) <;> (try simp only [go_sem, Nat.reduceSub, reduceIte, Nat.reduceEqDiff, Nat.reduceLT, Nat.reduceMul, Nat.reduceAdd, Nat.reduceBEq, Nat.reduceLeDiff, Int.reduceLT, Int.reduceLE, Int.reduceNeg, Int.reduceBEq, Int.reduceBNe, Int.reduceToNat]))
    | ((first | refine AV.skip ?_ | refine AV.exit ?_); simp only [go_sem, Nat.reduceSub, reduceIte, Nat.reduceEqDiff, Nat.reduceLT, Nat.reduceMul, Nat.reduceAdd, Nat.reduceBEq, Nat.reduceLeDiff, Int.reduceLT, Int.reduceLE, Int.reduceNeg, Int.reduceBEq, Int.reduceBNe, Int.reduceToNat])
    | ((first | refine ⟨_, _, same110_spec _ _ (by omega), rfl, ?_⟩ | refine ⟨_, _, same110_spec _ _ (by omega), ?_⟩ | refine ⟨_, _, fun _ => same110_spec _ _ (by omega), rfl, fun _ => trivial, ?_⟩); (try simp only [go_sem, Nat.reduceSub, reduceIte, Nat.reduceEqDiff, Nat.reduceLT, Nat.reduceMul, Nat.reduceAdd, Nat.reduceBEq, Nat.reduceLeDiff, Int.reduceLT, Int.reduceLE, Int.reduceNeg, Int.reduceBEq, Int.reduceBNe, Int.reduceToNat, leftT_none, leftT_some, rxT, List.length_map, pcT, S4.ts]); repeat (simp (disch := omega) only [wrap_small, getD_map_lt]; try simp only [go_sem, Nat.reduceSub, reduceIte, Nat.reduceEqDiff, Nat.reduceLT, Nat.reduceMul, Nat.reduceAdd, Nat.reduceBEq, Nat.reduceLeDiff, Int.reduceLT, Int.reduceLE, Int.reduceNeg, Int.reduceBEq, Int.reduceBNe, Int.reduceToNat, leftT_none, leftT_some, rxT, List.length_map, pcT, S4.ts]))
    | ((first | refine ⟨.sh, .bool false, rfl, trivial, ?_⟩ | refine ⟨.sh, .bool false, rfl, ?_⟩); try simp only [go_sem, Nat.reduceSub, reduceIte, Nat.reduceEqDiff, Nat.reduceLT, Nat.reduceMul, Nat.reduceAdd, Nat.reduceBEq, Nat.reduceLeDiff, Int.reduceLT, Int.reduceLE, Int.reduceNeg, Int.reduceBEq, Int.reduceBNe, Int.reduceToNat])
    | (refine AV.ret ?_; (try simp only [go_sem, Nat.reduceSub, reduceIte, Nat.reduceEqDiff, Nat.reduceLT, Nat.reduceMul, Nat.reduceAdd, Nat.reduceBEq, Nat.reduceLeDiff, Int.reduceLT, Int.reduceLE, Int.reduceNeg, Int.reduceBEq, Int.reduceBNe, Int.reduceToNat]); first | refine atEnd_t (by simp only [go_sem, Nat.reduceSub, reduceIte, Nat.reduceEqDiff, Nat.reduceLT, Nat.reduceMul, Nat.reduceAdd, Nat.reduceBEq, Nat.reduceLeDiff, Int.reduceLT, Int.reduceLE, Int.reduceNeg, Int.reduceBEq, Int.reduceBNe, Int.reduceToNat] <;> rfl) ?_ (by first | (simp [rxT]; done) | exact leftT_tup _) | refine atEnd_c (by simp only [go_sem, Nat.reduceSub, reduceIte, Nat.reduceEqDiff, Nat.reduceLT, Nat.reduceMul, Nat.reduceAdd, Nat.reduceBEq, Nat.reduceLeDiff, Int.reduceLT, Int.reduceLE, Int.reduceNeg, Int.reduceBEq, Int.reduceBNe, Int.reduceToNat] <;> rfl) ?_ (by first | (simp [rxT]; done) | exact leftT_tup _) | refine atEnd_ct (by simp only [go_sem, Nat.reduceSub, reduceIte, Nat.reduceEqDiff, Nat.reduceLT, Nat.reduceMul, Nat.reduceAdd, Nat.reduceBEq, Nat.reduceLeDiff, Int.reduceLT, Int.reduceLE, Int.reduceNeg, Int.reduceBEq, Int.reduceBNe, Int.reduceToNat] <;> rfl) ?_ (by first | (simp; done) | exact leftT_tup _) (by simp only [go_sem, Nat.reduceSub, reduceIte, Nat.reduceEqDiff, Nat.reduceLT, Nat.reduceMul, Nat.reduceAdd, Nat.reduceBEq, Nat.reduceLeDiff, Int.reduceLT, Int.reduceLE, Int.reduceNeg, Int.reduceBEq, Int.reduceBNe, Int.reduceToNat] <;> rfl) ?_ (by simp) | refine atEnd_o (by simp only [go_sem, Nat.reduceSub, reduceIte, Nat.reduceEqDiff, Nat.reduceLT, Nat.reduceMul, Nat.reduceAdd, Nat.reduceBEq, Nat.reduceLeDiff, Int.reduceLT, Int.reduceLE, Int.reduceNeg, Int.reduceBEq, Int.reduceBNe, Int.reduceToNat] <;> rfl) ?_)
    | (refine And.intro ?_ ?_)
    | (with_reducible intro _)
  all_goals try first | exact True.intro | omega | exact ⟨_, _, rfl⟩ | exact allSolid_pcs _ | exact allSolid_one _ | exact allSolid_bool _ | rfl
theorem alt77_ss (a b : Rx) (h : a.enc.length + b.enc.length < 1073741824) : ACalls Try.prog 77 [leftT (.some a), leftT (.some b)] .sh (leftT (lalt (.some a) (.some b))) := by
  refine ACalls.of n77 rfl (m77 _ rfl) q77 (by simp only [List.length_cons, List.length_nil]; decide) (fun C hC => ?_)
  have hN : C.N = 27 := hC
  repeat' first
    | refine AV.seq ?_
    | refine AV.block ?_
    | ((first | refine AV.reg ?_ | refine AV.regD mixed ?_); simp only [hN, c77R0, c77R1, c77R2, c77R3, c77R4, c77R5, leftT_none, leftT_some, rxT, List.length_map, pcT, S4.ts, go_sem, Nat.reduceSub, reduceIte, Nat.reduceEqDiff, Nat.reduceLT, Nat.reduceMul, Nat.reduceAdd, Nat.reduceBEq, Nat.reduceLeDiff, Int.reduceLT, Int.reduceLE, Int.reduceNeg, Int.reduceBEq, Int.reduceBNe, Int.reduceToNat]; repeat (simp (disch := omega) only [wrap_small, getD_map_lt]; try simp only [go_sem, Nat.reduceSub, reduceIte, Nat.reduceEqDiff, Nat.reduceLT, Nat.reduceMul, Nat.reduceAdd, Nat.reduceBEq, Nat.reduceLeDiff, Int.reduceLT, Int.reduceLE, Int.reduceNeg, Int.reduceBEq, Int.reduceBNe, Int.reduceToNat, leftT_none, leftT_some, rxT, List.length_map, pcT, S4.ts]))
    | (refine AV.cond ?_ ?_ (fun hc => ?_) (fun hc => ?_) <;> (try simp only [go_sem, Nat.reduceSub, reduceIte, Nat.reduceEqDiff, Nat.reduceLT, Nat.reduceMul, Nat.reduceAdd, Nat.reduceBEq, Nat.reduceLeDiff, Int.reduceLT, Int.reduceLE, Int.reduceNeg, Int.reduceBEq, Int.reduceBNe, Int.reduceToNat, beq_iff_eq, beq_eq_false_iff_ne] at hc) <;> (try simp only [go_sem, Nat.reduceSub, reduceIte, Nat.reduceEqDiff, Nat.reduceLT, Nat.reduceMul, Nat.reduceAdd, Nat.reduceBEq, Nat.reduceLeDiff, Int.reduceLT, Int.reduceLE, Int.reduceNeg, Int.reduceBEq, Int.reduceBNe, Int.reduceToNat]))
    | ((first | refine AV.skip ?_ | refine AV.exit ?_); simp only [go_sem, Nat.reduceSub, reduceIte, Nat.reduceEqDiff, Nat.reduceLT, Nat.reduceMul, Nat.reduceAdd, Nat.reduceBEq, Nat.reduceLeDiff, Int.reduceLT, Int.reduceLE, Int.reduceNeg, Int.reduceBEq, Int.reduceBNe, Int.reduceToNat])
    | ((first | refine ⟨_, _, same110_spec a.enc b.enc (by omega), rfl, ?_⟩ | refine ⟨_, _, same110_spec a.enc b.enc (by omega), ?_⟩ | refine ⟨_, _, fun _ => same110_spec a.enc b.enc (by omega), rfl, fun _ => trivial, ?_⟩ | refine ⟨_, _, join78_spec 3 [a.enc, b.enc] rfl (by simp) (by simp; omega), rfl, ?_⟩ | refine ⟨_, _, join78_spec 3 [a.enc, b.enc] rfl (by simp) (by simp; omega), ?_⟩ | refine ⟨_, _, fun _ => join78_spec 3 [a.enc, b.enc] rfl (by simp) (by simp; omega), rfl, fun _ => trivial, ?_⟩); (try simp only [go_sem, Nat.reduceSub, reduceIte, Nat.reduceEqDiff, Nat.reduceLT, Nat.reduceMul, Nat.reduceAdd, Nat.reduceBEq, Nat.reduceLeDiff, Int.reduceLT, Int.reduceLE, Int.reduceNeg, Int.reduceBEq, Int.reduceBNe, Int.reduceToNat, leftT_none, leftT_some, rxT, List.length_map, pcT, S4.ts]); repeat (simp (disch := omega) only [wrap_small, getD_map_lt]; try simp only [go_sem, Nat.reduceSub, reduceIte, Nat.reduceEqDiff, Nat.reduceLT, Nat.reduceMul, Nat.reduceAdd, Nat.reduceBEq, Nat.reduceLeDiff, Int.reduceLT, Int.reduceLE, Int.reduceNeg, Int.reduceBEq, Int.reduceBNe, Int.reduceToNat, leftT_none, leftT_some, rxT, List.length_map, pcT, S4.ts]))
    | ((first | refine ⟨.sh, .bool false, rfl, trivial, ?_⟩ | refine ⟨.sh, .bool false, rfl, ?_⟩); try simp only [go_sem, Nat.reduceSub, reduceIte, Nat.reduceEqDiff, Nat.reduceLT, Nat.reduceMul, Nat.reduceAdd, Nat.reduceBEq, Nat.reduceLeDiff, Int.reduceLT, Int.reduceLE, Int.reduceNeg, Int.reduceBEq, Int.reduceBNe, Int.reduceToNat])
    | (refine AV.ret ?_; (try simp only [go_sem, Nat.reduceSub, reduceIte, Nat.reduceEqDiff, Nat.reduceLT, Nat.reduceMul, Nat.reduceAdd, Nat.reduceBEq, Nat.reduceLeDiff, Int.reduceLT, Int.reduceLE, Int.reduceNeg, Int.reduceBEq, Int.reduceBNe, Int.reduceToNat]); first | refine atEnd_t (by simp only [go_sem, Nat.reduceSub, reduceIte, Nat.reduceEqDiff, Nat.reduceLT, Nat.reduceMul, Nat.reduceAdd, Nat.reduceBEq, Nat.reduceLeDiff, Int.reduceLT, Int.reduceLE, Int.reduceNeg, Int.reduceBEq, Int.reduceBNe, Int.reduceToNat] <;> rfl) ?_ (by first | (simp [rxT]; done) | exact leftT_tup _) | refine atEnd_c (by simp only [go_sem, Nat.reduceSub, reduceIte, Nat.reduceEqDiff, Nat.reduceLT, Nat.reduceMul, Nat.reduceAdd, Nat.reduceBEq, Nat.reduceLeDiff, Int.reduceLT, Int.reduceLE, Int.reduceNeg, Int.reduceBEq, Int.reduceBNe, Int.reduceToNat] <;> rfl) ?_ (by first | (simp [rxT]; done) | exact leftT_tup _) | refine atEnd_ct (by simp only [go_sem, Nat.reduceSub, reduceIte, Nat.reduceEqDiff, Nat.reduceLT, Nat.reduceMul, Nat.reduceAdd, Nat.reduceBEq, Nat.reduceLeDiff, Int.reduceLT, Int.reduceLE, Int.reduceNeg, Int.reduceBEq, Int.reduceBNe, Int.reduceToNat] <;> rfl) ?_ (by first | (simp; done) | exact leftT_tup _) (by simp only [go_sem, Nat.reduceSub, reduceIte, Nat.reduceEqDiff, Nat.reduceLT, Nat.reduceMul, Nat.reduceAdd, Nat.reduceBEq, Nat.reduceLeDiff, Int.reduceLT, Int.reduceLE, Int.reduceNeg, Int.reduceBEq, Int.reduceBNe, Int.reduceToNat] <;> rfl) ?_ (by simp) | refine atEnd_o (by simp only [go_sem, Nat.reduceSub, reduceIte, Nat.reduceEqDiff, Nat.reduceLT, Nat.reduceMul, Nat.reduceAdd, Nat.reduceBEq, Nat.reduceLeDiff, Int.reduceLT, Int.reduceLE, Int.reduceNeg, Int.reduceBEq, Int.reduceBNe, Int.reduceToNat] <;> rfl) ?_)
    | (refine And.intro ?_ ?_)
    | (with_reducible intro _)
  all_goals try first | exact True.intro | omega | exact ⟨_, _, rfl⟩ | exact allSolid_pcs _ | exact allSolid_one _ | exact allSolid_bool _ | rfl
  · rw [lalt, if_pos hc]; rfl
  · rw [lalt, if_neg hc, leftT_some]
    simp [Rx.enc]
/-- deriv.alt. -/
theorem alt77_spec (x y : Option Rx) (h : olen x + olen y < 1073741824) : ACalls Try.prog 77 [leftT x, leftT y] .sh (leftT (lalt x y)) := by
  cases x with
  | none => exact alt77_n _
  | some a =>
    cases y with
    | none => exact alt77_sn a
    | some b => exact alt77_ss a b h
end Go.Proofs.Ytaefhdklkbohmaa
/- Lists of pieces, run with a stack. -/
namespace Go.Proofs.Ytaefhdklkbohmaa
open Go Go.RowKit

def tkN (p : Pc) : Nat := (takes40 p.kind).toNat
def runM {α : Type} (step : Pc → List α → α) : List Pc → List α → List α
  | [], st => st
  | p :: ps, st => runM step ps (st.take (st.length - tkN p) ++ [step p (st.drop (st.length - tkN p))])
theorem runM_leaf {α : Type} (step : Pc → List α → α) (p : Pc) (ps : List Pc) (st : List α) (h : takes40 p.kind = 0) : runM step (p :: ps) st = runM step ps (st ++ [step p []]) := by
  have : tkN p = 0 := by rw [tkN, h]; rfl
  rw [runM, this]; simp
theorem runM_un {α : Type} (step : Pc → List α → α) (p : Pc) (ps : List Pc) (st : List α) (a : α) (h : takes40 p.kind = 1) : runM step (p :: ps) (st ++ [a]) = runM step ps (st ++ [step p [a]]) := by
  have : tkN p = 1 := by rw [tkN, h]; rfl
  rw [runM, this]; simp
theorem runM_bi {α : Type} (step : Pc → List α → α) (p : Pc) (ps : List Pc) (st : List α) (a b : α) (h : takes40 p.kind = 2) : runM step (p :: ps) (st ++ [a, b]) = runM step ps (st ++ [step p [a, b]]) := by
  have : tkN p = 2 := by rw [tkN, h]; rfl
  rw [runM, this]; simp
/-- What a tree is. -/
def evR {α : Type} (step : Pc → List α → α) : Rx → α
  | .none => step ⟨0, z4⟩ []
  | .one s => step ⟨1, s⟩ []
  | .cat a b => step ⟨2, z4⟩ [evR step a, evR step b]
  | .alt a b => step ⟨3, z4⟩ [evR step a, evR step b]
  | .star a => step ⟨4, z4⟩ [evR step a]
  | .plus a => step ⟨5, z4⟩ [evR step a]
  | .opt a => step ⟨6, z4⟩ [evR step a]
theorem runM_enc {α : Type} (step : Pc → List α → α) (t : Rx) : ∀ (rest : List Pc) (st : List α), runM step (t.enc ++ rest) st = runM step rest (st ++ [evR step t]) := by
  have two : ∀ (st : List α) (a b : α), st ++ [a] ++ [b] = st ++ [a, b] := by intro st a b; simp
  induction t with
  | none => intro rest st; simp only [Rx.enc, List.cons_append, List.nil_append]; rw [runM_leaf _ _ _ _ tk0]; rfl
  | one s => intro rest st; simp only [Rx.enc, List.cons_append, List.nil_append]; rw [runM_leaf _ ⟨1, s⟩ _ _ tk1]; rfl
  | cat a b iha ihb => intro rest st; simp only [Rx.enc, List.append_assoc, List.cons_append, List.nil_append]; rw [iha, ihb, two, runM_bi _ ⟨2, z4⟩ _ _ _ _ tk2]; rfl
  | alt a b iha ihb => intro rest st; simp only [Rx.enc, List.append_assoc, List.cons_append, List.nil_append]; rw [iha, ihb, two, runM_bi _ ⟨3, z4⟩ _ _ _ _ tk3]; rfl
  | star a iha => intro rest st; simp only [Rx.enc, List.append_assoc, List.cons_append, List.nil_append]; rw [iha, runM_un _ ⟨4, z4⟩ _ _ _ tk4]; rfl
  | plus a iha => intro rest st; simp only [Rx.enc, List.append_assoc, List.cons_append, List.nil_append]; rw [iha, runM_un _ ⟨5, z4⟩ _ _ _ tk5]; rfl
  | opt a iha => intro rest st; simp only [Rx.enc, List.append_assoc, List.cons_append, List.nil_append]; rw [iha, runM_un _ ⟨6, z4⟩ _ _ _ tk6]; rfl
theorem runM_all {α : Type} (step : Pc → List α → α) (t : Rx) : runM step t.enc [] = [evR step t] := by
  have := runM_enc step t [] []
  simpa [runM] using this

/-- The next piece, where the pieces fit: its kind, and what it finds. -/
theorem fits_next {α : Type} (p : Pc) (ps : List Pc) (st : List α) (h : fitsGo (p :: ps) st.length = true) :
    ((p.kind = 0 ∨ p.kind = 1) ∧ fitsGo ps (st.length + 1 : Nat) = true) ∨ ((p.kind = 4 ∨ p.kind = 5 ∨ p.kind = 6) ∧ ∃ st' a, st = st' ++ [a] ∧ fitsGo ps (st'.length + 1 : Nat) = true) ∨
      ((p.kind = 2 ∨ p.kind = 3) ∧ ∃ st' a b, st = st' ++ [a, b] ∧ fitsGo ps (st'.length + 1 : Nat) = true) := by
  obtain ⟨k, s⟩ := p
  rw [fitsGo] at h
  simp only at h ⊢
  split at h
  · cases h
  · rename_i hc
    have h1 : 0 ≤ takes40 k := by omega
    have h2 : takes40 k ≤ st.length := by omega
    have hk : k = 0 ∨ k = 1 ∨ k = 2 ∨ k = 3 ∨ k = 4 ∨ k = 5 ∨ k = 6 := by
      unfold takes40 at h1
      split at h1 <;> omega
    have un : takes40 k = 1 → ∃ st' a, st = st' ++ [a] ∧ fitsGo ps (st'.length + 1 : Nat) = true := by
      intro e
      have hne : st ≠ [] := by intro e'; subst e'; simp [e] at h2
      refine ⟨st.dropLast, st.getLast hne, (List.dropLast_concat_getLast hne).symm, ?_⟩
      have hp := List.length_pos_iff.2 hne
      rw [e] at h
      rw [← h]; congr 1; rw [List.length_dropLast]; omega
    have bi : takes40 k = 2 → ∃ st' a b, st = st' ++ [a, b] ∧ fitsGo ps (st'.length + 1 : Nat) = true := by
      intro e
      have hl : 2 ≤ st.length := by omega
      have h3 : (st.drop (st.length - 2)).length = 2 := by simp; omega
      obtain ⟨a, b, hab⟩ : ∃ a b, st.drop (st.length - 2) = [a, b] := by
        match hq : st.drop (st.length - 2), h3 with
        | [a, b], _ => exact ⟨a, b, rfl⟩
      refine ⟨st.take (st.length - 2), a, b, by rw [← hab, List.take_append_drop], ?_⟩
      rw [e] at h
      rw [← h]; congr 1; rw [List.length_take]; omega
    rcases hk with rfl | rfl | rfl | rfl | rfl | rfl | rfl
    · exact .inl ⟨.inl rfl, by rw [← h]; simp [tk0]⟩
    · exact .inl ⟨.inr rfl, by rw [← h]; simp [tk1]⟩
    · exact .inr (.inr ⟨.inl rfl, bi tk2⟩)
    · exact .inr (.inr ⟨.inr rfl, bi tk3⟩)
    · exact .inr (.inl ⟨.inl rfl, un tk4⟩)
    · exact .inr (.inl ⟨.inr (.inl rfl), un tk5⟩)
    · exact .inr (.inl ⟨.inr (.inr rfl), un tk6⟩)
theorem fits_end {α : Type} (st : List α) (h : fitsGo [] st.length = true) : ∃ a, st = [a] := by
  simp only [fitsGo, beq_iff_eq] at h
  match st, h with
  | [a], _ => exact ⟨a, rfl⟩
  | [], h => simp at h
  | _ :: _ :: _, h => simp at h; omega
/-- deriv.Empty's step. -/
def emptyStep (p : Pc) (l : List Bool) : Bool :=
  if p.kind = 0 then true else if p.kind = 1 then false else if p.kind = 2 then l.getD 0 false && l.getD 1 false else if p.kind = 3 then l.getD 0 false || l.getD 1 false else if p.kind = 5 then l.getD 0 false else true
theorem evR_empty (t : Rx) : evR emptyStep t = t.nul := by
  induction t with
  | none => rfl
  | one s => rfl
  | cat a b iha ihb => simp [evR, emptyStep, Rx.nul, iha, ihb]
  | alt a b iha ihb => simp [evR, emptyStep, Rx.nul, iha, ihb]
  | star a iha => simp [evR, emptyStep, Rx.nul]
  | plus a iha => simp [evR, emptyStep, Rx.nul, iha]
  | opt a iha => simp [evR, emptyStep, Rx.nul]
end Go.Proofs.Ytaefhdklkbohmaa
/- deriv.Empty. -/
namespace Go.Proofs.Ytaefhdklkbohmaa
open Go Go.RowKit
set_option linter.unusedSimpArgs false
set_option maxRecDepth 20000
set_option maxHeartbeats 4000000
def empty14I (r : List Pc) (m : Nat) (σ : Env) : Prop := ∃ (i : Nat) (st : List Bool), i + m = r.length ∧ st.length ≤ i ∧ fitsGo (r.drop i) st.length = true ∧ runM emptyStep r [] = runM emptyStep (r.drop i) st ∧
  σ = [(3, .own (.sl [.sh]) (.sl 1 (st.map T.bool))), (7, .t (rxT r)), (8, .t (.int .i64 (r.length : Int))), (9, .t (.int .i64 (i : Int)))]
theorem allSolid_bool (b : Bool) : allSolid [T.bool b] := by
  intro y hy
  obtain rfl := List.mem_singleton.1 hy
  rfl
theorem empty14_spec (r : List Pc) (hr : r.length ≤ 1073741820) (hf : fitsGo r 0 = true) : ACalls Try.prog 14 [rxT r] .sh (.bool ((runM emptyStep r []).getD 0 false)) := by
  refine ACalls.of n14 rfl (m14 _ rfl) q14 (by simp only [List.length_cons, List.length_nil]; decide) (fun C hC => ?_)
  have hN : C.N = 83 := hC
  repeat' first
    | refine AV.seq ?_
    | refine AV.block ?_
    | ((first | refine AV.reg ?_ | refine AV.regD mixed ?_); simp only [hN, c14R0, c14R1, c14R2, c14R3, c14R4, c14R5, c14R6, c14R7, c14R8, c14R9, c14R10, c14R11, c14R12, c14R13, c14R14, c14R15, c14R16, c14R17, c14R18, c14R19, rxT, List.length_map, go_sem, Nat.reduceSub, reduceIte, Nat.reduceEqDiff, Nat.reduceLT, Nat.reduceMul, Nat.reduceAdd, Nat.reduceBEq, Nat.reduceLeDiff, Int.reduceLT, Int.reduceLE, Int.reduceNeg, Int.reduceBEq, Int.reduceBNe, Int.reduceToNat]; repeat (simp (disch := omega) only [wrap_small, getD_map_lt]; try simp only [go_sem, Nat.reduceSub, reduceIte, Nat.reduceEqDiff, Nat.reduceLT, Nat.reduceMul, Nat.reduceAdd, Nat.reduceBEq, Nat.reduceLeDiff, Int.reduceLT, Int.reduceLE, Int.reduceNeg, Int.reduceBEq, Int.reduceBNe, Int.reduceToNat, rxT, List.length_map]))
    | (refine AV.cond ?_ ?_ (fun hc => ?_) (fun hc => ?_) <;> (try simp only [go_sem, Nat.reduceSub, reduceIte, Nat.reduceEqDiff, Nat.reduceLT, Nat.reduceMul, Nat.reduceAdd, Nat.reduceBEq, Nat.reduceLeDiff, Int.reduceLT, Int.reduceLE, Int.reduceNeg, Int.reduceBEq, Int.reduceBNe, Int.reduceToNat, beq_iff_eq, beq_eq_false_iff_ne] at hc) <;> (try simp only [go_sem, Nat.reduceSub, reduceIte, Nat.reduceEqDiff, Nat.reduceLT, Nat.reduceMul, Nat.reduceAdd, Nat.reduceBEq, Nat.reduceLeDiff, Int.reduceLT, Int.reduceLE, Int.reduceNeg, Int.reduceBEq, Int.reduceBNe, Int.reduceToNat]))
    | ((first | refine AV.skip ?_ | refine AV.exit ?_); simp only [go_sem, Nat.reduceSub, reduceIte, Nat.reduceEqDiff, Nat.reduceLT, Nat.reduceMul, Nat.reduceAdd, Nat.reduceBEq, Nat.reduceLeDiff, Int.reduceLT, Int.reduceLE, Int.reduceNeg, Int.reduceBEq, Int.reduceBNe, Int.reduceToNat])
    | (refine AV.ret ?_; (try simp only [go_sem, Nat.reduceSub, reduceIte, Nat.reduceEqDiff, Nat.reduceLT, Nat.reduceMul, Nat.reduceAdd, Nat.reduceBEq, Nat.reduceLeDiff, Int.reduceLT, Int.reduceLE, Int.reduceNeg, Int.reduceBEq, Int.reduceBNe, Int.reduceToNat]); first | refine atEnd_t (by simp only [go_sem, Nat.reduceSub, reduceIte, Nat.reduceEqDiff, Nat.reduceLT, Nat.reduceMul, Nat.reduceAdd, Nat.reduceBEq, Nat.reduceLeDiff, Int.reduceLT, Int.reduceLE, Int.reduceNeg, Int.reduceBEq, Int.reduceBNe, Int.reduceToNat] <;> rfl) ?_ (by first | (simp [rxT]; done) | exact leftT_tup _) | refine atEnd_c (by simp only [go_sem, Nat.reduceSub, reduceIte, Nat.reduceEqDiff, Nat.reduceLT, Nat.reduceMul, Nat.reduceAdd, Nat.reduceBEq, Nat.reduceLeDiff, Int.reduceLT, Int.reduceLE, Int.reduceNeg, Int.reduceBEq, Int.reduceBNe, Int.reduceToNat] <;> rfl) ?_ (by first | (simp [rxT]; done) | exact leftT_tup _) | refine atEnd_ct (by simp only [go_sem, Nat.reduceSub, reduceIte, Nat.reduceEqDiff, Nat.reduceLT, Nat.reduceMul, Nat.reduceAdd, Nat.reduceBEq, Nat.reduceLeDiff, Int.reduceLT, Int.reduceLE, Int.reduceNeg, Int.reduceBEq, Int.reduceBNe, Int.reduceToNat] <;> rfl) ?_ (by first | (simp; done) | exact leftT_tup _) (by simp only [go_sem, Nat.reduceSub, reduceIte, Nat.reduceEqDiff, Nat.reduceLT, Nat.reduceMul, Nat.reduceAdd, Nat.reduceBEq, Nat.reduceLeDiff, Int.reduceLT, Int.reduceLE, Int.reduceNeg, Int.reduceBEq, Int.reduceBNe, Int.reduceToNat] <;> rfl) ?_ (by simp) | refine atEnd_o (by simp only [go_sem, Nat.reduceSub, reduceIte, Nat.reduceEqDiff, Nat.reduceLT, Nat.reduceMul, Nat.reduceAdd, Nat.reduceBEq, Nat.reduceLeDiff, Int.reduceLT, Int.reduceLE, Int.reduceNeg, Int.reduceBEq, Int.reduceBNe, Int.reduceToNat] <;> rfl) ?_)
    | (refine And.intro ?_ ?_)
    | (with_reducible intro _)
  all_goals try first | exact True.intro | omega | exact ⟨_, _, rfl⟩ | exact allSolid_pcs _ | exact allSolid_one _ | exact allSolid_bool _ | rfl
  refine AV.loopK [3, 7, 8, 9] (by simp only [hN]; decide) (n := r.length) (empty14I r) ?_ ⟨0, [], by omega, by simp, hf, rfl, by simp only [go_sem, Nat.reduceSub, reduceIte, Nat.reduceEqDiff, Nat.reduceLT, Nat.reduceMul, Nat.reduceAdd, Nat.reduceBEq, Nat.reduceLeDiff, Int.reduceLT, Int.reduceLE, Int.reduceNeg, Int.reduceBEq, Int.reduceBNe, Int.reduceToNat] <;> rfl⟩
  rintro m σ ⟨i, st, h1, h2, h3, h4, rfl⟩
  by_cases hi : i < r.length
  · have hd : r.drop i = r[i] :: r.drop (i + 1) := List.drop_eq_getElem_cons hi
    rw [hd] at h3 h4
    obtain ⟨pk, ps, hp⟩ : ∃ pk ps, r[i] = ⟨pk, ps⟩ := ⟨_, _, rfl⟩
    rw [hp] at h3 h4
    rcases fits_next _ _ _ h3 with ⟨hk, h5⟩ | ⟨hk, st', a, rfl, h5⟩ | ⟨hk, st', a, b, rfl, h5⟩
    · rcases hk with hk | hk <;> simp only at hk <;> subst hk
      · repeat' first
          | refine AV.seq ?_
          | refine AV.block ?_
          | ((first | refine AV.reg ?_ | refine AV.regD mixed ?_); simp only [hN, c14R0, c14R1, c14R2, c14R3, c14R4, c14R5, c14R6, c14R7, c14R8, c14R9, c14R10, c14R11, c14R12, c14R13, c14R14, c14R15, c14R16, c14R17, c14R18, c14R19, rxT, List.length_map, hp, pcT, S4.ts, go_sem, Nat.reduceSub, reduceIte, Nat.reduceEqDiff, Nat.reduceLT, Nat.reduceMul, Nat.reduceAdd, Nat.reduceBEq, Nat.reduceLeDiff, Int.reduceLT, Int.reduceLE, Int.reduceNeg, Int.reduceBEq, Int.reduceBNe, Int.reduceToNat]; repeat (simp (disch := omega) only [wrap_small, getD_map_lt]; try simp only [go_sem, Nat.reduceSub, reduceIte, Nat.reduceEqDiff, Nat.reduceLT, Nat.reduceMul, Nat.reduceAdd, Nat.reduceBEq, Nat.reduceLeDiff, Int.reduceLT, Int.reduceLE, Int.reduceNeg, Int.reduceBEq, Int.reduceBNe, Int.reduceToNat, rxT, List.length_map, hp, pcT, S4.ts]))
          | (refine AV.cond ?_ ?_ (fun hc => ?_) (fun hc => ?_) <;> (try simp only [go_sem, Nat.reduceSub, reduceIte, Nat.reduceEqDiff, Nat.reduceLT, Nat.reduceMul, Nat.reduceAdd, Nat.reduceBEq, Nat.reduceLeDiff, Int.reduceLT, Int.reduceLE, Int.reduceNeg, Int.reduceBEq, Int.reduceBNe, Int.reduceToNat, beq_iff_eq, beq_eq_false_iff_ne] at hc) <;> (try simp only [go_sem, Nat.reduceSub, reduceIte, Nat.reduceEqDiff, Nat.reduceLT, Nat.reduceMul, Nat.reduceAdd, Nat.reduceBEq, Nat.reduceLeDiff, Int.reduceLT, Int.reduceLE, Int.reduceNeg, Int.reduceBEq, Int.reduceBNe, Int.reduceToNat]))
          | ((first | refine AV.skip ?_ | refine AV.exit ?_); simp only [go_sem, Nat.reduceSub, reduceIte, Nat.reduceEqDiff, Nat.reduceLT, Nat.reduceMul, Nat.reduceAdd, Nat.reduceBEq, Nat.reduceLeDiff, Int.reduceLT, Int.reduceLE, Int.reduceNeg, Int.reduceBEq, Int.reduceBNe, Int.reduceToNat])
          | (refine AV.ret ?_; (try simp only [go_sem, Nat.reduceSub, reduceIte, Nat.reduceEqDiff, Nat.reduceLT, Nat.reduceMul, Nat.reduceAdd, Nat.reduceBEq, Nat.reduceLeDiff, Int.reduceLT, Int.reduceLE, Int.reduceNeg, Int.reduceBEq, Int.reduceBNe, Int.reduceToNat]); first | refine atEnd_t (by simp only [go_sem, Nat.reduceSub, reduceIte, Nat.reduceEqDiff, Nat.reduceLT, Nat.reduceMul, Nat.reduceAdd, Nat.reduceBEq, Nat.reduceLeDiff, Int.reduceLT, Int.reduceLE, Int.reduceNeg, Int.reduceBEq, Int.reduceBNe, Int.reduceToNat] <;> rfl) ?_ (by first | (simp [rxT]; done) | exact leftT_tup _) | refine atEnd_c (by simp only [go_sem, Nat.reduceSub, reduceIte, Nat.reduceEqDiff, Nat.reduceLT, Nat.reduceMul, Nat.reduceAdd, Nat.reduceBEq, Nat.reduceLeDiff, Int.reduceLT, Int.reduceLE, Int.reduceNeg, Int.reduceBEq, Int.reduceBNe, Int.reduceToNat] <;> rfl) ?_ (by first | (simp [rxT]; done) | exact leftT_tup _) | refine atEnd_ct (by simp only [go_sem, Nat.reduceSub, reduceIte, Nat.reduceEqDiff, Nat.reduceLT, Nat.reduceMul, Nat.reduceAdd, Nat.reduceBEq, Nat.reduceLeDiff, Int.reduceLT, Int.reduceLE, Int.reduceNeg, Int.reduceBEq, Int.reduceBNe, Int.reduceToNat] <;> rfl) ?_ (by first | (simp; done) | exact leftT_tup _) (by simp only [go_sem, Nat.reduceSub, reduceIte, Nat.reduceEqDiff, Nat.reduceLT, Nat.reduceMul, Nat.reduceAdd, Nat.reduceBEq, Nat.reduceLeDiff, Int.reduceLT, Int.reduceLE, Int.reduceNeg, Int.reduceBEq, Int.reduceBNe, Int.reduceToNat] <;> rfl) ?_ (by simp) | refine atEnd_o (by simp only [go_sem, Nat.reduceSub, reduceIte, Nat.reduceEqDiff, Nat.reduceLT, Nat.reduceMul, Nat.reduceAdd, Nat.reduceBEq, Nat.reduceLeDiff, Int.reduceLT, Int.reduceLE, Int.reduceNeg, Int.reduceBEq, Int.reduceBNe, Int.reduceToNat] <;> rfl) ?_)
          | (refine And.intro ?_ ?_)
          | (with_reducible intro _)
        all_goals try first | exact True.intro | omega | exact ⟨_, _, rfl⟩ | exact allSolid_pcs _ | exact allSolid_one _ | exact allSolid_bool _ | rfl
        exact ⟨m - 1, by omega, i + 1, st ++ [true], by omega, by simp; omega, by simpa using h5, by rw [h4, runM_leaf _ _ _ _ tk0]; rfl, by simp [rxT]⟩
      · repeat' first
          | refine AV.seq ?_
          | refine AV.block ?_
          | ((first | refine AV.reg ?_ | refine AV.regD mixed ?_); simp only [hN, c14R0, c14R1, c14R2, c14R3, c14R4, c14R5, c14R6, c14R7, c14R8, c14R9, c14R10, c14R11, c14R12, c14R13, c14R14, c14R15, c14R16, c14R17, c14R18, c14R19, rxT, List.length_map, hp, pcT, S4.ts, go_sem, Nat.reduceSub, reduceIte, Nat.reduceEqDiff, Nat.reduceLT, Nat.reduceMul, Nat.reduceAdd, Nat.reduceBEq, Nat.reduceLeDiff, Int.reduceLT, Int.reduceLE, Int.reduceNeg, Int.reduceBEq, Int.reduceBNe, Int.reduceToNat]; repeat (simp (disch := omega) only [wrap_small, getD_map_lt]; try simp only [go_sem, Nat.reduceSub, reduceIte, Nat.reduceEqDiff, Nat.reduceLT, Nat.reduceMul, Nat.reduceAdd, Nat.reduceBEq, Nat.reduceLeDiff, Int.reduceLT, Int.reduceLE, Int.reduceNeg, Int.reduceBEq, Int.reduceBNe, Int.reduceToNat, rxT, List.length_map, hp, pcT, S4.ts]))
          | (refine AV.cond ?_ ?_ (fun hc => ?_) (fun hc => ?_) <;> (try simp only [go_sem, Nat.reduceSub, reduceIte, Nat.reduceEqDiff, Nat.reduceLT, Nat.reduceMul, Nat.reduceAdd, Nat.reduceBEq, Nat.reduceLeDiff, Int.reduceLT, Int.reduceLE, Int.reduceNeg, Int.reduceBEq, Int.reduceBNe, Int.reduceToNat, beq_iff_eq, beq_eq_false_iff_ne] at hc) <;> (try simp only [go_sem, Nat.reduceSub, reduceIte, Nat.reduceEqDiff, Nat.reduceLT, Nat.reduceMul, Nat.reduceAdd, Nat.reduceBEq, Nat.reduceLeDiff, Int.reduceLT, Int.reduceLE, Int.reduceNeg, Int.reduceBEq, Int.reduceBNe, Int.reduceToNat]))
          | ((first | refine AV.skip ?_ | refine AV.exit ?_); simp only [go_sem, Nat.reduceSub, reduceIte, Nat.reduceEqDiff, Nat.reduceLT, Nat.reduceMul, Nat.reduceAdd, Nat.reduceBEq, Nat.reduceLeDiff, Int.reduceLT, Int.reduceLE, Int.reduceNeg, Int.reduceBEq, Int.reduceBNe, Int.reduceToNat])
          | (refine AV.ret ?_; (try simp only [go_sem, Nat.reduceSub, reduceIte, Nat.reduceEqDiff, Nat.reduceLT, Nat.reduceMul, Nat.reduceAdd, Nat.reduceBEq, Nat.reduceLeDiff, Int.reduceLT, Int.reduceLE, Int.reduceNeg, Int.reduceBEq, Int.reduceBNe, Int.reduceToNat]); first | refine atEnd_t (by simp only [go_sem, Nat.reduceSub, reduceIte, Nat.reduceEqDiff, Nat.reduceLT, Nat.reduceMul, Nat.reduceAdd, Nat.reduceBEq, Nat.reduceLeDiff, Int.reduceLT, Int.reduceLE, Int.reduceNeg, Int.reduceBEq, Int.reduceBNe, Int.reduceToNat] <;> rfl) ?_ (by first | (simp [rxT]; done) | exact leftT_tup _) | refine atEnd_c (by simp only [go_sem, Nat.reduceSub, reduceIte, Nat.reduceEqDiff, Nat.reduceLT, Nat.reduceMul, Nat.reduceAdd, Nat.reduceBEq, Nat.reduceLeDiff, Int.reduceLT, Int.reduceLE, Int.reduceNeg, Int.reduceBEq, Int.reduceBNe, Int.reduceToNat] <;> rfl) ?_ (by first | (simp [rxT]; done) | exact leftT_tup _) | refine atEnd_ct (by simp only [go_sem, Nat.reduceSub, reduceIte, Nat.reduceEqDiff, Nat.reduceLT, Nat.reduceMul, Nat.reduceAdd, Nat.reduceBEq, Nat.reduceLeDiff, Int.reduceLT, Int.reduceLE, Int.reduceNeg, Int.reduceBEq, Int.reduceBNe, Int.reduceToNat] <;> rfl) ?_ (by first | (simp; done) | exact leftT_tup _) (by simp only [go_sem, Nat.reduceSub, reduceIte, Nat.reduceEqDiff, Nat.reduceLT, Nat.reduceMul, Nat.reduceAdd, Nat.reduceBEq, Nat.reduceLeDiff, Int.reduceLT, Int.reduceLE, Int.reduceNeg, Int.reduceBEq, Int.reduceBNe, Int.reduceToNat] <;> rfl) ?_ (by simp) | refine atEnd_o (by simp only [go_sem, Nat.reduceSub, reduceIte, Nat.reduceEqDiff, Nat.reduceLT, Nat.reduceMul, Nat.reduceAdd, Nat.reduceBEq, Nat.reduceLeDiff, Int.reduceLT, Int.reduceLE, Int.reduceNeg, Int.reduceBEq, Int.reduceBNe, Int.reduceToNat] <;> rfl) ?_)
          | (refine And.intro ?_ ?_)
          | (with_reducible intro _)
        all_goals try first | exact True.intro | omega | exact ⟨_, _, rfl⟩ | exact allSolid_pcs _ | exact allSolid_one _ | exact allSolid_bool _ | rfl
        exact ⟨m - 1, by omega, i + 1, st ++ [false], by omega, by simp; omega, by simpa using h5, by rw [h4, runM_leaf _ _ _ _ tk1]; rfl, by simp [rxT]⟩
    · have hl : (st' ++ [a]).length = st'.length + 1 := by simp
      rw [hl] at h2
      have hw1 : IntKind.i64.wrap (((st'.length + 1 : Nat) : Int) - 1) = (st'.length : Int) := by rw [wrap_small] <;> omega
      have hg1 : ((st' ++ [a]).map T.bool).getD st'.length default = .bool a := by simp
      have hput : ((st' ++ [a]).map T.bool).set st'.length (.bool true) = (st' ++ [true]).map T.bool := by simp
      rcases hk with hk | hk | hk <;> simp only at hk <;> subst hk
      · repeat' first
          | refine AV.seq ?_
          | refine AV.block ?_
          | ((first | refine AV.reg ?_ | refine AV.regD mixed ?_); simp only [hN, c14R0, c14R1, c14R2, c14R3, c14R4, c14R5, c14R6, c14R7, c14R8, c14R9, c14R10, c14R11, c14R12, c14R13, c14R14, c14R15, c14R16, c14R17, c14R18, c14R19, rxT, List.length_map, hp, pcT, S4.ts, hl, hw1, hg1, hput, go_sem, Nat.reduceSub, reduceIte, Nat.reduceEqDiff, Nat.reduceLT, Nat.reduceMul, Nat.reduceAdd, Nat.reduceBEq, Nat.reduceLeDiff, Int.reduceLT, Int.reduceLE, Int.reduceNeg, Int.reduceBEq, Int.reduceBNe, Int.reduceToNat]; repeat (simp (disch := omega) only [wrap_small, getD_map_lt]; try simp only [go_sem, Nat.reduceSub, reduceIte, Nat.reduceEqDiff, Nat.reduceLT, Nat.reduceMul, Nat.reduceAdd, Nat.reduceBEq, Nat.reduceLeDiff, Int.reduceLT, Int.reduceLE, Int.reduceNeg, Int.reduceBEq, Int.reduceBNe, Int.reduceToNat, rxT, List.length_map, hp, pcT, S4.ts, hl, hw1, hg1, hput]))
          | (refine AV.cond ?_ ?_ (fun hc => ?_) (fun hc => ?_) <;> (try simp only [go_sem, Nat.reduceSub, reduceIte, Nat.reduceEqDiff, Nat.reduceLT, Nat.reduceMul, Nat.reduceAdd, Nat.reduceBEq, Nat.reduceLeDiff, Int.reduceLT, Int.reduceLE, Int.reduceNeg, Int.reduceBEq, Int.reduceBNe, Int.reduceToNat, beq_iff_eq, beq_eq_false_iff_ne] at hc) <;> (try simp only [go_sem, Nat.reduceSub, reduceIte, Nat.reduceEqDiff, Nat.reduceLT, Nat.reduceMul, Nat.reduceAdd, Nat.reduceBEq, Nat.reduceLeDiff, Int.reduceLT, Int.reduceLE, Int.reduceNeg, Int.reduceBEq, Int.reduceBNe, Int.reduceToNat]))
          | ((first | refine AV.skip ?_ | refine AV.exit ?_); simp only [go_sem, Nat.reduceSub, reduceIte, Nat.reduceEqDiff, Nat.reduceLT, Nat.reduceMul, Nat.reduceAdd, Nat.reduceBEq, Nat.reduceLeDiff, Int.reduceLT, Int.reduceLE, Int.reduceNeg, Int.reduceBEq, Int.reduceBNe, Int.reduceToNat])
          | (refine AV.ret ?_; (try simp only [go_sem, Nat.reduceSub, reduceIte, Nat.reduceEqDiff, Nat.reduceLT, Nat.reduceMul, Nat.reduceAdd, Nat.reduceBEq, Nat.reduceLeDiff, Int.reduceLT, Int.reduceLE, Int.reduceNeg, Int.reduceBEq, Int.reduceBNe, Int.reduceToNat]); first | refine atEnd_t (by simp only [go_sem, Nat.reduceSub, reduceIte, Nat.reduceEqDiff, Nat.reduceLT, Nat.reduceMul, Nat.reduceAdd, Nat.reduceBEq, Nat.reduceLeDiff, Int.reduceLT, Int.reduceLE, Int.reduceNeg, Int.reduceBEq, Int.reduceBNe, Int.reduceToNat] <;> rfl) ?_ (by first | (simp [rxT]; done) | exact leftT_tup _) | refine atEnd_c (by simp only [go_sem, Nat.reduceSub, reduceIte, Nat.reduceEqDiff, Nat.reduceLT, Nat.reduceMul, Nat.reduceAdd, Nat.reduceBEq, Nat.reduceLeDiff, Int.reduceLT, Int.reduceLE, Int.reduceNeg, Int.reduceBEq, Int.reduceBNe, Int.reduceToNat] <;> rfl) ?_ (by first | (simp [rxT]; done) | exact leftT_tup _) | refine atEnd_ct (by simp only [go_sem, Nat.reduceSub, reduceIte, Nat.reduceEqDiff, Nat.reduceLT, Nat.reduceMul, Nat.reduceAdd, Nat.reduceBEq, Nat.reduceLeDiff, Int.reduceLT, Int.reduceLE, Int.reduceNeg, Int.reduceBEq, Int.reduceBNe, Int.reduceToNat] <;> rfl) ?_ (by first | (simp; done) | exact leftT_tup _) (by simp only [go_sem, Nat.reduceSub, reduceIte, Nat.reduceEqDiff, Nat.reduceLT, Nat.reduceMul, Nat.reduceAdd, Nat.reduceBEq, Nat.reduceLeDiff, Int.reduceLT, Int.reduceLE, Int.reduceNeg, Int.reduceBEq, Int.reduceBNe, Int.reduceToNat] <;> rfl) ?_ (by simp) | refine atEnd_o (by simp only [go_sem, Nat.reduceSub, reduceIte, Nat.reduceEqDiff, Nat.reduceLT, Nat.reduceMul, Nat.reduceAdd, Nat.reduceBEq, Nat.reduceLeDiff, Int.reduceLT, Int.reduceLE, Int.reduceNeg, Int.reduceBEq, Int.reduceBNe, Int.reduceToNat] <;> rfl) ?_)
          | (refine And.intro ?_ ?_)
          | (with_reducible intro _)
        all_goals try first | exact True.intro | omega | exact ⟨_, _, rfl⟩ | exact allSolid_pcs _ | exact allSolid_one _ | exact allSolid_bool _ | rfl
        exact ⟨m - 1, by omega, i + 1, st' ++ [true], by omega, by simp; omega, by simpa using h5, by rw [h4, runM_un _ _ _ _ _ tk4]; rfl, by simp [rxT]⟩
      · repeat' first
          | refine AV.seq ?_
          | refine AV.block ?_
          | ((first | refine AV.reg ?_ | refine AV.regD mixed ?_); simp only [hN, c14R0, c14R1, c14R2, c14R3, c14R4, c14R5, c14R6, c14R7, c14R8, c14R9, c14R10, c14R11, c14R12, c14R13, c14R14, c14R15, c14R16, c14R17, c14R18, c14R19, rxT, List.length_map, hp, pcT, S4.ts, hl, hw1, hg1, hput, go_sem, Nat.reduceSub, reduceIte, Nat.reduceEqDiff, Nat.reduceLT, Nat.reduceMul, Nat.reduceAdd, Nat.reduceBEq, Nat.reduceLeDiff, Int.reduceLT, Int.reduceLE, Int.reduceNeg, Int.reduceBEq, Int.reduceBNe, Int.reduceToNat]; repeat (simp (disch := omega) only [wrap_small, getD_map_lt]; try simp only [go_sem, Nat.reduceSub, reduceIte, Nat.reduceEqDiff, Nat.reduceLT, Nat.reduceMul, Nat.reduceAdd, Nat.reduceBEq, Nat.reduceLeDiff, Int.reduceLT, Int.reduceLE, Int.reduceNeg, Int.reduceBEq, Int.reduceBNe, Int.reduceToNat, rxT, List.length_map, hp, pcT, S4.ts, hl, hw1, hg1, hput]))
          | (refine AV.cond ?_ ?_ (fun hc => ?_) (fun hc => ?_) <;> (try simp only [go_sem, Nat.reduceSub, reduceIte, Nat.reduceEqDiff, Nat.reduceLT, Nat.reduceMul, Nat.reduceAdd, Nat.reduceBEq, Nat.reduceLeDiff, Int.reduceLT, Int.reduceLE, Int.reduceNeg, Int.reduceBEq, Int.reduceBNe, Int.reduceToNat, beq_iff_eq, beq_eq_false_iff_ne] at hc) <;> (try simp only [go_sem, Nat.reduceSub, reduceIte, Nat.reduceEqDiff, Nat.reduceLT, Nat.reduceMul, Nat.reduceAdd, Nat.reduceBEq, Nat.reduceLeDiff, Int.reduceLT, Int.reduceLE, Int.reduceNeg, Int.reduceBEq, Int.reduceBNe, Int.reduceToNat]))
          | ((first | refine AV.skip ?_ | refine AV.exit ?_); simp only [go_sem, Nat.reduceSub, reduceIte, Nat.reduceEqDiff, Nat.reduceLT, Nat.reduceMul, Nat.reduceAdd, Nat.reduceBEq, Nat.reduceLeDiff, Int.reduceLT, Int.reduceLE, Int.reduceNeg, Int.reduceBEq, Int.reduceBNe, Int.reduceToNat])
          | (refine AV.ret ?_; (try simp only [go_sem, Nat.reduceSub, reduceIte, Nat.reduceEqDiff, Nat.reduceLT, Nat.reduceMul, Nat.reduceAdd, Nat.reduceBEq, Nat.reduceLeDiff, Int.reduceLT, Int.reduceLE, Int.reduceNeg, Int.reduceBEq, Int.reduceBNe, Int.reduceToNat]); first | refine atEnd_t (by simp only [go_sem, Nat.reduceSub, reduceIte, Nat.reduceEqDiff, Nat.reduceLT, Nat.reduceMul, Nat.reduceAdd, Nat.reduceBEq, Nat.reduceLeDiff, Int.reduceLT, Int.reduceLE, Int.reduceNeg, Int.reduceBEq, Int.reduceBNe, Int.reduceToNat] <;> rfl) ?_ (by first | (simp [rxT]; done) | exact leftT_tup _) | refine atEnd_c (by simp only [go_sem, Nat.reduceSub, reduceIte, Nat.reduceEqDiff, Nat.reduceLT, Nat.reduceMul, Nat.reduceAdd, Nat.reduceBEq, Nat.reduceLeDiff, Int.reduceLT, Int.reduceLE, Int.reduceNeg, Int.reduceBEq, Int.reduceBNe, Int.reduceToNat] <;> rfl) ?_ (by first | (simp [rxT]; done) | exact leftT_tup _) | refine atEnd_ct (by simp only [go_sem, Nat.reduceSub, reduceIte, Nat.reduceEqDiff, Nat.reduceLT, Nat.reduceMul, Nat.reduceAdd, Nat.reduceBEq, Nat.reduceLeDiff, Int.reduceLT, Int.reduceLE, Int.reduceNeg, Int.reduceBEq, Int.reduceBNe, Int.reduceToNat] <;> rfl) ?_ (by first | (simp; done) | exact leftT_tup _) (by simp only [go_sem, Nat.reduceSub, reduceIte, Nat.reduceEqDiff, Nat.reduceLT, Nat.reduceMul, Nat.reduceAdd, Nat.reduceBEq, Nat.reduceLeDiff, Int.reduceLT, Int.reduceLE, Int.reduceNeg, Int.reduceBEq, Int.reduceBNe, Int.reduceToNat] <;> rfl) ?_ (by simp) | refine atEnd_o (by simp only [go_sem, Nat.reduceSub, reduceIte, Nat.reduceEqDiff, Nat.reduceLT, Nat.reduceMul, Nat.reduceAdd, Nat.reduceBEq, Nat.reduceLeDiff, Int.reduceLT, Int.reduceLE, Int.reduceNeg, Int.reduceBEq, Int.reduceBNe, Int.reduceToNat] <;> rfl) ?_)
          | (refine And.intro ?_ ?_)
          | (with_reducible intro _)
        all_goals try first | exact True.intro | omega | exact ⟨_, _, rfl⟩ | exact allSolid_pcs _ | exact allSolid_one _ | exact allSolid_bool _ | rfl
        exact ⟨m - 1, by omega, i + 1, st' ++ [a], by omega, by simp; omega, by simpa using h5, by rw [h4, runM_un _ _ _ _ _ tk5]; rfl, by simp [rxT]⟩
      · repeat' first
          | refine AV.seq ?_
          | refine AV.block ?_
          | ((first | refine AV.reg ?_ | refine AV.regD mixed ?_); simp only [hN, c14R0, c14R1, c14R2, c14R3, c14R4, c14R5, c14R6, c14R7, c14R8, c14R9, c14R10, c14R11, c14R12, c14R13, c14R14, c14R15, c14R16, c14R17, c14R18, c14R19, rxT, List.length_map, hp, pcT, S4.ts, hl, hw1, hg1, hput, go_sem, Nat.reduceSub, reduceIte, Nat.reduceEqDiff, Nat.reduceLT, Nat.reduceMul, Nat.reduceAdd, Nat.reduceBEq, Nat.reduceLeDiff, Int.reduceLT, Int.reduceLE, Int.reduceNeg, Int.reduceBEq, Int.reduceBNe, Int.reduceToNat]; repeat (simp (disch := omega) only [wrap_small, getD_map_lt]; try simp only [go_sem, Nat.reduceSub, reduceIte, Nat.reduceEqDiff, Nat.reduceLT, Nat.reduceMul, Nat.reduceAdd, Nat.reduceBEq, Nat.reduceLeDiff, Int.reduceLT, Int.reduceLE, Int.reduceNeg, Int.reduceBEq, Int.reduceBNe, Int.reduceToNat, rxT, List.length_map, hp, pcT, S4.ts, hl, hw1, hg1, hput]))
          | (refine AV.cond ?_ ?_ (fun hc => ?_) (fun hc => ?_) <;> (try simp only [go_sem, Nat.reduceSub, reduceIte, Nat.reduceEqDiff, Nat.reduceLT, Nat.reduceMul, Nat.reduceAdd, Nat.reduceBEq, Nat.reduceLeDiff, Int.reduceLT, Int.reduceLE, Int.reduceNeg, Int.reduceBEq, Int.reduceBNe, Int.reduceToNat, beq_iff_eq, beq_eq_false_iff_ne] at hc) <;> (try simp only [go_sem, Nat.reduceSub, reduceIte, Nat.reduceEqDiff, Nat.reduceLT, Nat.reduceMul, Nat.reduceAdd, Nat.reduceBEq, Nat.reduceLeDiff, Int.reduceLT, Int.reduceLE, Int.reduceNeg, Int.reduceBEq, Int.reduceBNe, Int.reduceToNat]))
          | ((first | refine AV.skip ?_ | refine AV.exit ?_); simp only [go_sem, Nat.reduceSub, reduceIte, Nat.reduceEqDiff, Nat.reduceLT, Nat.reduceMul, Nat.reduceAdd, Nat.reduceBEq, Nat.reduceLeDiff, Int.reduceLT, Int.reduceLE, Int.reduceNeg, Int.reduceBEq, Int.reduceBNe, Int.reduceToNat])
          | (refine AV.ret ?_; (try simp only [go_sem, Nat.reduceSub, reduceIte, Nat.reduceEqDiff, Nat.reduceLT, Nat.reduceMul, Nat.reduceAdd, Nat.reduceBEq, Nat.reduceLeDiff, Int.reduceLT, Int.reduceLE, Int.reduceNeg, Int.reduceBEq, Int.reduceBNe, Int.reduceToNat]); first | refine atEnd_t (by simp only [go_sem, Nat.reduceSub, reduceIte, Nat.reduceEqDiff, Nat.reduceLT, Nat.reduceMul, Nat.reduceAdd, Nat.reduceBEq, Nat.reduceLeDiff, Int.reduceLT, Int.reduceLE, Int.reduceNeg, Int.reduceBEq, Int.reduceBNe, Int.reduceToNat] <;> rfl) ?_ (by first | (simp [rxT]; done) | exact leftT_tup _) | refine atEnd_c (by simp only [go_sem, Nat.reduceSub, reduceIte, Nat.reduceEqDiff, Nat.reduceLT, Nat.reduceMul, Nat.reduceAdd, Nat.reduceBEq, Nat.reduceLeDiff, Int.reduceLT, Int.reduceLE, Int.reduceNeg, Int.reduceBEq, Int.reduceBNe, Int.reduceToNat] <;> rfl) ?_ (by first | (simp [rxT]; done) | exact leftT_tup _) | refine atEnd_ct (by simp only [go_sem, Nat.reduceSub, reduceIte, Nat.reduceEqDiff, Nat.reduceLT, Nat.reduceMul, Nat.reduceAdd, Nat.reduceBEq, Nat.reduceLeDiff, Int.reduceLT, Int.reduceLE, Int.reduceNeg, Int.reduceBEq, Int.reduceBNe, Int.reduceToNat] <;> rfl) ?_ (by first | (simp; done) | exact leftT_tup _) (by simp only [go_sem, Nat.reduceSub, reduceIte, Nat.reduceEqDiff, Nat.reduceLT, Nat.reduceMul, Nat.reduceAdd, Nat.reduceBEq, Nat.reduceLeDiff, Int.reduceLT, Int.reduceLE, Int.reduceNeg, Int.reduceBEq, Int.reduceBNe, Int.reduceToNat] <;> rfl) ?_ (by simp) | refine atEnd_o (by simp only [go_sem, Nat.reduceSub, reduceIte, Nat.reduceEqDiff, Nat.reduceLT, Nat.reduceMul, Nat.reduceAdd, Nat.reduceBEq, Nat.reduceLeDiff, Int.reduceLT, Int.reduceLE, Int.reduceNeg, Int.reduceBEq, Int.reduceBNe, Int.reduceToNat] <;> rfl) ?_)
          | (refine And.intro ?_ ?_)
          | (with_reducible intro _)
        all_goals try first | exact True.intro | omega | exact ⟨_, _, rfl⟩ | exact allSolid_pcs _ | exact allSolid_one _ | exact allSolid_bool _ | rfl
        exact ⟨m - 1, by omega, i + 1, st' ++ [true], by omega, by simp; omega, by simpa using h5, by rw [h4, runM_un _ _ _ _ _ tk6]; rfl, by simp [rxT]⟩
    · have hl : (st' ++ [a, b]).length = st'.length + 2 := by simp
      rw [hl] at h2
      have hw2 : IntKind.i64.wrap (((st'.length + 2 : Nat) : Int) - 2) = (st'.length : Int) := by rw [wrap_small] <;> omega
      have hw1 : IntKind.i64.wrap (((st'.length + 2 : Nat) : Int) - 1) = ((st'.length + 1 : Nat) : Int) := by rw [wrap_small] <;> omega
      have hg2 : ((st' ++ [a, b]).map T.bool).getD st'.length default = .bool a := by simp
      have hg1 : ((st' ++ [a, b]).map T.bool).getD (st'.length + 1) default = .bool b := by simp
      have ht : ((st' ++ [a, b]).map T.bool).take st'.length = st'.map T.bool := by simp
      rcases hk with hk | hk <;> simp only at hk <;> subst hk
      · repeat' first
          | refine AV.seq ?_
          | refine AV.block ?_
          | ((first | refine AV.reg ?_ | refine AV.regD mixed ?_); simp only [hN, c14R0, c14R1, c14R2, c14R3, c14R4, c14R5, c14R6, c14R7, c14R8, c14R9, c14R10, c14R11, c14R12, c14R13, c14R14, c14R15, c14R16, c14R17, c14R18, c14R19, rxT, List.length_map, hp, pcT, S4.ts, hl, hw1, hw2, hg1, hg2, ht, go_sem, Nat.reduceSub, reduceIte, Nat.reduceEqDiff, Nat.reduceLT, Nat.reduceMul, Nat.reduceAdd, Nat.reduceBEq, Nat.reduceLeDiff, Int.reduceLT, Int.reduceLE, Int.reduceNeg, Int.reduceBEq, Int.reduceBNe, Int.reduceToNat]; repeat (simp (disch := omega) only [wrap_small, getD_map_lt]; try simp only [go_sem, Nat.reduceSub, reduceIte, Nat.reduceEqDiff, Nat.reduceLT, Nat.reduceMul, Nat.reduceAdd, Nat.reduceBEq, Nat.reduceLeDiff, Int.reduceLT, Int.reduceLE, Int.reduceNeg, Int.reduceBEq, Int.reduceBNe, Int.reduceToNat, rxT, List.length_map, hp, pcT, S4.ts, hl, hw1, hw2, hg1, hg2, ht]))
          | (refine AV.cond ?_ ?_ (fun hc => ?_) (fun hc => ?_) <;> (try simp only [go_sem, Nat.reduceSub, reduceIte, Nat.reduceEqDiff, Nat.reduceLT, Nat.reduceMul, Nat.reduceAdd, Nat.reduceBEq, Nat.reduceLeDiff, Int.reduceLT, Int.reduceLE, Int.reduceNeg, Int.reduceBEq, Int.reduceBNe, Int.reduceToNat, beq_iff_eq, beq_eq_false_iff_ne] at hc) <;> (try simp only [go_sem, Nat.reduceSub, reduceIte, Nat.reduceEqDiff, Nat.reduceLT, Nat.reduceMul, Nat.reduceAdd, Nat.reduceBEq, Nat.reduceLeDiff, Int.reduceLT, Int.reduceLE, Int.reduceNeg, Int.reduceBEq, Int.reduceBNe, Int.reduceToNat]))
          | ((first | refine AV.skip ?_ | refine AV.exit ?_); simp only [go_sem, Nat.reduceSub, reduceIte, Nat.reduceEqDiff, Nat.reduceLT, Nat.reduceMul, Nat.reduceAdd, Nat.reduceBEq, Nat.reduceLeDiff, Int.reduceLT, Int.reduceLE, Int.reduceNeg, Int.reduceBEq, Int.reduceBNe, Int.reduceToNat])
          | (refine AV.ret ?_; (try simp only [go_sem, Nat.reduceSub, reduceIte, Nat.reduceEqDiff, Nat.reduceLT, Nat.reduceMul, Nat.reduceAdd, Nat.reduceBEq, Nat.reduceLeDiff, Int.reduceLT, Int.reduceLE, Int.reduceNeg, Int.reduceBEq, Int.reduceBNe, Int.reduceToNat]); first | refine atEnd_t (by simp only [go_sem, Nat.reduceSub, reduceIte, Nat.reduceEqDiff, Nat.reduceLT, Nat.reduceMul, Nat.reduceAdd, Nat.reduceBEq, Nat.reduceLeDiff, Int.reduceLT, Int.reduceLE, Int.reduceNeg, Int.reduceBEq, Int.reduceBNe, Int.reduceToNat] <;> rfl) ?_ (by first | (simp [rxT]; done) | exact leftT_tup _) | refine atEnd_c (by simp only [go_sem, Nat.reduceSub, reduceIte, Nat.reduceEqDiff, Nat.reduceLT, Nat.reduceMul, Nat.reduceAdd, Nat.reduceBEq, Nat.reduceLeDiff, Int.reduceLT, Int.reduceLE, Int.reduceNeg, Int.reduceBEq, Int.reduceBNe, Int.reduceToNat] <;> rfl) ?_ (by first | (simp [rxT]; done) | exact leftT_tup _) | refine atEnd_ct (by simp only [go_sem, Nat.reduceSub, reduceIte, Nat.reduceEqDiff, Nat.reduceLT, Nat.reduceMul, Nat.reduceAdd, Nat.reduceBEq, Nat.reduceLeDiff, Int.reduceLT, Int.reduceLE, Int.reduceNeg, Int.reduceBEq, Int.reduceBNe, Int.reduceToNat] <;> rfl) ?_ (by first | (simp; done) | exact leftT_tup _) (by simp only [go_sem, Nat.reduceSub, reduceIte, Nat.reduceEqDiff, Nat.reduceLT, Nat.reduceMul, Nat.reduceAdd, Nat.reduceBEq, Nat.reduceLeDiff, Int.reduceLT, Int.reduceLE, Int.reduceNeg, Int.reduceBEq, Int.reduceBNe, Int.reduceToNat] <;> rfl) ?_ (by simp) | refine atEnd_o (by simp only [go_sem, Nat.reduceSub, reduceIte, Nat.reduceEqDiff, Nat.reduceLT, Nat.reduceMul, Nat.reduceAdd, Nat.reduceBEq, Nat.reduceLeDiff, Int.reduceLT, Int.reduceLE, Int.reduceNeg, Int.reduceBEq, Int.reduceBNe, Int.reduceToNat] <;> rfl) ?_)
          | (refine And.intro ?_ ?_)
          | (with_reducible intro _)
        all_goals try first | exact True.intro | omega | exact ⟨_, _, rfl⟩ | exact allSolid_pcs _ | exact allSolid_one _ | exact allSolid_bool _ | rfl
        exact ⟨m - 1, by omega, i + 1, st' ++ [a && b], by omega, by simp; omega, by simpa using h5, by rw [h4, runM_bi _ _ _ _ _ _ tk2]; rfl, by cases a <;> cases b <;> simp [rxT]⟩
      · repeat' first
          | refine AV.seq ?_
          | refine AV.block ?_
          | ((first | refine AV.reg ?_ | refine AV.regD mixed ?_); simp only [hN, c14R0, c14R1, c14R2, c14R3, c14R4, c14R5, c14R6, c14R7, c14R8, c14R9, c14R10, c14R11, c14R12, c14R13, c14R14, c14R15, c14R16, c14R17, c14R18, c14R19, rxT, List.length_map, hp, pcT, S4.ts, hl, hw1, hw2, hg1, hg2, ht, go_sem, Nat.reduceSub, reduceIte, Nat.reduceEqDiff, Nat.reduceLT, Nat.reduceMul, Nat.reduceAdd, Nat.reduceBEq, Nat.reduceLeDiff, Int.reduceLT, Int.reduceLE, Int.reduceNeg, Int.reduceBEq, Int.reduceBNe, Int.reduceToNat]; repeat (simp (disch := omega) only [wrap_small, getD_map_lt]; try simp only [go_sem, Nat.reduceSub, reduceIte, Nat.reduceEqDiff, Nat.reduceLT, Nat.reduceMul, Nat.reduceAdd, Nat.reduceBEq, Nat.reduceLeDiff, Int.reduceLT, Int.reduceLE, Int.reduceNeg, Int.reduceBEq, Int.reduceBNe, Int.reduceToNat, rxT, List.length_map, hp, pcT, S4.ts, hl, hw1, hw2, hg1, hg2, ht]))
          | (refine AV.cond ?_ ?_ (fun hc => ?_) (fun hc => ?_) <;> (try simp only [go_sem, Nat.reduceSub, reduceIte, Nat.reduceEqDiff, Nat.reduceLT, Nat.reduceMul, Nat.reduceAdd, Nat.reduceBEq, Nat.reduceLeDiff, Int.reduceLT, Int.reduceLE, Int.reduceNeg, Int.reduceBEq, Int.reduceBNe, Int.reduceToNat, beq_iff_eq, beq_eq_false_iff_ne] at hc) <;> (try simp only [go_sem, Nat.reduceSub, reduceIte, Nat.reduceEqDiff, Nat.reduceLT, Nat.reduceMul, Nat.reduceAdd, Nat.reduceBEq, Nat.reduceLeDiff, Int.reduceLT, Int.reduceLE, Int.reduceNeg, Int.reduceBEq, Int.reduceBNe, Int.reduceToNat]))
          | ((first | refine AV.skip ?_ | refine AV.exit ?_); simp only [go_sem, Nat.reduceSub, reduceIte, Nat.reduceEqDiff, Nat.reduceLT, Nat.reduceMul, Nat.reduceAdd, Nat.reduceBEq, Nat.reduceLeDiff, Int.reduceLT, Int.reduceLE, Int.reduceNeg, Int.reduceBEq, Int.reduceBNe, Int.reduceToNat])
          | (refine AV.ret ?_; (try simp only [go_sem, Nat.reduceSub, reduceIte, Nat.reduceEqDiff, Nat.reduceLT, Nat.reduceMul, Nat.reduceAdd, Nat.reduceBEq, Nat.reduceLeDiff, Int.reduceLT, Int.reduceLE, Int.reduceNeg, Int.reduceBEq, Int.reduceBNe, Int.reduceToNat]); first | refine atEnd_t (by simp only [go_sem, Nat.reduceSub, reduceIte, Nat.reduceEqDiff, Nat.reduceLT, Nat.reduceMul, Nat.reduceAdd, Nat.reduceBEq, Nat.reduceLeDiff, Int.reduceLT, Int.reduceLE, Int.reduceNeg, Int.reduceBEq, Int.reduceBNe, Int.reduceToNat] <;> rfl) ?_ (by first | (simp [rxT]; done) | exact leftT_tup _) | refine atEnd_c (by simp only [go_sem, Nat.reduceSub, reduceIte, Nat.reduceEqDiff, Nat.reduceLT, Nat.reduceMul, Nat.reduceAdd, Nat.reduceBEq, Nat.reduceLeDiff, Int.reduceLT, Int.reduceLE, Int.reduceNeg, Int.reduceBEq, Int.reduceBNe, Int.reduceToNat] <;> rfl) ?_ (by first | (simp [rxT]; done) | exact leftT_tup _) | refine atEnd_ct (by simp only [go_sem, Nat.reduceSub, reduceIte, Nat.reduceEqDiff, Nat.reduceLT, Nat.reduceMul, Nat.reduceAdd, Nat.reduceBEq, Nat.reduceLeDiff, Int.reduceLT, Int.reduceLE, Int.reduceNeg, Int.reduceBEq, Int.reduceBNe, Int.reduceToNat] <;> rfl) ?_ (by first | (simp; done) | exact leftT_tup _) (by simp only [go_sem, Nat.reduceSub, reduceIte, Nat.reduceEqDiff, Nat.reduceLT, Nat.reduceMul, Nat.reduceAdd, Nat.reduceBEq, Nat.reduceLeDiff, Int.reduceLT, Int.reduceLE, Int.reduceNeg, Int.reduceBEq, Int.reduceBNe, Int.reduceToNat] <;> rfl) ?_ (by simp) | refine atEnd_o (by simp only [go_sem, Nat.reduceSub, reduceIte, Nat.reduceEqDiff, Nat.reduceLT, Nat.reduceMul, Nat.reduceAdd, Nat.reduceBEq, Nat.reduceLeDiff, Int.reduceLT, Int.reduceLE, Int.reduceNeg, Int.reduceBEq, Int.reduceBNe, Int.reduceToNat] <;> rfl) ?_)
          | (refine And.intro ?_ ?_)
          | (with_reducible intro _)
        all_goals try first | exact True.intro | omega | exact ⟨_, _, rfl⟩ | exact allSolid_pcs _ | exact allSolid_one _ | exact allSolid_bool _ | rfl
        exact ⟨m - 1, by omega, i + 1, st' ++ [a || b], by omega, by simp; omega, by simpa using h5, by rw [h4, runM_bi _ _ _ _ _ _ tk3]; rfl, by cases a <;> cases b <;> simp [rxT]⟩
  · have hd : r.drop i = [] := List.drop_eq_nil_of_le (by omega)
    rw [hd] at h3 h4
    obtain ⟨a, rfl⟩ := fits_end _ h3
    repeat' first
      | refine AV.seq ?_
      | refine AV.block ?_
      | ((first | refine AV.reg ?_ | refine AV.regD mixed ?_); simp only [hN, c14R0, c14R1, c14R2, c14R3, c14R4, c14R5, c14R6, c14R7, c14R8, c14R9, c14R10, c14R11, c14R12, c14R13, c14R14, c14R15, c14R16, c14R17, c14R18, c14R19, rxT, List.length_map, go_sem, Nat.reduceSub, reduceIte, Nat.reduceEqDiff, Nat.reduceLT, Nat.reduceMul, Nat.reduceAdd, Nat.reduceBEq, Nat.reduceLeDiff, Int.reduceLT, Int.reduceLE, Int.reduceNeg, Int.reduceBEq, Int.reduceBNe, Int.reduceToNat]; repeat (simp (disch := omega) only [wrap_small, getD_map_lt]; try simp only [go_sem, Nat.reduceSub, reduceIte, Nat.reduceEqDiff, Nat.reduceLT, Nat.reduceMul, Nat.reduceAdd, Nat.reduceBEq, Nat.reduceLeDiff, Int.reduceLT, Int.reduceLE, Int.reduceNeg, Int.reduceBEq, Int.reduceBNe, Int.reduceToNat, rxT, List.length_map]))
      | (refine AV.cond ?_ ?_ (fun hc => ?_) (fun hc => ?_) <;> (try simp only [go_sem, Nat.reduceSub, reduceIte, Nat.reduceEqDiff, Nat.reduceLT, Nat.reduceMul, Nat.reduceAdd, Nat.reduceBEq, Nat.reduceLeDiff, Int.reduceLT, Int.reduceLE, Int.reduceNeg, Int.reduceBEq, Int.reduceBNe, Int.reduceToNat, beq_iff_eq, beq_eq_false_iff_ne] at hc) <;> (try simp only [go_sem, Nat.reduceSub, reduceIte, Nat.reduceEqDiff, Nat.reduceLT, Nat.reduceMul, Nat.reduceAdd, Nat.reduceBEq, Nat.reduceLeDiff, Int.reduceLT, Int.reduceLE, Int.reduceNeg, Int.reduceBEq, Int.reduceBNe, Int.reduceToNat]))
      | ((first | refine AV.skip ?_ | refine AV.exit ?_); simp only [go_sem, Nat.reduceSub, reduceIte, Nat.reduceEqDiff, Nat.reduceLT, Nat.reduceMul, Nat.reduceAdd, Nat.reduceBEq, Nat.reduceLeDiff, Int.reduceLT, Int.reduceLE, Int.reduceNeg, Int.reduceBEq, Int.reduceBNe, Int.reduceToNat])
      | (refine AV.ret ?_; (try simp only [go_sem, Nat.reduceSub, reduceIte, Nat.reduceEqDiff, Nat.reduceLT, Nat.reduceMul, Nat.reduceAdd, Nat.reduceBEq, Nat.reduceLeDiff, Int.reduceLT, Int.reduceLE, Int.reduceNeg, Int.reduceBEq, Int.reduceBNe, Int.reduceToNat]); first | refine atEnd_t (by simp only [go_sem, Nat.reduceSub, reduceIte, Nat.reduceEqDiff, Nat.reduceLT, Nat.reduceMul, Nat.reduceAdd, Nat.reduceBEq, Nat.reduceLeDiff, Int.reduceLT, Int.reduceLE, Int.reduceNeg, Int.reduceBEq, Int.reduceBNe, Int.reduceToNat] <;> rfl) ?_ (by first | (simp [rxT]; done) | exact leftT_tup _) | refine atEnd_c (by simp only [go_sem, Nat.reduceSub, reduceIte, Nat.reduceEqDiff, Nat.reduceLT, Nat.reduceMul, Nat.reduceAdd, Nat.reduceBEq, Nat.reduceLeDiff, Int.reduceLT, Int.reduceLE, Int.reduceNeg, Int.reduceBEq, Int.reduceBNe, Int.reduceToNat] <;> rfl) ?_ (by first | (simp [rxT]; done) | exact leftT_tup _) | refine atEnd_ct (by simp only [go_sem, Nat.reduceSub, reduceIte, Nat.reduceEqDiff, Nat.reduceLT, Nat.reduceMul, Nat.reduceAdd, Nat.reduceBEq, Nat.reduceLeDiff, Int.reduceLT, Int.reduceLE, Int.reduceNeg, Int.reduceBEq, Int.reduceBNe, Int.reduceToNat] <;> rfl) ?_ (by first | (simp; done) | exact leftT_tup _) (by simp only [go_sem, Nat.reduceSub, reduceIte, Nat.reduceEqDiff, Nat.reduceLT, Nat.reduceMul, Nat.reduceAdd, Nat.reduceBEq, Nat.reduceLeDiff, Int.reduceLT, Int.reduceLE, Int.reduceNeg, Int.reduceBEq, Int.reduceBNe, Int.reduceToNat] <;> rfl) ?_ (by simp) | refine atEnd_o (by simp only [go_sem, Nat.reduceSub, reduceIte, Nat.reduceEqDiff, Nat.reduceLT, Nat.reduceMul, Nat.reduceAdd, Nat.reduceBEq, Nat.reduceLeDiff, Int.reduceLT, Int.reduceLE, Int.reduceNeg, Int.reduceBEq, Int.reduceBNe, Int.reduceToNat] <;> rfl) ?_)
      | (refine And.intro ?_ ?_)
      | (with_reducible intro _)
    all_goals try first | exact True.intro | omega | exact ⟨_, _, rfl⟩ | exact allSolid_pcs _ | exact allSolid_one _ | exact allSolid_bool _ | rfl
    rw [h4]; rfl
end Go.Proofs.Ytaefhdklkbohmaa
/- deriv.derive, deriv.By. -/
namespace Go.Proofs.Ytaefhdklkbohmaa
open Go Go.RowKit
set_option linter.unusedSimpArgs false
set_option maxRecDepth 20000
set_option maxHeartbeats 4000000
theorem empty14_tree (t : Rx) (h : t.enc.length ≤ 1073741820) : ACalls Try.prog 14 [rxT t.enc] .sh (.bool t.nul) := by
  have := empty14_spec t.enc h (fits_enc t)
  rw [runM_all, evR_empty] at this
  exact this
theorem der_small (c : Nat) (t : Rx) (h : t.enc.length ≤ 10000) : olen (der c t) ≤ 100010000 :=
  Nat.le_trans (der_len c t) (Nat.le_trans (Nat.mul_le_mul h (Nat.add_le_add_right h 1)) (by decide))
/-- The last piece, and what is asked of it. -/
theorem last_at (u : List Pc) (p : Pc) (k : Int) (s : S4) (hp : p = ⟨k, s⟩) (h : u.length ≤ 1073741820) : (u ++ [p]).length = u.length + 1 ∧ IntKind.i64.wrap (((u.length + 1 : Nat) : Int) - 1) = (u.length : Int) ∧
    ((u ++ [p]).map pcT).getD u.length default = .agg [.int .i64 k, .int .u64 (s.w0.toNat : Int), .int .u64 (s.w1.toNat : Int), .int .u64 (s.w2.toNat : Int), .int .u64 (s.w3.toNat : Int)] := by
  refine ⟨by simp, ?_, ?_⟩
  · rw [wrap_small] <;> omega
  · subst hp; simp [pcT, S4.ts]
theorem join_star (a : Rx) (h : a.enc.length < 1073741824) : ACalls Try.prog 78 [.int .i64 4, .sl 1 [rxT a.enc]] .sh (rxT (Rx.star a).enc) := by
  have := join78_spec 4 [a.enc] rfl (by simp) (by simpa using h)
  simpa [Rx.enc] using this
theorem derive39_spec (c : Nat) (hcc : c < 256) (t : Rx) (hl : t.enc.length ≤ 10000) : ACalls Try.prog 39 [rxT t.enc, .int .u8 (c : Int)] .sh (leftT (der c t)) := by
  induction t with
  | none =>
    obtain ⟨p, hpd⟩ : ∃ p : Pc, p = ⟨0, z4⟩ := ⟨_, rfl⟩
    obtain ⟨u, hud⟩ : ∃ u : List Pc, u = [] := ⟨_, rfl⟩
    have hq : Rx.none.enc = u ++ [p] := by rw [hpd, hud]; rfl
    have hul : u.length = 0 := by rw [hud]; rfl
    obtain ⟨l1, l2, l3⟩ := last_at u p 0 z4 hpd (by omega)
    have hp := parts74_spec .none (by omega)
    rw [hq] at hp ⊢
    refine ACalls.of n39 rfl (m39 _ rfl) q39 (by simp only [List.length_cons, List.length_nil]; decide) (fun C hC => ?_)
    have hN : C.N = 87 := hC
    repeat' first
      | refine AV.seq ?_
      | refine AV.block ?_
      | ((first | refine AV.reg ?_ | refine AV.regD mixed ?_); simp only [hN, c39R0, c39R1, c39R2, c39R3, c39R4, c39R5, c39R6, c39R7, c39R8, c39R9, c39R10, c39R11, c39R12, c39R13, c39R14, c39R15, c39R16, c39R17, c39R18, c39R19, rxT, List.length_map, l1, l2, l3, partsT, leftT, go_sem, Nat.reduceSub, reduceIte, Nat.reduceEqDiff, Nat.reduceLT, Nat.reduceMul, Nat.reduceAdd, Nat.reduceBEq, Nat.reduceLeDiff, Int.reduceLT, Int.reduceLE, Int.reduceNeg, Int.reduceBEq, Int.reduceBNe, Int.reduceToNat]; repeat (simp (disch := omega) only [wrap_small, getD_map_lt]; try simp only [go_sem, Nat.reduceSub, reduceIte, Nat.reduceEqDiff, Nat.reduceLT, Nat.reduceMul, Nat.reduceAdd, Nat.reduceBEq, Nat.reduceLeDiff, Int.reduceLT, Int.reduceLE, Int.reduceNeg, Int.reduceBEq, Int.reduceBNe, Int.reduceToNat, rxT, List.length_map, l1, l2, l3, partsT, leftT]))
      | (refine AV.cond ?_ ?_ (fun hc => ?_) (fun hc => ?_) <;> (try simp only [go_sem, Nat.reduceSub, reduceIte, Nat.reduceEqDiff, Nat.reduceLT, Nat.reduceMul, Nat.reduceAdd, Nat.reduceBEq, Nat.reduceLeDiff, Int.reduceLT, Int.reduceLE, Int.reduceNeg, Int.reduceBEq, Int.reduceBNe, Int.reduceToNat, beq_iff_eq, beq_eq_false_iff_ne] at hc) <;> (try simp only [go_sem, Nat.reduceSub, reduceIte, Nat.reduceEqDiff, Nat.reduceLT, Nat.reduceMul, Nat.reduceAdd, Nat.reduceBEq, Nat.reduceLeDiff, Int.reduceLT, Int.reduceLE, Int.reduceNeg, Int.reduceBEq, Int.reduceBNe, Int.reduceToNat]))
      | ((first | refine AV.skip ?_ | refine AV.exit ?_); simp only [go_sem, Nat.reduceSub, reduceIte, Nat.reduceEqDiff, Nat.reduceLT, Nat.reduceMul, Nat.reduceAdd, Nat.reduceBEq, Nat.reduceLeDiff, Int.reduceLT, Int.reduceLE, Int.reduceNeg, Int.reduceBEq, Int.reduceBNe, Int.reduceToNat])
      | ((first | refine ⟨_, _, hp, rfl, ?_⟩ | refine ⟨_, _, hp, ?_⟩ | refine ⟨_, _, fun _ => hp, rfl, fun _ => trivial, ?_⟩); (try simp only [go_sem, Nat.reduceSub, reduceIte, Nat.reduceEqDiff, Nat.reduceLT, Nat.reduceMul, Nat.reduceAdd, Nat.reduceBEq, Nat.reduceLeDiff, Int.reduceLT, Int.reduceLE, Int.reduceNeg, Int.reduceBEq, Int.reduceBNe, Int.reduceToNat, rxT, List.length_map, l1, l2, l3, partsT, leftT]); repeat (simp (disch := omega) only [wrap_small, getD_map_lt]; try simp only [go_sem, Nat.reduceSub, reduceIte, Nat.reduceEqDiff, Nat.reduceLT, Nat.reduceMul, Nat.reduceAdd, Nat.reduceBEq, Nat.reduceLeDiff, Int.reduceLT, Int.reduceLE, Int.reduceNeg, Int.reduceBEq, Int.reduceBNe, Int.reduceToNat, rxT, List.length_map, l1, l2, l3, partsT, leftT]))
      | ((first | refine ⟨.sh, .bool false, rfl, trivial, ?_⟩ | refine ⟨.sh, .bool false, rfl, ?_⟩); try simp only [go_sem, Nat.reduceSub, reduceIte, Nat.reduceEqDiff, Nat.reduceLT, Nat.reduceMul, Nat.reduceAdd, Nat.reduceBEq, Nat.reduceLeDiff, Int.reduceLT, Int.reduceLE, Int.reduceNeg, Int.reduceBEq, Int.reduceBNe, Int.reduceToNat])
      | (refine AV.ret ?_; (try simp only [go_sem, Nat.reduceSub, reduceIte, Nat.reduceEqDiff, Nat.reduceLT, Nat.reduceMul, Nat.reduceAdd, Nat.reduceBEq, Nat.reduceLeDiff, Int.reduceLT, Int.reduceLE, Int.reduceNeg, Int.reduceBEq, Int.reduceBNe, Int.reduceToNat]); first | refine atEnd_t (by simp only [go_sem, Nat.reduceSub, reduceIte, Nat.reduceEqDiff, Nat.reduceLT, Nat.reduceMul, Nat.reduceAdd, Nat.reduceBEq, Nat.reduceLeDiff, Int.reduceLT, Int.reduceLE, Int.reduceNeg, Int.reduceBEq, Int.reduceBNe, Int.reduceToNat] <;> rfl) ?_ (by first | (simp [rxT]; done) | exact leftT_tup _) | refine atEnd_c (by simp only [go_sem, Nat.reduceSub, reduceIte, Nat.reduceEqDiff, Nat.reduceLT, Nat.reduceMul, Nat.reduceAdd, Nat.reduceBEq, Nat.reduceLeDiff, Int.reduceLT, Int.reduceLE, Int.reduceNeg, Int.reduceBEq, Int.reduceBNe, Int.reduceToNat] <;> rfl) ?_ (by first | (simp [rxT]; done) | exact leftT_tup _) | refine atEnd_ct (by simp only [go_sem, Nat.reduceSub, reduceIte, Nat.reduceEqDiff, Nat.reduceLT, Nat.reduceMul, Nat.reduceAdd, Nat.reduceBEq, Nat.reduceLeDiff, Int.reduceLT, Int.reduceLE, Int.reduceNeg, Int.reduceBEq, Int.reduceBNe, Int.reduceToNat] <;> rfl) ?_ (by first | (simp; done) | exact leftT_tup _) (by simp only [go_sem, Nat.reduceSub, reduceIte, Nat.reduceEqDiff, Nat.reduceLT, Nat.reduceMul, Nat.reduceAdd, Nat.reduceBEq, Nat.reduceLeDiff, Int.reduceLT, Int.reduceLE, Int.reduceNeg, Int.reduceBEq, Int.reduceBNe, Int.reduceToNat] <;> rfl) ?_ (by simp) | refine atEnd_o (by simp only [go_sem, Nat.reduceSub, reduceIte, Nat.reduceEqDiff, Nat.reduceLT, Nat.reduceMul, Nat.reduceAdd, Nat.reduceBEq, Nat.reduceLeDiff, Int.reduceLT, Int.reduceLE, Int.reduceNeg, Int.reduceBEq, Int.reduceBNe, Int.reduceToNat] <;> rfl) ?_)
      | (refine And.intro ?_ ?_)
      | (with_reducible intro _)
    all_goals try first | exact True.intro | omega | exact ⟨_, _, rfl⟩ | exact allSolid_pcs _ | exact allSolid_one _ | exact allSolid_bool _ | rfl
  | one s =>
    obtain ⟨p, hpd⟩ : ∃ p : Pc, p = ⟨1, s⟩ := ⟨_, rfl⟩
    obtain ⟨u, hud⟩ : ∃ u : List Pc, u = [] := ⟨_, rfl⟩
    have hq : (Rx.one s).enc = u ++ [p] := by rw [hpd, hud]; rfl
    have hul : u.length = 0 := by rw [hud]; rfl
    obtain ⟨l1, l2, l3⟩ := last_at u p 1 s hpd (by omega)
    have hp := parts74_spec (.one s) (by omega)
    rw [hq] at hp ⊢
    refine ACalls.of n39 rfl (m39 _ rfl) q39 (by simp only [List.length_cons, List.length_nil]; decide) (fun C hC => ?_)
    have hN : C.N = 87 := hC
    repeat' first
      | refine AV.seq ?_
      | refine AV.block ?_
      | ((first | refine AV.reg ?_ | refine AV.regD mixed ?_); simp only [hN, c39R0, c39R1, c39R2, c39R3, c39R4, c39R5, c39R6, c39R7, c39R8, c39R9, c39R10, c39R11, c39R12, c39R13, c39R14, c39R15, c39R16, c39R17, c39R18, c39R19, rxT, List.length_map, l1, l2, l3, partsT, leftT, go_sem, Nat.reduceSub, reduceIte, Nat.reduceEqDiff, Nat.reduceLT, Nat.reduceMul, Nat.reduceAdd, Nat.reduceBEq, Nat.reduceLeDiff, Int.reduceLT, Int.reduceLE, Int.reduceNeg, Int.reduceBEq, Int.reduceBNe, Int.reduceToNat]; repeat (simp (disch := omega) only [wrap_small, getD_map_lt]; try simp only [go_sem, Nat.reduceSub, reduceIte, Nat.reduceEqDiff, Nat.reduceLT, Nat.reduceMul, Nat.reduceAdd, Nat.reduceBEq, Nat.reduceLeDiff, Int.reduceLT, Int.reduceLE, Int.reduceNeg, Int.reduceBEq, Int.reduceBNe, Int.reduceToNat, rxT, List.length_map, l1, l2, l3, partsT, leftT]))
      | (refine AV.cond ?_ ?_ (fun hc => ?_) (fun hc => ?_) <;> (try simp only [go_sem, Nat.reduceSub, reduceIte, Nat.reduceEqDiff, Nat.reduceLT, Nat.reduceMul, Nat.reduceAdd, Nat.reduceBEq, Nat.reduceLeDiff, Int.reduceLT, Int.reduceLE, Int.reduceNeg, Int.reduceBEq, Int.reduceBNe, Int.reduceToNat, beq_iff_eq, beq_eq_false_iff_ne] at hc) <;> (try simp only [go_sem, Nat.reduceSub, reduceIte, Nat.reduceEqDiff, Nat.reduceLT, Nat.reduceMul, Nat.reduceAdd, Nat.reduceBEq, Nat.reduceLeDiff, Int.reduceLT, Int.reduceLE, Int.reduceNeg, Int.reduceBEq, Int.reduceBNe, Int.reduceToNat]))
      | ((first | refine AV.skip ?_ | refine AV.exit ?_); simp only [go_sem, Nat.reduceSub, reduceIte, Nat.reduceEqDiff, Nat.reduceLT, Nat.reduceMul, Nat.reduceAdd, Nat.reduceBEq, Nat.reduceLeDiff, Int.reduceLT, Int.reduceLE, Int.reduceNeg, Int.reduceBEq, Int.reduceBNe, Int.reduceToNat])
      | ((first | refine ⟨_, _, hp, rfl, ?_⟩ | refine ⟨_, _, hp, ?_⟩ | refine ⟨_, _, fun _ => hp, rfl, fun _ => trivial, ?_⟩ | refine ⟨_, _, has75_spec s c hcc, rfl, ?_⟩ | refine ⟨_, _, has75_spec s c hcc, ?_⟩ | refine ⟨_, _, fun _ => has75_spec s c hcc, rfl, fun _ => trivial, ?_⟩); (try simp only [go_sem, Nat.reduceSub, reduceIte, Nat.reduceEqDiff, Nat.reduceLT, Nat.reduceMul, Nat.reduceAdd, Nat.reduceBEq, Nat.reduceLeDiff, Int.reduceLT, Int.reduceLE, Int.reduceNeg, Int.reduceBEq, Int.reduceBNe, Int.reduceToNat, rxT, List.length_map, l1, l2, l3, partsT, leftT]); repeat (simp (disch := omega) only [wrap_small, getD_map_lt]; try simp only [go_sem, Nat.reduceSub, reduceIte, Nat.reduceEqDiff, Nat.reduceLT, Nat.reduceMul, Nat.reduceAdd, Nat.reduceBEq, Nat.reduceLeDiff, Int.reduceLT, Int.reduceLE, Int.reduceNeg, Int.reduceBEq, Int.reduceBNe, Int.reduceToNat, rxT, List.length_map, l1, l2, l3, partsT, leftT]))
      | ((first | refine ⟨.sh, .bool false, rfl, trivial, ?_⟩ | refine ⟨.sh, .bool false, rfl, ?_⟩); try simp only [go_sem, Nat.reduceSub, reduceIte, Nat.reduceEqDiff, Nat.reduceLT, Nat.reduceMul, Nat.reduceAdd, Nat.reduceBEq, Nat.reduceLeDiff, Int.reduceLT, Int.reduceLE, Int.reduceNeg, Int.reduceBEq, Int.reduceBNe, Int.reduceToNat])
      | (refine AV.ret ?_; (try simp only [go_sem, Nat.reduceSub, reduceIte, Nat.reduceEqDiff, Nat.reduceLT, Nat.reduceMul, Nat.reduceAdd, Nat.reduceBEq, Nat.reduceLeDiff, Int.reduceLT, Int.reduceLE, Int.reduceNeg, Int.reduceBEq, Int.reduceBNe, Int.reduceToNat]); first | refine atEnd_t (by simp only [go_sem, Nat.reduceSub, reduceIte, Nat.reduceEqDiff, Nat.reduceLT, Nat.reduceMul, Nat.reduceAdd, Nat.reduceBEq, Nat.reduceLeDiff, Int.reduceLT, Int.reduceLE, Int.reduceNeg, Int.reduceBEq, Int.reduceBNe, Int.reduceToNat] <;> rfl) ?_ (by first | (simp [rxT]; done) | exact leftT_tup _) | refine atEnd_c (by simp only [go_sem, Nat.reduceSub, reduceIte, Nat.reduceEqDiff, Nat.reduceLT, Nat.reduceMul, Nat.reduceAdd, Nat.reduceBEq, Nat.reduceLeDiff, Int.reduceLT, Int.reduceLE, Int.reduceNeg, Int.reduceBEq, Int.reduceBNe, Int.reduceToNat] <;> rfl) ?_ (by first | (simp [rxT]; done) | exact leftT_tup _) | refine atEnd_ct (by simp only [go_sem, Nat.reduceSub, reduceIte, Nat.reduceEqDiff, Nat.reduceLT, Nat.reduceMul, Nat.reduceAdd, Nat.reduceBEq, Nat.reduceLeDiff, Int.reduceLT, Int.reduceLE, Int.reduceNeg, Int.reduceBEq, Int.reduceBNe, Int.reduceToNat] <;> rfl) ?_ (by first | (simp; done) | exact leftT_tup _) (by simp only [go_sem, Nat.reduceSub, reduceIte, Nat.reduceEqDiff, Nat.reduceLT, Nat.reduceMul, Nat.reduceAdd, Nat.reduceBEq, Nat.reduceLeDiff, Int.reduceLT, Int.reduceLE, Int.reduceNeg, Int.reduceBEq, Int.reduceBNe, Int.reduceToNat] <;> rfl) ?_ (by simp) | refine atEnd_o (by simp only [go_sem, Nat.reduceSub, reduceIte, Nat.reduceEqDiff, Nat.reduceLT, Nat.reduceMul, Nat.reduceAdd, Nat.reduceBEq, Nat.reduceLeDiff, Int.reduceLT, Int.reduceLE, Int.reduceNeg, Int.reduceBEq, Int.reduceBNe, Int.reduceToNat] <;> rfl) ?_)
      | (refine And.intro ?_ ?_)
      | (with_reducible intro _)
    all_goals try first | exact True.intro | omega | exact ⟨_, _, rfl⟩ | exact allSolid_pcs _ | exact allSolid_one _ | exact allSolid_bool _ | rfl
    · have e : der c (.one s) = .some .none := by simp only [der, if_pos hc]
      rw [e]; rfl
    · have e : der c (.one s) = .none := by simp only [der, hc, Bool.false_eq_true, if_false]
      rw [e]; rfl
  | cat a b iha ihb =>
    obtain ⟨p, hpd⟩ : ∃ p : Pc, p = ⟨2, z4⟩ := ⟨_, rfl⟩
    obtain ⟨u, hud⟩ : ∃ u : List Pc, u = a.enc ++ b.enc := ⟨_, rfl⟩
    have hq : (Rx.cat a b).enc = u ++ [p] := by rw [hpd, hud]; rfl
    have hle : (Rx.cat a b).enc.length = u.length + 1 := by rw [hq]; simp
    have hul : u.length = a.enc.length + b.enc.length := by subst hud; simp
    have hla : a.enc.length ≤ 10000 := by omega
    have hlb : b.enc.length ≤ 10000 := by omega
    have ka := iha hla
    have kb := ihb hlb
    have da := der_small c a hla
    have db := der_small c b hlb
    have dc := olen_lcat (der c a) b
    obtain ⟨l1, l2, l3⟩ := last_at u p 2 z4 hpd (by omega)
    have hp := parts74_spec (.cat a b) (by omega)
    rw [hq] at hp ⊢
    refine ACalls.of n39 rfl (m39 _ rfl) q39 (by simp only [List.length_cons, List.length_nil]; decide) (fun C hC => ?_)
    have hN : C.N = 87 := hC
    repeat' first
      | refine AV.seq ?_
      | refine AV.block ?_
      | ((first | refine AV.reg ?_ | refine AV.regD mixed ?_); simp only [hN, c39R0, c39R1, c39R2, c39R3, c39R4, c39R5, c39R6, c39R7, c39R8, c39R9, c39R10, c39R11, c39R12, c39R13, c39R14, c39R15, c39R16, c39R17, c39R18, c39R19, rxT, List.length_map, l1, l2, l3, partsT, leftT, go_sem, Nat.reduceSub, reduceIte, Nat.reduceEqDiff, Nat.reduceLT, Nat.reduceMul, Nat.reduceAdd, Nat.reduceBEq, Nat.reduceLeDiff, Int.reduceLT, Int.reduceLE, Int.reduceNeg, Int.reduceBEq, Int.reduceBNe, Int.reduceToNat]; repeat (simp (disch := omega) only [wrap_small, getD_map_lt]; try simp only [go_sem, Nat.reduceSub, reduceIte, Nat.reduceEqDiff, Nat.reduceLT, Nat.reduceMul, Nat.reduceAdd, Nat.reduceBEq, Nat.reduceLeDiff, Int.reduceLT, Int.reduceLE, Int.reduceNeg, Int.reduceBEq, Int.reduceBNe, Int.reduceToNat, rxT, List.length_map, l1, l2, l3, partsT, leftT]))
      | (refine AV.cond ?_ ?_ (fun hc => ?_) (fun hc => ?_) <;> (try simp only [go_sem, Nat.reduceSub, reduceIte, Nat.reduceEqDiff, Nat.reduceLT, Nat.reduceMul, Nat.reduceAdd, Nat.reduceBEq, Nat.reduceLeDiff, Int.reduceLT, Int.reduceLE, Int.reduceNeg, Int.reduceBEq, Int.reduceBNe, Int.reduceToNat, beq_iff_eq, beq_eq_false_iff_ne] at hc) <;> (try simp only [go_sem, Nat.reduceSub, reduceIte, Nat.reduceEqDiff, Nat.reduceLT, Nat.reduceMul, Nat.reduceAdd, Nat.reduceBEq, Nat.reduceLeDiff, Int.reduceLT, Int.reduceLE, Int.reduceNeg, Int.reduceBEq, Int.reduceBNe, Int.reduceToNat]))
      | ((first | refine AV.skip ?_ | refine AV.exit ?_); simp only [go_sem, Nat.reduceSub, reduceIte, Nat.reduceEqDiff, Nat.reduceLT, Nat.reduceMul, Nat.reduceAdd, Nat.reduceBEq, Nat.reduceLeDiff, Int.reduceLT, Int.reduceLE, Int.reduceNeg, Int.reduceBEq, Int.reduceBNe, Int.reduceToNat])
      | ((first | refine ⟨_, _, hp, rfl, ?_⟩ | refine ⟨_, _, hp, ?_⟩ | refine ⟨_, _, fun _ => hp, rfl, fun _ => trivial, ?_⟩ | refine ⟨_, _, ka, rfl, ?_⟩ | refine ⟨_, _, ka, ?_⟩ | refine ⟨_, _, fun _ => ka, rfl, fun _ => trivial, ?_⟩ | refine ⟨_, _, kb, rfl, ?_⟩ | refine ⟨_, _, kb, ?_⟩ | refine ⟨_, _, fun _ => kb, rfl, fun _ => trivial, ?_⟩ | refine ⟨_, _, cat76_spec (der c a) b (by omega), rfl, ?_⟩ | refine ⟨_, _, cat76_spec (der c a) b (by omega), ?_⟩ | refine ⟨_, _, fun _ => cat76_spec (der c a) b (by omega), rfl, fun _ => trivial, ?_⟩ | refine ⟨_, _, empty14_tree a (by omega), rfl, ?_⟩ | refine ⟨_, _, empty14_tree a (by omega), ?_⟩ | refine ⟨_, _, fun _ => empty14_tree a (by omega), rfl, fun _ => trivial, ?_⟩ | refine ⟨_, _, alt77_spec (lcat (der c a) (.some b)) (der c b) (by omega), rfl, ?_⟩ | refine ⟨_, _, alt77_spec (lcat (der c a) (.some b)) (der c b) (by omega), ?_⟩ | refine ⟨_, _, fun _ => alt77_spec (lcat (der c a) (.some b)) (der c b) (by omega), rfl, fun _ => trivial, ?_⟩); (try simp only [go_sem, Nat.reduceSub, reduceIte, Nat.reduceEqDiff, Nat.reduceLT, Nat.reduceMul, Nat.reduceAdd, Nat.reduceBEq, Nat.reduceLeDiff, Int.reduceLT, Int.reduceLE, Int.reduceNeg, Int.reduceBEq, Int.reduceBNe, Int.reduceToNat, rxT, List.length_map, l1, l2, l3, partsT, leftT]); repeat (simp (disch := omega) only [wrap_small, getD_map_lt]; try simp only [go_sem, Nat.reduceSub, reduceIte, Nat.reduceEqDiff, Nat.reduceLT, Nat.reduceMul, Nat.reduceAdd, Nat.reduceBEq, Nat.reduceLeDiff, Int.reduceLT, Int.reduceLE, Int.reduceNeg, Int.reduceBEq, Int.reduceBNe, Int.reduceToNat, rxT, List.length_map, l1, l2, l3, partsT, leftT]))
      | ((first | refine ⟨.sh, .bool false, rfl, trivial, ?_⟩ | refine ⟨.sh, .bool false, rfl, ?_⟩); try simp only [go_sem, Nat.reduceSub, reduceIte, Nat.reduceEqDiff, Nat.reduceLT, Nat.reduceMul, Nat.reduceAdd, Nat.reduceBEq, Nat.reduceLeDiff, Int.reduceLT, Int.reduceLE, Int.reduceNeg, Int.reduceBEq, Int.reduceBNe, Int.reduceToNat])
      | (refine AV.ret ?_; (try simp only [go_sem, Nat.reduceSub, reduceIte, Nat.reduceEqDiff, Nat.reduceLT, Nat.reduceMul, Nat.reduceAdd, Nat.reduceBEq, Nat.reduceLeDiff, Int.reduceLT, Int.reduceLE, Int.reduceNeg, Int.reduceBEq, Int.reduceBNe, Int.reduceToNat]); first | refine atEnd_t (by simp only [go_sem, Nat.reduceSub, reduceIte, Nat.reduceEqDiff, Nat.reduceLT, Nat.reduceMul, Nat.reduceAdd, Nat.reduceBEq, Nat.reduceLeDiff, Int.reduceLT, Int.reduceLE, Int.reduceNeg, Int.reduceBEq, Int.reduceBNe, Int.reduceToNat] <;> rfl) ?_ (by first | (simp [rxT]; done) | exact leftT_tup _) | refine atEnd_c (by simp only [go_sem, Nat.reduceSub, reduceIte, Nat.reduceEqDiff, Nat.reduceLT, Nat.reduceMul, Nat.reduceAdd, Nat.reduceBEq, Nat.reduceLeDiff, Int.reduceLT, Int.reduceLE, Int.reduceNeg, Int.reduceBEq, Int.reduceBNe, Int.reduceToNat] <;> rfl) ?_ (by first | (simp [rxT]; done) | exact leftT_tup _) | refine atEnd_ct (by simp only [go_sem, Nat.reduceSub, reduceIte, Nat.reduceEqDiff, Nat.reduceLT, Nat.reduceMul, Nat.reduceAdd, Nat.reduceBEq, Nat.reduceLeDiff, Int.reduceLT, Int.reduceLE, Int.reduceNeg, Int.reduceBEq, Int.reduceBNe, Int.reduceToNat] <;> rfl) ?_ (by first | (simp; done) | exact leftT_tup _) (by simp only [go_sem, Nat.reduceSub, reduceIte, Nat.reduceEqDiff, Nat.reduceLT, Nat.reduceMul, Nat.reduceAdd, Nat.reduceBEq, Nat.reduceLeDiff, Int.reduceLT, Int.reduceLE, Int.reduceNeg, Int.reduceBEq, Int.reduceBNe, Int.reduceToNat] <;> rfl) ?_ (by simp) | refine atEnd_o (by simp only [go_sem, Nat.reduceSub, reduceIte, Nat.reduceEqDiff, Nat.reduceLT, Nat.reduceMul, Nat.reduceAdd, Nat.reduceBEq, Nat.reduceLeDiff, Int.reduceLT, Int.reduceLE, Int.reduceNeg, Int.reduceBEq, Int.reduceBNe, Int.reduceToNat] <;> rfl) ?_)
      | (refine And.intro ?_ ?_)
      | (with_reducible intro _)
    all_goals try first | exact True.intro | omega | exact ⟨_, _, rfl⟩ | exact allSolid_pcs _ | exact allSolid_one _ | exact allSolid_bool _ | rfl
    · have e : der c (.cat a b) = lalt (lcat (der c a) (.some b)) (der c b) := by simp only [der, if_pos hc]
      rw [e]
    · have e : der c (.cat a b) = lcat (der c a) (.some b) := by simp only [der, hc, Bool.false_eq_true, if_false]
      rw [e]
  | alt a b iha ihb =>
    obtain ⟨p, hpd⟩ : ∃ p : Pc, p = ⟨3, z4⟩ := ⟨_, rfl⟩
    obtain ⟨u, hud⟩ : ∃ u : List Pc, u = a.enc ++ b.enc := ⟨_, rfl⟩
    have hq : (Rx.alt a b).enc = u ++ [p] := by rw [hpd, hud]; rfl
    have hle : (Rx.alt a b).enc.length = u.length + 1 := by rw [hq]; simp
    have hul : u.length = a.enc.length + b.enc.length := by subst hud; simp
    have hla : a.enc.length ≤ 10000 := by omega
    have hlb : b.enc.length ≤ 10000 := by omega
    have ka := iha hla
    have kb := ihb hlb
    have da := der_small c a hla
    have db := der_small c b hlb
    have dc := olen_lcat (der c a) b
    obtain ⟨l1, l2, l3⟩ := last_at u p 3 z4 hpd (by omega)
    have hp := parts74_spec (.alt a b) (by omega)
    rw [hq] at hp ⊢
    have he : leftT (der c (.alt a b)) = leftT (lalt (der c a) (der c b)) := rfl
    rw [he]
    refine ACalls.of n39 rfl (m39 _ rfl) q39 (by simp only [List.length_cons, List.length_nil]; decide) (fun C hC => ?_)
    have hN : C.N = 87 := hC
    repeat' first
      | refine AV.seq ?_
      | refine AV.block ?_
      | ((first | refine AV.reg ?_ | refine AV.regD mixed ?_); simp only [hN, c39R0, c39R1, c39R2, c39R3, c39R4, c39R5, c39R6, c39R7, c39R8, c39R9, c39R10, c39R11, c39R12, c39R13, c39R14, c39R15, c39R16, c39R17, c39R18, c39R19, rxT, List.length_map, l1, l2, l3, partsT, leftT, go_sem, Nat.reduceSub, reduceIte, Nat.reduceEqDiff, Nat.reduceLT, Nat.reduceMul, Nat.reduceAdd, Nat.reduceBEq, Nat.reduceLeDiff, Int.reduceLT, Int.reduceLE, Int.reduceNeg, Int.reduceBEq, Int.reduceBNe, Int.reduceToNat]; repeat (simp (disch := omega) only [wrap_small, getD_map_lt]; try simp only [go_sem, Nat.reduceSub, reduceIte, Nat.reduceEqDiff, Nat.reduceLT, Nat.reduceMul, Nat.reduceAdd, Nat.reduceBEq, Nat.reduceLeDiff, Int.reduceLT, Int.reduceLE, Int.reduceNeg, Int.reduceBEq, Int.reduceBNe, Int.reduceToNat, rxT, List.length_map, l1, l2, l3, partsT, leftT]))
      | (refine AV.cond ?_ ?_ (fun hc => ?_) (fun hc => ?_) <;> (try simp only [go_sem, Nat.reduceSub, reduceIte, Nat.reduceEqDiff, Nat.reduceLT, Nat.reduceMul, Nat.reduceAdd, Nat.reduceBEq, Nat.reduceLeDiff, Int.reduceLT, Int.reduceLE, Int.reduceNeg, Int.reduceBEq, Int.reduceBNe, Int.reduceToNat, beq_iff_eq, beq_eq_false_iff_ne] at hc) <;> (try simp only [go_sem, Nat.reduceSub, reduceIte, Nat.reduceEqDiff, Nat.reduceLT, Nat.reduceMul, Nat.reduceAdd, Nat.reduceBEq, Nat.reduceLeDiff, Int.reduceLT, Int.reduceLE, Int.reduceNeg, Int.reduceBEq, Int.reduceBNe, Int.reduceToNat]))
      | ((first | refine AV.skip ?_ | refine AV.exit ?_); simp only [go_sem, Nat.reduceSub, reduceIte, Nat.reduceEqDiff, Nat.reduceLT, Nat.reduceMul, Nat.reduceAdd, Nat.reduceBEq, Nat.reduceLeDiff, Int.reduceLT, Int.reduceLE, Int.reduceNeg, Int.reduceBEq, Int.reduceBNe, Int.reduceToNat])
      | ((first | refine ⟨_, _, hp, rfl, ?_⟩ | refine ⟨_, _, hp, ?_⟩ | refine ⟨_, _, fun _ => hp, rfl, fun _ => trivial, ?_⟩ | refine ⟨_, _, ka, rfl, ?_⟩ | refine ⟨_, _, ka, ?_⟩ | refine ⟨_, _, fun _ => ka, rfl, fun _ => trivial, ?_⟩ | refine ⟨_, _, kb, rfl, ?_⟩ | refine ⟨_, _, kb, ?_⟩ | refine ⟨_, _, fun _ => kb, rfl, fun _ => trivial, ?_⟩ | refine ⟨_, _, alt77_spec (der c a) (der c b) (by omega), rfl, ?_⟩ | refine ⟨_, _, alt77_spec (der c a) (der c b) (by omega), ?_⟩ | refine ⟨_, _, fun _ => alt77_spec (der c a) (der c b) (by omega), rfl, fun _ => trivial, ?_⟩); (try simp only [go_sem, Nat.reduceSub, reduceIte, Nat.reduceEqDiff, Nat.reduceLT, Nat.reduceMul, Nat.reduceAdd, Nat.reduceBEq, Nat.reduceLeDiff, Int.reduceLT, Int.reduceLE, Int.reduceNeg, Int.reduceBEq, Int.reduceBNe, Int.reduceToNat, rxT, List.length_map, l1, l2, l3, partsT, leftT]); repeat (simp (disch := omega) only [wrap_small, getD_map_lt]; try simp only [go_sem, Nat.reduceSub, reduceIte, Nat.reduceEqDiff, Nat.reduceLT, Nat.reduceMul, Nat.reduceAdd, Nat.reduceBEq, Nat.reduceLeDiff, Int.reduceLT, Int.reduceLE, Int.reduceNeg, Int.reduceBEq, Int.reduceBNe, Int.reduceToNat, rxT, List.length_map, l1, l2, l3, partsT, leftT]))
      | ((first | refine ⟨.sh, .bool false, rfl, trivial, ?_⟩ | refine ⟨.sh, .bool false, rfl, ?_⟩); try simp only [go_sem, Nat.reduceSub, reduceIte, Nat.reduceEqDiff, Nat.reduceLT, Nat.reduceMul, Nat.reduceAdd, Nat.reduceBEq, Nat.reduceLeDiff, Int.reduceLT, Int.reduceLE, Int.reduceNeg, Int.reduceBEq, Int.reduceBNe, Int.reduceToNat])
      | (refine AV.ret ?_; (try simp only [go_sem, Nat.reduceSub, reduceIte, Nat.reduceEqDiff, Nat.reduceLT, Nat.reduceMul, Nat.reduceAdd, Nat.reduceBEq, Nat.reduceLeDiff, Int.reduceLT, Int.reduceLE, Int.reduceNeg, Int.reduceBEq, Int.reduceBNe, Int.reduceToNat]); first | refine atEnd_t (by simp only [go_sem, Nat.reduceSub, reduceIte, Nat.reduceEqDiff, Nat.reduceLT, Nat.reduceMul, Nat.reduceAdd, Nat.reduceBEq, Nat.reduceLeDiff, Int.reduceLT, Int.reduceLE, Int.reduceNeg, Int.reduceBEq, Int.reduceBNe, Int.reduceToNat] <;> rfl) ?_ (by first | (simp [rxT]; done) | exact leftT_tup _) | refine atEnd_c (by simp only [go_sem, Nat.reduceSub, reduceIte, Nat.reduceEqDiff, Nat.reduceLT, Nat.reduceMul, Nat.reduceAdd, Nat.reduceBEq, Nat.reduceLeDiff, Int.reduceLT, Int.reduceLE, Int.reduceNeg, Int.reduceBEq, Int.reduceBNe, Int.reduceToNat] <;> rfl) ?_ (by first | (simp [rxT]; done) | exact leftT_tup _) | refine atEnd_ct (by simp only [go_sem, Nat.reduceSub, reduceIte, Nat.reduceEqDiff, Nat.reduceLT, Nat.reduceMul, Nat.reduceAdd, Nat.reduceBEq, Nat.reduceLeDiff, Int.reduceLT, Int.reduceLE, Int.reduceNeg, Int.reduceBEq, Int.reduceBNe, Int.reduceToNat] <;> rfl) ?_ (by first | (simp; done) | exact leftT_tup _) (by simp only [go_sem, Nat.reduceSub, reduceIte, Nat.reduceEqDiff, Nat.reduceLT, Nat.reduceMul, Nat.reduceAdd, Nat.reduceBEq, Nat.reduceLeDiff, Int.reduceLT, Int.reduceLE, Int.reduceNeg, Int.reduceBEq, Int.reduceBNe, Int.reduceToNat] <;> rfl) ?_ (by simp) | refine atEnd_o (by simp only [go_sem, Nat.reduceSub, reduceIte, Nat.reduceEqDiff, Nat.reduceLT, Nat.reduceMul, Nat.reduceAdd, Nat.reduceBEq, Nat.reduceLeDiff, Int.reduceLT, Int.reduceLE, Int.reduceNeg, Int.reduceBEq, Int.reduceBNe, Int.reduceToNat] <;> rfl) ?_)
      | (refine And.intro ?_ ?_)
      | (with_reducible intro _)
    all_goals try first | exact True.intro | omega | exact ⟨_, _, rfl⟩ | exact allSolid_pcs _ | exact allSolid_one _ | exact allSolid_bool _ | rfl
  | star a iha =>
    obtain ⟨p, hpd⟩ : ∃ p : Pc, p = ⟨4, z4⟩ := ⟨_, rfl⟩
    obtain ⟨u, hud⟩ : ∃ u : List Pc, u = a.enc := ⟨_, rfl⟩
    have hq : (Rx.star a).enc = u ++ [p] := by rw [hpd, hud]; rfl
    have hle : (Rx.star a).enc.length = u.length + 1 := by rw [hq]; simp
    have hul : u.length = a.enc.length := by subst hud; simp
    have hla : a.enc.length ≤ 10000 := by omega
    have ka := iha hla
    have da := der_small c a hla
    have hst : (Rx.star a).enc.length = a.enc.length + 1 := by simp [Rx.enc]
    have kj := join_star a (by omega)
    obtain ⟨l1, l2, l3⟩ := last_at u p 4 z4 hpd (by omega)
    have hp := parts74_spec (.star a) (by omega)
    rw [hq] at hp ⊢
    have he : leftT (der c (.star a)) = leftT (lcat (der c a) (.some (.star a))) := rfl
    rw [he]
    refine ACalls.of n39 rfl (m39 _ rfl) q39 (by simp only [List.length_cons, List.length_nil]; decide) (fun C hC => ?_)
    have hN : C.N = 87 := hC
    repeat' first
      | refine AV.seq ?_
      | refine AV.block ?_
      | ((first | refine AV.reg ?_ | refine AV.regD mixed ?_); simp only [hN, c39R0, c39R1, c39R2, c39R3, c39R4, c39R5, c39R6, c39R7, c39R8, c39R9, c39R10, c39R11, c39R12, c39R13, c39R14, c39R15, c39R16, c39R17, c39R18, c39R19, rxT, List.length_map, l1, l2, l3, partsT, leftT, go_sem, Nat.reduceSub, reduceIte, Nat.reduceEqDiff, Nat.reduceLT, Nat.reduceMul, Nat.reduceAdd, Nat.reduceBEq, Nat.reduceLeDiff, Int.reduceLT, Int.reduceLE, Int.reduceNeg, Int.reduceBEq, Int.reduceBNe, Int.reduceToNat]; repeat (simp (disch := omega) only [wrap_small, getD_map_lt]; try simp only [go_sem, Nat.reduceSub, reduceIte, Nat.reduceEqDiff, Nat.reduceLT, Nat.reduceMul, Nat.reduceAdd, Nat.reduceBEq, Nat.reduceLeDiff, Int.reduceLT, Int.reduceLE, Int.reduceNeg, Int.reduceBEq, Int.reduceBNe, Int.reduceToNat, rxT, List.length_map, l1, l2, l3, partsT, leftT]))
      | (refine AV.cond ?_ ?_ (fun hc => ?_) (fun hc => ?_) <;> (try simp only [go_sem, Nat.reduceSub, reduceIte, Nat.reduceEqDiff, Nat.reduceLT, Nat.reduceMul, Nat.reduceAdd, Nat.reduceBEq, Nat.reduceLeDiff, Int.reduceLT, Int.reduceLE, Int.reduceNeg, Int.reduceBEq, Int.reduceBNe, Int.reduceToNat, beq_iff_eq, beq_eq_false_iff_ne] at hc) <;> (try simp only [go_sem, Nat.reduceSub, reduceIte, Nat.reduceEqDiff, Nat.reduceLT, Nat.reduceMul, Nat.reduceAdd, Nat.reduceBEq, Nat.reduceLeDiff, Int.reduceLT, Int.reduceLE, Int.reduceNeg, Int.reduceBEq, Int.reduceBNe, Int.reduceToNat]))
      | ((first | refine AV.skip ?_ | refine AV.exit ?_); simp only [go_sem, Nat.reduceSub, reduceIte, Nat.reduceEqDiff, Nat.reduceLT, Nat.reduceMul, Nat.reduceAdd, Nat.reduceBEq, Nat.reduceLeDiff, Int.reduceLT, Int.reduceLE, Int.reduceNeg, Int.reduceBEq, Int.reduceBNe, Int.reduceToNat])
      | ((first | refine ⟨_, _, hp, rfl, ?_⟩ | refine ⟨_, _, hp, ?_⟩ | refine ⟨_, _, fun _ => hp, rfl, fun _ => trivial, ?_⟩ | refine ⟨_, _, ka, rfl, ?_⟩ | refine ⟨_, _, ka, ?_⟩ | refine ⟨_, _, fun _ => ka, rfl, fun _ => trivial, ?_⟩ | refine ⟨_, _, kj, rfl, ?_⟩ | refine ⟨_, _, kj, ?_⟩ | refine ⟨_, _, fun _ => kj, rfl, fun _ => trivial, ?_⟩ | refine ⟨_, _, cat76_spec (der c a) (.star a) (by omega), rfl, ?_⟩ | refine ⟨_, _, cat76_spec (der c a) (.star a) (by omega), ?_⟩ | refine ⟨_, _, fun _ => cat76_spec (der c a) (.star a) (by omega), rfl, fun _ => trivial, ?_⟩); (try simp only [go_sem, Nat.reduceSub, reduceIte, Nat.reduceEqDiff, Nat.reduceLT, Nat.reduceMul, Nat.reduceAdd, Nat.reduceBEq, Nat.reduceLeDiff, Int.reduceLT, Int.reduceLE, Int.reduceNeg, Int.reduceBEq, Int.reduceBNe, Int.reduceToNat, rxT, List.length_map, l1, l2, l3, partsT, leftT]); repeat (simp (disch := omega) only [wrap_small, getD_map_lt]; try simp only [go_sem, Nat.reduceSub, reduceIte, Nat.reduceEqDiff, Nat.reduceLT, Nat.reduceMul, Nat.reduceAdd, Nat.reduceBEq, Nat.reduceLeDiff, Int.reduceLT, Int.reduceLE, Int.reduceNeg, Int.reduceBEq, Int.reduceBNe, Int.reduceToNat, rxT, List.length_map, l1, l2, l3, partsT, leftT]))
      | ((first | refine ⟨.sh, .bool false, rfl, trivial, ?_⟩ | refine ⟨.sh, .bool false, rfl, ?_⟩); try simp only [go_sem, Nat.reduceSub, reduceIte, Nat.reduceEqDiff, Nat.reduceLT, Nat.reduceMul, Nat.reduceAdd, Nat.reduceBEq, Nat.reduceLeDiff, Int.reduceLT, Int.reduceLE, Int.reduceNeg, Int.reduceBEq, Int.reduceBNe, Int.reduceToNat])
      | (refine AV.ret ?_; (try simp only [go_sem, Nat.reduceSub, reduceIte, Nat.reduceEqDiff, Nat.reduceLT, Nat.reduceMul, Nat.reduceAdd, Nat.reduceBEq, Nat.reduceLeDiff, Int.reduceLT, Int.reduceLE, Int.reduceNeg, Int.reduceBEq, Int.reduceBNe, Int.reduceToNat]); first | refine atEnd_t (by simp only [go_sem, Nat.reduceSub, reduceIte, Nat.reduceEqDiff, Nat.reduceLT, Nat.reduceMul, Nat.reduceAdd, Nat.reduceBEq, Nat.reduceLeDiff, Int.reduceLT, Int.reduceLE, Int.reduceNeg, Int.reduceBEq, Int.reduceBNe, Int.reduceToNat] <;> rfl) ?_ (by first | (simp [rxT]; done) | exact leftT_tup _) | refine atEnd_c (by simp only [go_sem, Nat.reduceSub, reduceIte, Nat.reduceEqDiff, Nat.reduceLT, Nat.reduceMul, Nat.reduceAdd, Nat.reduceBEq, Nat.reduceLeDiff, Int.reduceLT, Int.reduceLE, Int.reduceNeg, Int.reduceBEq, Int.reduceBNe, Int.reduceToNat] <;> rfl) ?_ (by first | (simp [rxT]; done) | exact leftT_tup _) | refine atEnd_ct (by simp only [go_sem, Nat.reduceSub, reduceIte, Nat.reduceEqDiff, Nat.reduceLT, Nat.reduceMul, Nat.reduceAdd, Nat.reduceBEq, Nat.reduceLeDiff, Int.reduceLT, Int.reduceLE, Int.reduceNeg, Int.reduceBEq, Int.reduceBNe, Int.reduceToNat] <;> rfl) ?_ (by first | (simp; done) | exact leftT_tup _) (by simp only [go_sem, Nat.reduceSub, reduceIte, Nat.reduceEqDiff, Nat.reduceLT, Nat.reduceMul, Nat.reduceAdd, Nat.reduceBEq, Nat.reduceLeDiff, Int.reduceLT, Int.reduceLE, Int.reduceNeg, Int.reduceBEq, Int.reduceBNe, Int.reduceToNat] <;> rfl) ?_ (by simp) | refine atEnd_o (by simp only [go_sem, Nat.reduceSub, reduceIte, Nat.reduceEqDiff, Nat.reduceLT, Nat.reduceMul, Nat.reduceAdd, Nat.reduceBEq, Nat.reduceLeDiff, Int.reduceLT, Int.reduceLE, Int.reduceNeg, Int.reduceBEq, Int.reduceBNe, Int.reduceToNat] <;> rfl) ?_)
      | (refine And.intro ?_ ?_)
      | (with_reducible intro _)
    all_goals try first | exact True.intro | omega | exact ⟨_, _, rfl⟩ | exact allSolid_pcs _ | exact allSolid_one _ | exact allSolid_bool _ | rfl
  | plus a iha =>
    obtain ⟨p, hpd⟩ : ∃ p : Pc, p = ⟨5, z4⟩ := ⟨_, rfl⟩
    obtain ⟨u, hud⟩ : ∃ u : List Pc, u = a.enc := ⟨_, rfl⟩
    have hq : (Rx.plus a).enc = u ++ [p] := by rw [hpd, hud]; rfl
    have hle : (Rx.plus a).enc.length = u.length + 1 := by rw [hq]; simp
    have hul : u.length = a.enc.length := by subst hud; simp
    have hla : a.enc.length ≤ 10000 := by omega
    have ka := iha hla
    have da := der_small c a hla
    have hst : (Rx.star a).enc.length = a.enc.length + 1 := by simp [Rx.enc]
    have kj := join_star a (by omega)
    obtain ⟨l1, l2, l3⟩ := last_at u p 5 z4 hpd (by omega)
    have hp := parts74_spec (.plus a) (by omega)
    rw [hq] at hp ⊢
    have he : leftT (der c (.plus a)) = leftT (lcat (der c a) (.some (.star a))) := rfl
    rw [he]
    refine ACalls.of n39 rfl (m39 _ rfl) q39 (by simp only [List.length_cons, List.length_nil]; decide) (fun C hC => ?_)
    have hN : C.N = 87 := hC
    repeat' first
      | refine AV.seq ?_
      | refine AV.block ?_
      | ((first | refine AV.reg ?_ | refine AV.regD mixed ?_); simp only [hN, c39R0, c39R1, c39R2, c39R3, c39R4, c39R5, c39R6, c39R7, c39R8, c39R9, c39R10, c39R11, c39R12, c39R13, c39R14, c39R15, c39R16, c39R17, c39R18, c39R19, rxT, List.length_map, l1, l2, l3, partsT, leftT, go_sem, Nat.reduceSub, reduceIte, Nat.reduceEqDiff, Nat.reduceLT, Nat.reduceMul, Nat.reduceAdd, Nat.reduceBEq, Nat.reduceLeDiff, Int.reduceLT, Int.reduceLE, Int.reduceNeg, Int.reduceBEq, Int.reduceBNe, Int.reduceToNat]; repeat (simp (disch := omega) only [wrap_small, getD_map_lt]; try simp only [go_sem, Nat.reduceSub, reduceIte, Nat.reduceEqDiff, Nat.reduceLT, Nat.reduceMul, Nat.reduceAdd, Nat.reduceBEq, Nat.reduceLeDiff, Int.reduceLT, Int.reduceLE, Int.reduceNeg, Int.reduceBEq, Int.reduceBNe, Int.reduceToNat, rxT, List.length_map, l1, l2, l3, partsT, leftT]))
      | (refine AV.cond ?_ ?_ (fun hc => ?_) (fun hc => ?_) <;> (try simp only [go_sem, Nat.reduceSub, reduceIte, Nat.reduceEqDiff, Nat.reduceLT, Nat.reduceMul, Nat.reduceAdd, Nat.reduceBEq, Nat.reduceLeDiff, Int.reduceLT, Int.reduceLE, Int.reduceNeg, Int.reduceBEq, Int.reduceBNe, Int.reduceToNat, beq_iff_eq, beq_eq_false_iff_ne] at hc) <;> (try simp only [go_sem, Nat.reduceSub, reduceIte, Nat.reduceEqDiff, Nat.reduceLT, Nat.reduceMul, Nat.reduceAdd, Nat.reduceBEq, Nat.reduceLeDiff, Int.reduceLT, Int.reduceLE, Int.reduceNeg, Int.reduceBEq, Int.reduceBNe, Int.reduceToNat]))
      | ((first | refine AV.skip ?_ | refine AV.exit ?_); simp only [go_sem, Nat.reduceSub, reduceIte, Nat.reduceEqDiff, Nat.reduceLT, Nat.reduceMul, Nat.reduceAdd, Nat.reduceBEq, Nat.reduceLeDiff, Int.reduceLT, Int.reduceLE, Int.reduceNeg, Int.reduceBEq, Int.reduceBNe, Int.reduceToNat])
      | ((first | refine ⟨_, _, hp, rfl, ?_⟩ | refine ⟨_, _, hp, ?_⟩ | refine ⟨_, _, fun _ => hp, rfl, fun _ => trivial, ?_⟩ | refine ⟨_, _, ka, rfl, ?_⟩ | refine ⟨_, _, ka, ?_⟩ | refine ⟨_, _, fun _ => ka, rfl, fun _ => trivial, ?_⟩ | refine ⟨_, _, kj, rfl, ?_⟩ | refine ⟨_, _, kj, ?_⟩ | refine ⟨_, _, fun _ => kj, rfl, fun _ => trivial, ?_⟩ | refine ⟨_, _, cat76_spec (der c a) (.star a) (by omega), rfl, ?_⟩ | refine ⟨_, _, cat76_spec (der c a) (.star a) (by omega), ?_⟩ | refine ⟨_, _, fun _ => cat76_spec (der c a) (.star a) (by omega), rfl, fun _ => trivial, ?_⟩); (try simp only [go_sem, Nat.reduceSub, reduceIte, Nat.reduceEqDiff, Nat.reduceLT, Nat.reduceMul, Nat.reduceAdd, Nat.reduceBEq, Nat.reduceLeDiff, Int.reduceLT, Int.reduceLE, Int.reduceNeg, Int.reduceBEq, Int.reduceBNe, Int.reduceToNat, rxT, List.length_map, l1, l2, l3, partsT, leftT]); repeat (simp (disch := omega) only [wrap_small, getD_map_lt]; try simp only [go_sem, Nat.reduceSub, reduceIte, Nat.reduceEqDiff, Nat.reduceLT, Nat.reduceMul, Nat.reduceAdd, Nat.reduceBEq, Nat.reduceLeDiff, Int.reduceLT, Int.reduceLE, Int.reduceNeg, Int.reduceBEq, Int.reduceBNe, Int.reduceToNat, rxT, List.length_map, l1, l2, l3, partsT, leftT]))
      | ((first | refine ⟨.sh, .bool false, rfl, trivial, ?_⟩ | refine ⟨.sh, .bool false, rfl, ?_⟩); try simp only [go_sem, Nat.reduceSub, reduceIte, Nat.reduceEqDiff, Nat.reduceLT, Nat.reduceMul, Nat.reduceAdd, Nat.reduceBEq, Nat.reduceLeDiff, Int.reduceLT, Int.reduceLE, Int.reduceNeg, Int.reduceBEq, Int.reduceBNe, Int.reduceToNat])
      | (refine AV.ret ?_; (try simp only [go_sem, Nat.reduceSub, reduceIte, Nat.reduceEqDiff, Nat.reduceLT, Nat.reduceMul, Nat.reduceAdd, Nat.reduceBEq, Nat.reduceLeDiff, Int.reduceLT, Int.reduceLE, Int.reduceNeg, Int.reduceBEq, Int.reduceBNe, Int.reduceToNat]); first | refine atEnd_t (by simp only [go_sem, Nat.reduceSub, reduceIte, Nat.reduceEqDiff, Nat.reduceLT, Nat.reduceMul, Nat.reduceAdd, Nat.reduceBEq, Nat.reduceLeDiff, Int.reduceLT, Int.reduceLE, Int.reduceNeg, Int.reduceBEq, Int.reduceBNe, Int.reduceToNat] <;> rfl) ?_ (by first | (simp [rxT]; done) | exact leftT_tup _) | refine atEnd_c (by simp only [go_sem, Nat.reduceSub, reduceIte, Nat.reduceEqDiff, Nat.reduceLT, Nat.reduceMul, Nat.reduceAdd, Nat.reduceBEq, Nat.reduceLeDiff, Int.reduceLT, Int.reduceLE, Int.reduceNeg, Int.reduceBEq, Int.reduceBNe, Int.reduceToNat] <;> rfl) ?_ (by first | (simp [rxT]; done) | exact leftT_tup _) | refine atEnd_ct (by simp only [go_sem, Nat.reduceSub, reduceIte, Nat.reduceEqDiff, Nat.reduceLT, Nat.reduceMul, Nat.reduceAdd, Nat.reduceBEq, Nat.reduceLeDiff, Int.reduceLT, Int.reduceLE, Int.reduceNeg, Int.reduceBEq, Int.reduceBNe, Int.reduceToNat] <;> rfl) ?_ (by first | (simp; done) | exact leftT_tup _) (by simp only [go_sem, Nat.reduceSub, reduceIte, Nat.reduceEqDiff, Nat.reduceLT, Nat.reduceMul, Nat.reduceAdd, Nat.reduceBEq, Nat.reduceLeDiff, Int.reduceLT, Int.reduceLE, Int.reduceNeg, Int.reduceBEq, Int.reduceBNe, Int.reduceToNat] <;> rfl) ?_ (by simp) | refine atEnd_o (by simp only [go_sem, Nat.reduceSub, reduceIte, Nat.reduceEqDiff, Nat.reduceLT, Nat.reduceMul, Nat.reduceAdd, Nat.reduceBEq, Nat.reduceLeDiff, Int.reduceLT, Int.reduceLE, Int.reduceNeg, Int.reduceBEq, Int.reduceBNe, Int.reduceToNat] <;> rfl) ?_)
      | (refine And.intro ?_ ?_)
      | (with_reducible intro _)
    all_goals try first | exact True.intro | omega | exact ⟨_, _, rfl⟩ | exact allSolid_pcs _ | exact allSolid_one _ | exact allSolid_bool _ | rfl
  | opt a iha =>
    obtain ⟨p, hpd⟩ : ∃ p : Pc, p = ⟨6, z4⟩ := ⟨_, rfl⟩
    obtain ⟨u, hud⟩ : ∃ u : List Pc, u = a.enc := ⟨_, rfl⟩
    have hq : (Rx.opt a).enc = u ++ [p] := by rw [hpd, hud]; rfl
    have hle : (Rx.opt a).enc.length = u.length + 1 := by rw [hq]; simp
    have hul : u.length = a.enc.length := by subst hud; simp
    have hla : a.enc.length ≤ 10000 := by omega
    have ka := iha hla
    have da := der_small c a hla
    have hst : (Rx.star a).enc.length = a.enc.length + 1 := by simp [Rx.enc]
    have kj := join_star a (by omega)
    obtain ⟨l1, l2, l3⟩ := last_at u p 6 z4 hpd (by omega)
    have hp := parts74_spec (.opt a) (by omega)
    rw [hq] at hp ⊢
    have he : leftT (der c (.opt a)) = leftT (der c a) := rfl
    rw [he]
    refine ACalls.of n39 rfl (m39 _ rfl) q39 (by simp only [List.length_cons, List.length_nil]; decide) (fun C hC => ?_)
    have hN : C.N = 87 := hC
    repeat' first
      | refine AV.seq ?_
      | refine AV.block ?_
      | ((first | refine AV.reg ?_ | refine AV.regD mixed ?_); simp only [hN, c39R0, c39R1, c39R2, c39R3, c39R4, c39R5, c39R6, c39R7, c39R8, c39R9, c39R10, c39R11, c39R12, c39R13, c39R14, c39R15, c39R16, c39R17, c39R18, c39R19, rxT, List.length_map, l1, l2, l3, partsT, leftT, go_sem, Nat.reduceSub, reduceIte, Nat.reduceEqDiff, Nat.reduceLT, Nat.reduceMul, Nat.reduceAdd, Nat.reduceBEq, Nat.reduceLeDiff, Int.reduceLT, Int.reduceLE, Int.reduceNeg, Int.reduceBEq, Int.reduceBNe, Int.reduceToNat]; repeat (simp (disch := omega) only [wrap_small, getD_map_lt]; try simp only [go_sem, Nat.reduceSub, reduceIte, Nat.reduceEqDiff, Nat.reduceLT, Nat.reduceMul, Nat.reduceAdd, Nat.reduceBEq, Nat.reduceLeDiff, Int.reduceLT, Int.reduceLE, Int.reduceNeg, Int.reduceBEq, Int.reduceBNe, Int.reduceToNat, rxT, List.length_map, l1, l2, l3, partsT, leftT]))
      | (refine AV.cond ?_ ?_ (fun hc => ?_) (fun hc => ?_) <;> (try simp only [go_sem, Nat.reduceSub, reduceIte, Nat.reduceEqDiff, Nat.reduceLT, Nat.reduceMul, Nat.reduceAdd, Nat.reduceBEq, Nat.reduceLeDiff, Int.reduceLT, Int.reduceLE, Int.reduceNeg, Int.reduceBEq, Int.reduceBNe, Int.reduceToNat, beq_iff_eq, beq_eq_false_iff_ne] at hc) <;> (try simp only [go_sem, Nat.reduceSub, reduceIte, Nat.reduceEqDiff, Nat.reduceLT, Nat.reduceMul, Nat.reduceAdd, Nat.reduceBEq, Nat.reduceLeDiff, Int.reduceLT, Int.reduceLE, Int.reduceNeg, Int.reduceBEq, Int.reduceBNe, Int.reduceToNat]))
      | ((first | refine AV.skip ?_ | refine AV.exit ?_); simp only [go_sem, Nat.reduceSub, reduceIte, Nat.reduceEqDiff, Nat.reduceLT, Nat.reduceMul, Nat.reduceAdd, Nat.reduceBEq, Nat.reduceLeDiff, Int.reduceLT, Int.reduceLE, Int.reduceNeg, Int.reduceBEq, Int.reduceBNe, Int.reduceToNat])
      | ((first | refine ⟨_, _, hp, rfl, ?_⟩ | refine ⟨_, _, hp, ?_⟩ | refine ⟨_, _, fun _ => hp, rfl, fun _ => trivial, ?_⟩ | refine ⟨_, _, ka, rfl, ?_⟩ | refine ⟨_, _, ka, ?_⟩ | refine ⟨_, _, fun _ => ka, rfl, fun _ => trivial, ?_⟩); (try simp only [go_sem, Nat.reduceSub, reduceIte, Nat.reduceEqDiff, Nat.reduceLT, Nat.reduceMul, Nat.reduceAdd, Nat.reduceBEq, Nat.reduceLeDiff, Int.reduceLT, Int.reduceLE, Int.reduceNeg, Int.reduceBEq, Int.reduceBNe, Int.reduceToNat, rxT, List.length_map, l1, l2, l3, partsT, leftT]); repeat (simp (disch := omega) only [wrap_small, getD_map_lt]; try simp only [go_sem, Nat.reduceSub, reduceIte, Nat.reduceEqDiff, Nat.reduceLT, Nat.reduceMul, Nat.reduceAdd, Nat.reduceBEq, Nat.reduceLeDiff, Int.reduceLT, Int.reduceLE, Int.reduceNeg, Int.reduceBEq, Int.reduceBNe, Int.reduceToNat, rxT, List.length_map, l1, l2, l3, partsT, leftT]))
      | ((first | refine ⟨.sh, .bool false, rfl, trivial, ?_⟩ | refine ⟨.sh, .bool false, rfl, ?_⟩); try simp only [go_sem, Nat.reduceSub, reduceIte, Nat.reduceEqDiff, Nat.reduceLT, Nat.reduceMul, Nat.reduceAdd, Nat.reduceBEq, Nat.reduceLeDiff, Int.reduceLT, Int.reduceLE, Int.reduceNeg, Int.reduceBEq, Int.reduceBNe, Int.reduceToNat])
      | (refine AV.ret ?_; (try simp only [go_sem, Nat.reduceSub, reduceIte, Nat.reduceEqDiff, Nat.reduceLT, Nat.reduceMul, Nat.reduceAdd, Nat.reduceBEq, Nat.reduceLeDiff, Int.reduceLT, Int.reduceLE, Int.reduceNeg, Int.reduceBEq, Int.reduceBNe, Int.reduceToNat]); first | refine atEnd_t (by simp only [go_sem, Nat.reduceSub, reduceIte, Nat.reduceEqDiff, Nat.reduceLT, Nat.reduceMul, Nat.reduceAdd, Nat.reduceBEq, Nat.reduceLeDiff, Int.reduceLT, Int.reduceLE, Int.reduceNeg, Int.reduceBEq, Int.reduceBNe, Int.reduceToNat] <;> rfl) ?_ (by first | (simp [rxT]; done) | exact leftT_tup _) | refine atEnd_c (by simp only [go_sem, Nat.reduceSub, reduceIte, Nat.reduceEqDiff, Nat.reduceLT, Nat.reduceMul, Nat.reduceAdd, Nat.reduceBEq, Nat.reduceLeDiff, Int.reduceLT, Int.reduceLE, Int.reduceNeg, Int.reduceBEq, Int.reduceBNe, Int.reduceToNat] <;> rfl) ?_ (by first | (simp [rxT]; done) | exact leftT_tup _) | refine atEnd_ct (by simp only [go_sem, Nat.reduceSub, reduceIte, Nat.reduceEqDiff, Nat.reduceLT, Nat.reduceMul, Nat.reduceAdd, Nat.reduceBEq, Nat.reduceLeDiff, Int.reduceLT, Int.reduceLE, Int.reduceNeg, Int.reduceBEq, Int.reduceBNe, Int.reduceToNat] <;> rfl) ?_ (by first | (simp; done) | exact leftT_tup _) (by simp only [go_sem, Nat.reduceSub, reduceIte, Nat.reduceEqDiff, Nat.reduceLT, Nat.reduceMul, Nat.reduceAdd, Nat.reduceBEq, Nat.reduceLeDiff, Int.reduceLT, Int.reduceLE, Int.reduceNeg, Int.reduceBEq, Int.reduceBNe, Int.reduceToNat] <;> rfl) ?_ (by simp) | refine atEnd_o (by simp only [go_sem, Nat.reduceSub, reduceIte, Nat.reduceEqDiff, Nat.reduceLT, Nat.reduceMul, Nat.reduceAdd, Nat.reduceBEq, Nat.reduceLeDiff, Int.reduceLT, Int.reduceLE, Int.reduceNeg, Int.reduceBEq, Int.reduceBNe, Int.reduceToNat] <;> rfl) ?_)
      | (refine And.intro ?_ ?_)
      | (with_reducible intro _)
    all_goals try first | exact True.intro | omega | exact ⟨_, _, rfl⟩ | exact allSolid_pcs _ | exact allSolid_one _ | exact allSolid_bool _ | rfl
theorem by16_spec (c : Nat) (hcc : c < 256) (t : Rx) (hl : t.enc.length ≤ 400) (hk : checkS t.enc = 0) : ACalls Try.prog 16 [rxT t.enc, .int .u8 (c : Int)] .sh (leftT (der c t)) := by
  have hd := derive39_spec c hcc t (by omega)
  refine ACalls.of n16 rfl (m16 _ rfl) q16 (by simp only [List.length_cons, List.length_nil]; decide) (fun C hC => ?_)
  have hN : C.N = 12 := hC
  repeat' first
    | refine AV.seq ?_
    | refine AV.block ?_
    | ((first | refine AV.reg ?_ | refine AV.regD mixed ?_); simp only [hN, c16R0, c16R1, c16R2, c16R3, rxT, List.length_map, leftT, hk, go_sem, Nat.reduceSub, reduceIte, Nat.reduceEqDiff, Nat.reduceLT, Nat.reduceMul, Nat.reduceAdd, Nat.reduceBEq, Nat.reduceLeDiff, Int.reduceLT, Int.reduceLE, Int.reduceNeg, Int.reduceBEq, Int.reduceBNe, Int.reduceToNat]; repeat (simp (disch := omega) only [wrap_small, getD_map_lt]; try simp only [go_sem, Nat.reduceSub, reduceIte, Nat.reduceEqDiff, Nat.reduceLT, Nat.reduceMul, Nat.reduceAdd, Nat.reduceBEq, Nat.reduceLeDiff, Int.reduceLT, Int.reduceLE, Int.reduceNeg, Int.reduceBEq, Int.reduceBNe, Int.reduceToNat, rxT, List.length_map, leftT, hk]))
    | (refine AV.cond ?_ ?_ (fun hc => ?_) (fun hc => ?_) <;> (try simp only [go_sem, Nat.reduceSub, reduceIte, Nat.reduceEqDiff, Nat.reduceLT, Nat.reduceMul, Nat.reduceAdd, Nat.reduceBEq, Nat.reduceLeDiff, Int.reduceLT, Int.reduceLE, Int.reduceNeg, Int.reduceBEq, Int.reduceBNe, Int.reduceToNat, beq_iff_eq, beq_eq_false_iff_ne] at hc) <;> (try simp only [go_sem, Nat.reduceSub, reduceIte, Nat.reduceEqDiff, Nat.reduceLT, Nat.reduceMul, Nat.reduceAdd, Nat.reduceBEq, Nat.reduceLeDiff, Int.reduceLT, Int.reduceLE, Int.reduceNeg, Int.reduceBEq, Int.reduceBNe, Int.reduceToNat]))
    | ((first | refine AV.skip ?_ | refine AV.exit ?_); simp only [go_sem, Nat.reduceSub, reduceIte, Nat.reduceEqDiff, Nat.reduceLT, Nat.reduceMul, Nat.reduceAdd, Nat.reduceBEq, Nat.reduceLeDiff, Int.reduceLT, Int.reduceLE, Int.reduceNeg, Int.reduceBEq, Int.reduceBNe, Int.reduceToNat])
    | ((first | refine ⟨_, _, check38_spec t.enc (by omega), rfl, ?_⟩ | refine ⟨_, _, check38_spec t.enc (by omega), ?_⟩ | refine ⟨_, _, fun _ => check38_spec t.enc (by omega), rfl, fun _ => trivial, ?_⟩ | refine ⟨_, _, hd, rfl, ?_⟩ | refine ⟨_, _, hd, ?_⟩ | refine ⟨_, _, fun _ => hd, rfl, fun _ => trivial, ?_⟩); (try simp only [go_sem, Nat.reduceSub, reduceIte, Nat.reduceEqDiff, Nat.reduceLT, Nat.reduceMul, Nat.reduceAdd, Nat.reduceBEq, Nat.reduceLeDiff, Int.reduceLT, Int.reduceLE, Int.reduceNeg, Int.reduceBEq, Int.reduceBNe, Int.reduceToNat, rxT, List.length_map, leftT, hk]); repeat (simp (disch := omega) only [wrap_small, getD_map_lt]; try simp only [go_sem, Nat.reduceSub, reduceIte, Nat.reduceEqDiff, Nat.reduceLT, Nat.reduceMul, Nat.reduceAdd, Nat.reduceBEq, Nat.reduceLeDiff, Int.reduceLT, Int.reduceLE, Int.reduceNeg, Int.reduceBEq, Int.reduceBNe, Int.reduceToNat, rxT, List.length_map, leftT, hk]))
    | ((first | refine ⟨.sh, .bool false, rfl, trivial, ?_⟩ | refine ⟨.sh, .bool false, rfl, ?_⟩); try simp only [go_sem, Nat.reduceSub, reduceIte, Nat.reduceEqDiff, Nat.reduceLT, Nat.reduceMul, Nat.reduceAdd, Nat.reduceBEq, Nat.reduceLeDiff, Int.reduceLT, Int.reduceLE, Int.reduceNeg, Int.reduceBEq, Int.reduceBNe, Int.reduceToNat])
    | (refine AV.ret ?_; (try simp only [go_sem, Nat.reduceSub, reduceIte, Nat.reduceEqDiff, Nat.reduceLT, Nat.reduceMul, Nat.reduceAdd, Nat.reduceBEq, Nat.reduceLeDiff, Int.reduceLT, Int.reduceLE, Int.reduceNeg, Int.reduceBEq, Int.reduceBNe, Int.reduceToNat]); first | refine atEnd_t (by simp only [go_sem, Nat.reduceSub, reduceIte, Nat.reduceEqDiff, Nat.reduceLT, Nat.reduceMul, Nat.reduceAdd, Nat.reduceBEq, Nat.reduceLeDiff, Int.reduceLT, Int.reduceLE, Int.reduceNeg, Int.reduceBEq, Int.reduceBNe, Int.reduceToNat] <;> rfl) ?_ (by first | (simp [rxT]; done) | exact leftT_tup _) | refine atEnd_c (by simp only [go_sem, Nat.reduceSub, reduceIte, Nat.reduceEqDiff, Nat.reduceLT, Nat.reduceMul, Nat.reduceAdd, Nat.reduceBEq, Nat.reduceLeDiff, Int.reduceLT, Int.reduceLE, Int.reduceNeg, Int.reduceBEq, Int.reduceBNe, Int.reduceToNat] <;> rfl) ?_ (by first | (simp [rxT]; done) | exact leftT_tup _) | refine atEnd_ct (by simp only [go_sem, Nat.reduceSub, reduceIte, Nat.reduceEqDiff, Nat.reduceLT, Nat.reduceMul, Nat.reduceAdd, Nat.reduceBEq, Nat.reduceLeDiff, Int.reduceLT, Int.reduceLE, Int.reduceNeg, Int.reduceBEq, Int.reduceBNe, Int.reduceToNat] <;> rfl) ?_ (by first | (simp; done) | exact leftT_tup _) (by simp only [go_sem, Nat.reduceSub, reduceIte, Nat.reduceEqDiff, Nat.reduceLT, Nat.reduceMul, Nat.reduceAdd, Nat.reduceBEq, Nat.reduceLeDiff, Int.reduceLT, Int.reduceLE, Int.reduceNeg, Int.reduceBEq, Int.reduceBNe, Int.reduceToNat] <;> rfl) ?_ (by simp) | refine atEnd_o (by simp only [go_sem, Nat.reduceSub, reduceIte, Nat.reduceEqDiff, Nat.reduceLT, Nat.reduceMul, Nat.reduceAdd, Nat.reduceBEq, Nat.reduceLeDiff, Int.reduceLT, Int.reduceLE, Int.reduceNeg, Int.reduceBEq, Int.reduceBNe, Int.reduceToNat] <;> rfl) ?_)
    | (refine And.intro ?_ ?_)
    | (with_reducible intro _)
  all_goals try first | exact True.intro | omega | exact ⟨_, _, rfl⟩ | exact allSolid_pcs _ | exact allSolid_one _ | exact allSolid_bool _ | rfl
theorem by16_bad (c : Nat) (r : List Pc) (hl : r.length ≤ 1073741824) (hk : checkS r ≠ 0) : ACalls Try.prog 16 [rxT r, .int .u8 (c : Int)] .sh (leftT .none) := by
  refine ACalls.of n16 rfl (m16 _ rfl) q16 (by simp only [List.length_cons, List.length_nil]; decide) (fun C hC => ?_)
  have hN : C.N = 12 := hC
  repeat' first
    | refine AV.seq ?_
    | refine AV.block ?_
    | ((first | refine AV.reg ?_ | refine AV.regD mixed ?_); simp only [hN, c16R0, c16R1, c16R2, c16R3, rxT, List.length_map, leftT, go_sem, Nat.reduceSub, reduceIte, Nat.reduceEqDiff, Nat.reduceLT, Nat.reduceMul, Nat.reduceAdd, Nat.reduceBEq, Nat.reduceLeDiff, Int.reduceLT, Int.reduceLE, Int.reduceNeg, Int.reduceBEq, Int.reduceBNe, Int.reduceToNat]; repeat (simp (disch := omega) only [wrap_small, getD_map_lt]; try simp only [go_sem, Nat.reduceSub, reduceIte, Nat.reduceEqDiff, Nat.reduceLT, Nat.reduceMul, Nat.reduceAdd, Nat.reduceBEq, Nat.reduceLeDiff, Int.reduceLT, Int.reduceLE, Int.reduceNeg, Int.reduceBEq, Int.reduceBNe, Int.reduceToNat, rxT, List.length_map, leftT]))
    | (refine AV.cond ?_ ?_ (fun hc => ?_) (fun hc => ?_) <;> (try simp only [go_sem, Nat.reduceSub, reduceIte, Nat.reduceEqDiff, Nat.reduceLT, Nat.reduceMul, Nat.reduceAdd, Nat.reduceBEq, Nat.reduceLeDiff, Int.reduceLT, Int.reduceLE, Int.reduceNeg, Int.reduceBEq, Int.reduceBNe, Int.reduceToNat, beq_iff_eq, beq_eq_false_iff_ne] at hc) <;> (try simp only [go_sem, Nat.reduceSub, reduceIte, Nat.reduceEqDiff, Nat.reduceLT, Nat.reduceMul, Nat.reduceAdd, Nat.reduceBEq, Nat.reduceLeDiff, Int.reduceLT, Int.reduceLE, Int.reduceNeg, Int.reduceBEq, Int.reduceBNe, Int.reduceToNat]))
    | ((first | refine AV.skip ?_ | refine AV.exit ?_); simp only [go_sem, Nat.reduceSub, reduceIte, Nat.reduceEqDiff, Nat.reduceLT, Nat.reduceMul, Nat.reduceAdd, Nat.reduceBEq, Nat.reduceLeDiff, Int.reduceLT, Int.reduceLE, Int.reduceNeg, Int.reduceBEq, Int.reduceBNe, Int.reduceToNat])
    | ((first | refine ⟨_, _, check38_spec r hl, rfl, ?_⟩ | refine ⟨_, _, check38_spec r hl, ?_⟩ | refine ⟨_, _, fun _ => check38_spec r hl, rfl, fun _ => trivial, ?_⟩); (try simp only [go_sem, Nat.reduceSub, reduceIte, Nat.reduceEqDiff, Nat.reduceLT, Nat.reduceMul, Nat.reduceAdd, Nat.reduceBEq, Nat.reduceLeDiff, Int.reduceLT, Int.reduceLE, Int.reduceNeg, Int.reduceBEq, Int.reduceBNe, Int.reduceToNat, rxT, List.length_map, leftT]); repeat (simp (disch := omega) only [wrap_small, getD_map_lt]; try simp only [go_sem, Nat.reduceSub, reduceIte, Nat.reduceEqDiff, Nat.reduceLT, Nat.reduceMul, Nat.reduceAdd, Nat.reduceBEq, Nat.reduceLeDiff, Int.reduceLT, Int.reduceLE, Int.reduceNeg, Int.reduceBEq, Int.reduceBNe, Int.reduceToNat, rxT, List.length_map, leftT]))
    | ((first | refine ⟨.sh, .bool false, rfl, trivial, ?_⟩ | refine ⟨.sh, .bool false, rfl, ?_⟩); try simp only [go_sem, Nat.reduceSub, reduceIte, Nat.reduceEqDiff, Nat.reduceLT, Nat.reduceMul, Nat.reduceAdd, Nat.reduceBEq, Nat.reduceLeDiff, Int.reduceLT, Int.reduceLE, Int.reduceNeg, Int.reduceBEq, Int.reduceBNe, Int.reduceToNat])
    | (refine AV.ret ?_; (try simp only [go_sem, Nat.reduceSub, reduceIte, Nat.reduceEqDiff, Nat.reduceLT, Nat.reduceMul, Nat.reduceAdd, Nat.reduceBEq, Nat.reduceLeDiff, Int.reduceLT, Int.reduceLE, Int.reduceNeg, Int.reduceBEq, Int.reduceBNe, Int.reduceToNat]); first | refine atEnd_t (by simp only [go_sem, Nat.reduceSub, reduceIte, Nat.reduceEqDiff, Nat.reduceLT, Nat.reduceMul, Nat.reduceAdd, Nat.reduceBEq, Nat.reduceLeDiff, Int.reduceLT, Int.reduceLE, Int.reduceNeg, Int.reduceBEq, Int.reduceBNe, Int.reduceToNat] <;> rfl) ?_ (by first | (simp [rxT]; done) | exact leftT_tup _) | refine atEnd_c (by simp only [go_sem, Nat.reduceSub, reduceIte, Nat.reduceEqDiff, Nat.reduceLT, Nat.reduceMul, Nat.reduceAdd, Nat.reduceBEq, Nat.reduceLeDiff, Int.reduceLT, Int.reduceLE, Int.reduceNeg, Int.reduceBEq, Int.reduceBNe, Int.reduceToNat] <;> rfl) ?_ (by first | (simp [rxT]; done) | exact leftT_tup _) | refine atEnd_ct (by simp only [go_sem, Nat.reduceSub, reduceIte, Nat.reduceEqDiff, Nat.reduceLT, Nat.reduceMul, Nat.reduceAdd, Nat.reduceBEq, Nat.reduceLeDiff, Int.reduceLT, Int.reduceLE, Int.reduceNeg, Int.reduceBEq, Int.reduceBNe, Int.reduceToNat] <;> rfl) ?_ (by first | (simp; done) | exact leftT_tup _) (by simp only [go_sem, Nat.reduceSub, reduceIte, Nat.reduceEqDiff, Nat.reduceLT, Nat.reduceMul, Nat.reduceAdd, Nat.reduceBEq, Nat.reduceLeDiff, Int.reduceLT, Int.reduceLE, Int.reduceNeg, Int.reduceBEq, Int.reduceBNe, Int.reduceToNat] <;> rfl) ?_ (by simp) | refine atEnd_o (by simp only [go_sem, Nat.reduceSub, reduceIte, Nat.reduceEqDiff, Nat.reduceLT, Nat.reduceMul, Nat.reduceAdd, Nat.reduceBEq, Nat.reduceLeDiff, Int.reduceLT, Int.reduceLE, Int.reduceNeg, Int.reduceBEq, Int.reduceBNe, Int.reduceToNat] <;> rfl) ?_)
    | (refine And.intro ?_ ?_)
    | (with_reducible intro _)
  all_goals try first | exact True.intro | omega | exact ⟨_, _, rfl⟩ | exact allSolid_pcs _ | exact allSolid_one _ | exact allSolid_bool _ | rfl
  exact absurd (by simpa using hc) hk
end Go.Proofs.Ytaefhdklkbohmaa
