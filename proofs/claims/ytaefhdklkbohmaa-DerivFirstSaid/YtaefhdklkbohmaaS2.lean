/- A part of the proof: C10, C11, C12, C13, C14, C15, D1, D2, D5, D6, D7, D8, D3, D4, D9, Q1, D10. No condition. -/
import Derived.Test.YtaefhdklkbohmaaS1
import Derived.Deep.AppendSrc
import Derived.Deep.Upon
import Derived.Laws.Cover3
import Derived.Deep.Slices
import Derived.OpenShut
import Derived.ProofKit
set_option linter.unusedSimpArgs false
set_option linter.unusedVariables false
set_option linter.unusedSectionVars false
/- A slot that is made anew out of what other slots owned. Generic. -/
namespace Go.Proofs.Ytaefhdklkbohmaa
open Go Go.RowKit

section
variable {P : Program} {w0 : World} {I : Nat → Prop} {N : Nat} {σ τ : Nat → W} {fp : Nat → List Nat} {a : Act} {w : World}
theorem Rel.remake (h : Rel w0 I N σ fp a w) {d : Nat} (hd : d < N) (hn : NoName σ d) (dies : Nat → Bool) (hdd : dies d = false) {c : Value} {k : K} {t : T} {F : List Nat} {w' : World}
    (hos : w'.os = w.os) (htape : w'.tape = w.tape) (hout : w'.output = w.output) (hgrown : w.heap.size ≤ w'.heap.size)
    (hblk : ∀ b, b < w.heap.size → (∀ s, dies s = true → b ∉ fp s) → w'.heap[b]? = w.heap[b]?)
    (hnd : F.Nodup) (hF : ∀ b ∈ F, (∃ s, dies s = true ∧ b ∈ fp s) ∨ (w.heap.size ≤ b ∧ b < w'.heap.size))
    (hx : ∀ A' : Nat → Prop, (∀ b, Free w fp b → A' b) → RO w' A' k t c F) :
    Rel w0 I N (upd (fun s => if dies s then .dead else σ s) d (.own k t)) (upd (fun s => if dies s then [] else fp s) d F) (a.put (some d) c) w' := by
  have hd' : d < a.tmps.size := by rw [h.size]; exact hd
  have hfp : ∀ s b, b ∈ upd (fun s => if dies s then [] else fp s) d F s → (s = d ∧ b ∈ F) ∨ (s ≠ d ∧ dies s = false ∧ b ∈ fp s) := by
    intro s b hb
    by_cases e : s = d
    · subst e; rw [upd_same] at hb; exact .inl ⟨rfl, hb⟩
    · rw [upd_ne _ _ _ e] at hb
      cases hs : dies s with
      | true => simp [hs] at hb
      | false => exact .inr ⟨e, rfl, by simpa [hs] using hb⟩
  have hkeep : ∀ s, dies s = false → ∀ b ∈ fp s, w'.heap[b]? = w.heap[b]? := by
    intro s hs b hb
    refine hblk b (h.there s b hb).1 (fun s' hs' hb' => ?_)
    have := h.disj s s' b hb hb'
    subst this
    rw [hs] at hs'; cases hs'
  have hfree : ∀ b, Free w fp b → Free w' (upd (fun s => if dies s then [] else fp s) d F) b ∧ w'.heap[b]? = w.heap[b]? := by
    intro b hb
    refine ⟨⟨Nat.lt_of_lt_of_le hb.1 hgrown, fun s hs => ?_⟩, hblk b hb.1 (fun s _ => hb.2 s)⟩
    rcases hfp s b hs with ⟨_, h1⟩ | ⟨_, _, h1⟩
    · rcases hF b h1 with ⟨s', _, h2⟩ | ⟨h2, _⟩
      · exact hb.2 s' h2
      · have := hb.1; omega
    · exact hb.2 s h1
  refine h.next (by rw [put_size]; exact h.size) (by rw [put_defers]; exact h.defers) hos htape hout hgrown hfree ?_ ?_ ?_ ?_
  · intro s
    rw [at_put a d _ hd']
    by_cases e : s = d
    · subst e
      rw [upd_same, upd_same, upd_same]
      exact .inr (hx _ (fun b hb => (hfree b hb).1))
    · rw [upd_ne _ _ _ e, upd_ne _ _ _ e, upd_ne _ _ _ e]
      cases hs : dies s with
      | true =>
        refine .inr ?_
        simp only [if_true]
        exact ⟨rfl, trivial⟩
      | false =>
        refine .inl ⟨by simp, by simp, rfl, hkeep s hs, fun r hr => ?_⟩
        by_cases er : r = d
        · subst er; rw [hn s e] at hr; cases hr
        · intro k' t' hr'
          cases hrd : dies r with
          | true =>
            have := hr'.isRoot
            rw [upd_ne _ _ _ er] at this
            simp only [hrd, if_true, W.isRoot] at this; cases this
          | false =>
            have hr'' : Root σ r k' t' := by
              cases hr' with
              | own e => rw [upd_ne _ _ _ er] at e; simp only [hrd, Bool.false_eq_true, if_false] at e; exact .own e
              | gd e => rw [upd_ne _ _ _ er] at e; simp only [hrd, Bool.false_eq_true, if_false] at e; exact .gd e
            refine ⟨t', hr'', fun p hp _ => ⟨hp, ?_⟩⟩
            rw [upd_ne _ _ _ er]
            obtain ⟨c2, g1, g2⟩ := loc_keep (w' := w') p (h.root hr'') hp (fun b hb => (hfree b hb).2) (fun b hb => hkeep r hrd b hb)
            rw [g1, g2]
  · intro s
    by_cases e : s = d
    · subst e; rw [upd_same]; exact hnd
    · rw [upd_ne _ _ _ e]
      cases hs : dies s with
      | true => simp
      | false => simpa using h.nodup s
  · intro s s' b hs hs'
    have key : ∀ s, s ≠ d → dies s = false → b ∈ fp s → b ∈ F → False := by
      intro s _ h2 h3 h4
      rcases hF b h4 with ⟨s', g1, g2⟩ | ⟨g1, _⟩
      · have := h.disj s s' b h3 g2
        subst this
        rw [h2] at g1; cases g1
      · have := (h.there s b h3).1; omega
    rcases hfp s b hs with ⟨h1, h2⟩ | ⟨h1, h2, h3⟩ <;> rcases hfp s' b hs' with ⟨g1, g2⟩ | ⟨g1, g2, g3⟩
    · rw [h1, g1]
    · exact (key s' g1 g2 g3 h2).elim
    · exact (key s h1 h2 h3 g2).elim
    · exact h.disj s s' b h3 g3
  · intro s b hs
    rcases hfp s b hs with ⟨_, h2⟩ | ⟨_, _, h2⟩
    · rcases hF b h2 with ⟨s', _, g2⟩ | ⟨g1, g2⟩
      · exact ⟨Nat.lt_of_lt_of_le (h.there s' b g2).1 hgrown, (h.there s' b g2).2⟩
      · exact ⟨g2, .inl (by have := h.grown; omega)⟩
    · exact ⟨Nat.lt_of_lt_of_le (h.there s b h2).1 hgrown, (h.there s b h2).2⟩

theorem Each.take {R : List T → List Value → List Nat → Prop} {sz : Nat} : ∀ {xs : List T} {cs : List Value} {F : List Nat} (_ : Each R sz xs cs F) (m : Nat) (_ : m ≤ xs.length),
    ∃ F1 F2, F = F1 ++ F2 ∧ Each R sz (xs.take m) (cs.take (m * sz)) F1
  | [], cs, F, h, m, hm => by
    simp only [List.length_nil, Nat.le_zero] at hm
    subst hm
    exact ⟨[], F, by simp, by simp [Each]⟩
  | x :: xs, cs, F, h, 0, _ => ⟨[], F, by simp, by simp [Each]⟩
  | x :: xs, cs, F, h, m + 1, hm => by
    obtain ⟨c1, c2, F1, F2, rfl, hl, rfl, h1, h2⟩ := h
    obtain ⟨G1, G2, rfl, h3⟩ := Each.take h2 m (by simpa using hm)
    refine ⟨F1 ++ G1, G2, by simp, ?_⟩
    simp only [List.take_succ_cons, Each]
    refine ⟨c1, c2.take (m * sz), F1, G1, ?_, hl, rfl, h1, h3⟩
    rw [Nat.succ_mul, Nat.add_comm, List.take_append, List.take_of_length_le (by omega), hl, Nat.add_sub_cancel_left]
theorem Each.append {R : List T → List Value → List Nat → Prop} {sz : Nat} : ∀ {xs ys : List T} {cs ds : List Value} {F G : List Nat}, Each R sz xs cs F → Each R sz ys ds G → Each R sz (xs ++ ys) (cs ++ ds) (F ++ G)
  | [], ys, cs, ds, F, G, h, h' => by
    obtain ⟨rfl, rfl⟩ := h
    simpa using h'
  | x :: xs, ys, _, ds, _, G, h, h' => by
    obtain ⟨c1, c2, F1, F2, rfl, hl, rfl, h1, h2⟩ := h
    exact ⟨c1, c2 ++ ds, F1, F2 ++ G, by simp, hl, by simp, h1, Each.append h2 h'⟩
theorem each_of_RE {A : Nat → Prop} {sz : Nat} : ∀ {ys : List T} {cs : List Value}, RE w A sz ys cs → Each (fun ts cs F => ROs w A (shs sz) ts cs F) sz ys cs []
  | [], cs, h => by simp only [RE] at h; exact ⟨h, rfl⟩
  | y :: ys, cs, h => by
    obtain ⟨c1, cs', rfl, hl, h1, h2⟩ := h
    have h3 := RS_leaves h1
    refine ⟨c1, cs', [], [], rfl, hl, rfl, ?_, each_of_RE h2⟩
    have := ROs_sh h3
    rwa [h3.len, hl] at this
end
end Go.Proofs.Ytaefhdklkbohmaa
/- 'append'. Generic. -/
namespace Go.Proofs.Ytaefhdklkbohmaa
open Go Go.RowKit

section
variable {P : Program} {w0 : World} {I : Nat → Prop} {N : Nat} {σ τ : Nat → W} {fp : Nat → List Nat} {a : Act} {w : World}
/-- The row that 'append' makes longer. -/
def AppDst (w : World) (A : Nat → Prop) (ks : List K) (xs : List T) (cd : Value) (F1 : List Nat) (bs : List Nat) (pos : Prop) : Prop :=
  (∃ base, cd = .slice base 0 0 ∧ xs = [] ∧ F1 = [] ∧ bs = [] ∧ (base = none ∨ pos)) ∨
  ∃ b o cap cur e, cd = .slice (some ⟨b, o, none⟩) xs.length cap ∧ xs.length ≤ cap ∧ cap ≤ maxLen ∧ w.heap[b]? = some (.cells cur e (0, 0)) ∧ o + cap * ks.length = cur.size ∧
    Each (fun ts cs F => ROs w A ks ts cs F) ks.length xs ((cur.toList.drop o).take (xs.length * ks.length)) F1 ∧ bs = [b]

theorem app_core (h : Rel w0 I N σ fp a w) {d : Nat} (hd : d < N) (hn : NoName σ d) (dies : Nat → Bool) (hdd : dies d = false) {ks : List K} {xs ys : List T} {cd cs : Value} {F1 Fs bs : List Nat} {news : List Value}
    {pos : Prop} (hdst : AppDst w (Free w fp) ks xs cd F1 bs pos) (hpos : pos → 0 < ys.length) {t tx ty e : TypeId} {ie : TypeInfo} {z : Value} (ht : P.underlying t = some (.slice e)) (hi : P.info? e = some ie) (hz : ie.zero = some z) (hsz : ie.size = ks.length) (hzs : z.cells.size = ks.length)
    (hby : ie.bytes ≤ 131072) (hlen : xs.length + ys.length ≤ 1073741824)
    (hsrc : Src P ie.size tx cs ys.length news w) (hys : Each (fun ts cs F => ROs w (Free w fp) ks ts cs F) ks.length ys news Fs)
    (hnd : (bs ++ (F1 ++ Fs)).Nodup) (hdie : ∀ b ∈ bs ++ (F1 ++ Fs), ∃ s, dies s = true ∧ b ∈ fp s) :
    ∃ c w' fp', (Builtin.append_ #[t, tx] ty #[cd, cs]).run P w = .ok c w' ∧
      Rel w0 I N (upd (fun s => if dies s then .dead else σ s) d (.own (.sl ks) (.sl ks.length (xs ++ ys)))) fp' (a.put (some d) c) w' := by
  have hmaxl : xs.length + ys.length ≤ maxLen := by simp only [maxLen]; omega
  have hfr : ∀ b ∈ bs ++ (F1 ++ Fs), ¬ Free w fp b := fun b hb hf => by
    obtain ⟨s, _, h1⟩ := hdie b hb
    exact hf.2 s h1
  have hlt : ∀ b ∈ bs ++ (F1 ++ Fs), b < w.heap.size := fun b hb => by
    obtain ⟨s, _, h1⟩ := hdie b hb
    exact (h.there s b h1).1
  have hnl := hsrc.newsLen
  -- a new row
  have grow : ∀ (base : Option Addr) (cap : Nat) (olds : List Value), cd = .slice base xs.length cap → cap < xs.length + ys.length → olds.length = xs.length * ks.length →
      (Builtin.firstCells ie.size xs.length (.slice base xs.length cap)).run P w.drew = .ok olds.toArray w.drew →
      Each (fun ts cs F => ROs w (Free w fp) ks ts cs F) ks.length xs olds F1 →
      ∃ c w' fp', (Builtin.append_ #[t, tx] ty #[cd, cs]).run P w = .ok c w' ∧
        Rel w0 I N (upd (fun s => if dies s then .dead else σ s) d (.own (.sl ks) (.sl ks.length (xs ++ ys)))) fp' (a.put (some d) c) w' := by
    intro base cap olds e1 e2 e3 e4 e5
    subst e1
    have hfit : Builtin.nextslicecap (xs.length + ys.length) cap * ie.bytes ≤ 281474976710656 :=
      growslice_fits e2 (Nat.le_trans (Nat.mul_le_mul hlen hby) (by decide))
    have hrun := run_append_grow_src (P := P) w t tx ty e ie z ht hi hz base xs.length cap olds e4 cs ys.length news hsrc e2 (by omega) hfit
    have hge := grownCap_ge w (xs.length + ys.length) cap e
    have hcm : grownCap w (xs.length + ys.length) cap e ≤ maxLen := grownCap_le_maxLen w (xs.length + ys.length) cap e hmaxl
    generalize grownCap w (xs.length + ys.length) cap e = gc at hrun hge hcm
    have hext : Ext w (w.drew.alloc (.cells ((olds ++ news).toArray ++ Builtin.zeroCells z.cells (gc - (xs.length + ys.length))) e)) :=
      Ext.trans (Ext.drew w (w.drawn + 1)) (Ext.alloc _ _)
    have hsize : (w.drew.alloc (.cells ((olds ++ news).toArray ++ Builtin.zeroCells z.cells (gc - (xs.length + ys.length))) e)).heap.size = w.heap.size + 1 := by simp
    have hnew : (w.drew.alloc (.cells ((olds ++ news).toArray ++ Builtin.zeroCells z.cells (gc - (xs.length + ys.length))) e)).heap[w.heap.size]? = some (.cells ((olds ++ news).toArray ++ Builtin.zeroCells z.cells (gc - (xs.length + ys.length))) e) := alloc_last w.drew _
    generalize w.drew.alloc (.cells ((olds ++ news).toArray ++ Builtin.zeroCells z.cells (gc - (xs.length + ys.length))) e) = w' at hrun hext hsize hnew
    refine ⟨_, w', _, hrun, h.remake (F := w.heap.size :: (F1 ++ Fs)) hd hn dies hdd hext.os hext.tape hext.output hext.size (fun b hb _ => hext.block b hb) ?_ ?_ ?_⟩
    · rw [List.nodup_cons]
      refine ⟨fun hm => ?_, (List.nodup_append.1 hnd).2.1⟩
      have := hlt _ (List.mem_append_right bs hm); omega
    · intro b hb
      rcases List.mem_cons.1 hb with rfl | hb
      · exact .inr ⟨Nat.le_refl _, by omega⟩
      · exact .inl (hdie b (List.mem_append_right bs hb))
    · intro A' hA'
      have hmono : ∀ {zs : List T} {ds : List Value} {G : List Nat}, (∀ b ∈ G, b ∈ F1 ++ Fs) → Each (fun ts cs F => ROs w (Free w fp) ks ts cs F) ks.length zs ds G → Each (fun ts cs F => ROs w' A' ks ts cs F) ks.length zs ds G := by
        intro zs ds G hG he
        exact he.imp (fun ts cs F' hF' hr => ROs.mono (fun b hb => ⟨hA' b hb, hext.block b hb.1⟩) ks ts cs F' (fun b hb => hext.block b (hlt b (List.mem_append_right bs (hG b (hF' b hb))))) hr)
      have e6 := Each.append (hmono (fun b hb => List.mem_append_left _ hb) e5) (hmono (fun b hb => List.mem_append_right _ hb) hys)
      simp only [RO]
      refine .inr ⟨_, rfl, .inr ⟨w.heap.size, 0, gc, _, e, F1 ++ Fs, by simp, by simpa using hge, hcm, hnew, ?_, ?_, rfl⟩⟩
      · simp only [Array.size_append, List.size_toArray, List.length_append, size_zeroCells, hzs, e3, hnl, hsz, Nat.zero_add, ← Nat.add_mul]
        congr 1
        omega
      · have : ((((olds ++ news).toArray ++ Builtin.zeroCells z.cells (gc - (xs.length + ys.length))).toList.drop 0).take ((xs ++ ys).length * ks.length)) = olds ++ news := by
          simp only [List.drop_zero, Array.toList_append]
          rw [List.take_left' (by simp [e3, hnl, hsz, Nat.add_mul])]
        rw [this]
        exact e6
  rcases hdst with ⟨base, rfl, rfl, rfl, rfl, hbase⟩ | ⟨b, o, cap, cur, el, rfl, q1, q2, q3, q4, q5, rfl⟩
  · by_cases h0 : ys.length = 0
    · have hys0 : ys = [] := List.length_eq_zero_iff.1 h0
      subst hys0
      obtain ⟨rfl, rfl⟩ := hys
      have : base = none := hbase.resolve_right (fun hp => by have := hpos hp; simp at this)
      subst this
      refine ⟨_, w, _, run_append_nothing w t tx ty e ie ht hi none 0 0 (Nat.le_refl _) cs hsrc, h.remake (F := []) hd hn dies hdd rfl rfl rfl (Nat.le_refl _) (fun _ _ _ => rfl) List.nodup_nil (by simp) ?_⟩
      intro A' _
      simp only [RO]
      exact .inr ⟨[], rfl, .inl (by simp)⟩
    · refine grow base 0 [] rfl (by simp; omega) (by simp) ?_ (by simp [Each])
      cases base with
      | none => exact run_firstCells_none _ _ _ _ _
      | some ad => exact run_firstCells_some _ _ _ _ _ _ _ (by simp) (by simp)
  · have hol := q5.len
    by_cases hroom : xs.length + ys.length ≤ cap
    · have hcm : (xs.length + ys.length) * ks.length ≤ cap * ks.length := Nat.mul_le_mul_right _ hroom
      rw [Nat.add_mul] at hcm
      have hnl' : news.length = ys.length * ks.length := by rw [hnl, hsz]
      have hin : o + xs.length * ks.length + news.length ≤ cur.size := by omega
      have hrun := run_append_room_src (P := P) w t tx ty e ie ht hi b o xs.length cap cs ys.length news hsrc hroom (fun j hj => by simp [World.cell?, q3, hsz]; omega) (fun j hj => by simp [World.frozen?, q3])
      obtain ⟨cur', s1, s2⟩ := setCells_block b news (o + xs.length * ks.length) w q3 hin
      obtain ⟨g1, g2, g3, g4, g5⟩ := setCells_frame b news (o + xs.length * ks.length) w
      rw [hsz] at hrun
      generalize w.setCells b (o + xs.length * ks.length) news = w' at hrun s1 g1 g2 g3 g4 g5
      have hbF : b ∉ F1 ++ Fs := by
        rw [List.singleton_append, List.nodup_cons] at hnd
        exact hnd.1
      refine ⟨_, w', _, hrun, h.remake (F := b :: (F1 ++ Fs)) hd hn dies hdd g1 g2 g3 (by omega) (fun x _ hx => g5 x (fun e => ?_)) (by simpa using hnd) (fun x hx => .inl (hdie x (by simpa using hx))) ?_⟩
      · obtain ⟨s, k1, k2⟩ := hdie b (by simp)
        exact hx s k1 (e ▸ k2)
      · intro A' hA'
        have hmono : ∀ {zs : List T} {ds : List Value} {G : List Nat}, (∀ b ∈ G, b ∈ F1 ++ Fs) → Each (fun ts cs F => ROs w (Free w fp) ks ts cs F) ks.length zs ds G → Each (fun ts cs F => ROs w' A' ks ts cs F) ks.length zs ds G := by
          intro zs ds G hG he
          refine he.imp (fun ts cs F' hF' hr => ROs.mono (fun x hx => ⟨hA' x hx, g5 x (fun e => ?_)⟩) ks ts cs F' (fun x hx => g5 x (fun e => hbF (e ▸ hG x (hF' x hx)))) hr)
          subst e
          exact hfr x (by simp) hx
        have e6 := Each.append (hmono (fun b hb => List.mem_append_left _ hb) q5) (hmono (fun b hb => List.mem_append_right _ hb) hys)
        simp only [RO]
        refine .inr ⟨_, rfl, .inr ⟨b, o, cap, cur', el, F1 ++ Fs, by simp, by simpa using hroom, q2, s1, ?_, ?_, rfl⟩⟩
        · have : cur'.size = cur.size := by
            rw [← Array.length_toList, s2]; simp; omega
          omega
        · have : ((cur'.toList.drop o).take ((xs ++ ys).length * ks.length)) = (cur.toList.drop o).take (xs.length * ks.length) ++ news := by
            have := splice_at cur.toList news o ((xs.length + ys.length) * ks.length) (xs.length * ks.length) 0 (by rw [Nat.add_mul]; omega) (by rw [Nat.add_mul]; simp; omega)
            simp only [Nat.add_zero] at this
            have hz1 : List.drop (xs.length * ks.length + news.length) (List.take ((xs.length + ys.length) * ks.length) (cur.toList.drop o)) = [] := List.drop_eq_nil_of_le (by simp [Nat.add_mul]; omega)
            rw [s2, List.length_append, this, hz1, List.take_take, List.append_nil]
            congr 2
            rw [Nat.add_mul]; omega
          rw [this]
          exact e6
    · refine grow (some ⟨b, o, none⟩) cap _ rfl (by omega) hol ?_ q5
      refine run_firstCells_some _ _ _ _ _ _ _ (by rw [hol, hsz]) (fun j v hj => ?_)
      rw [add_lit]
      have hq3 : w.drew.heap[b]? = some (.cells cur el (0, 0)) := q3
      rw [cell_of_row _ b _ cur el (0, 0) hq3]
      rw [List.getElem?_take] at hj
      split at hj
      · rw [List.getElem?_drop] at hj
        simpa using hj
      · cases hj
end
end Go.Proofs.Ytaefhdklkbohmaa
/- 'append', by its operands. Generic. -/
namespace Go.Proofs.Ytaefhdklkbohmaa
open Go Go.RowKit

def appDstW (τ : Nat → W) (ks : List K) (x : Opd) : Prop × List Nat × List T × Prop :=
  match evG true τ x with
  | (c, .t .nil) => (c, [], [], True)
  | (c, .ref r []) => match rootAt true τ r with
    | (c', .sl ks', t) => (c ∧ c' ∧ ks' = ks ∧ t.isAny = false, [r], t.elems, True)
    | _ => (False, [], [], True)
  | (c, .sub r [] 0 m) => match rootAt true τ r with
    | (c', .sl ks', t) => (c ∧ c' ∧ ks' = ks ∧ t.isAny = false ∧ m ≤ t.elems.length, [r], t.elems.take m, False)
    | _ => (False, [], [], True)
  | _ => (False, [], [], True)
def allSolid (ys : List T) : Prop := ∀ y ∈ ys, y.leaves.all T.solid = true
def appSrcW (τ : Nat → W) (ks : List K) (own : Bool) (y : Opd) : Prop × List Nat × List T :=
  match own with
  | true => match evG true τ y with
    | (c, .ref r []) => match rootAt true τ r with
      | (c', .sl ks', t) => (c ∧ c' ∧ ks' = ks ∧ t.isAny = false ∧ allSolid t.elems, [r], t.elems)
      | _ => (False, [], [])
    | _ => (False, [], [])
  | false => match evT true τ y with
    | (c, t) => (c ∧ t.isSl ks.length ∧ ks = shs ks.length ∧ allSolid t.elems, [], t.elems)
/-- The condition; who dies; the elements. -/
def appW (τ : Nat → W) (d : Nat) (ks : List K) (own : Bool) (x y : Opd) : Prop × List Nat × List T :=
  match appDstW τ ks x, appSrcW τ ks own y with
  | (c, l, xs, e), (c', l', ys) => (c ∧ c' ∧ xs.length + ys.length ≤ 1073741824 ∧ (e ∨ 0 < ys.length) ∧ (d :: (l ++ l')).Nodup, l ++ l', xs ++ ys)

theorem ROs_oneCell {w : World} {A : Nat → Prop} : ∀ {ks : List K} {ts : List T} {cs : List Value} {F : List Nat}, ROs w A ks ts cs F → ts.all T.solid = true → ∀ u ∈ cs, u.oneCell' = true
  | [], ts, cs, F, h, _ => by simp only [ROs] at h; rw [h.2.1]; simp
  | k :: ks, ts, cs, F, h, hs => by
    simp only [ROs] at h
    obtain ⟨t, ts', c, cs', F1, F2, rfl, rfl, rfl, h1, h2, h3⟩ := h
    simp only [List.all_cons, Bool.and_eq_true] at hs
    intro u hu
    rcases List.mem_cons.1 hu with rfl | hu
    · cases k with
      | sh =>
        simp only [RO] at h2
        exact (solid_cells h1 hs.1 (RT_of_R0 h2.2)).2
      | sl ks =>
        simp only [RO] at h2
        rcases h2 with ⟨rfl, _⟩ | ⟨xs, rfl, ⟨_, _, rfl⟩ | ⟨_, _, _, _, _, _, rfl, _⟩⟩
        · simp [T.solid] at hs
        · rfl
        · rfl
      | box ks =>
        simp only [RO] at h2
        rcases h2 with ⟨rfl, _⟩ | ⟨_, _, _, _, rfl, _⟩
        · simp [T.solid] at hs
        · rfl
      | agg ks =>
        simp only [RO] at h2
        rcases h2 with ⟨rfl, _⟩ | ⟨_, _, rfl, _⟩
        · simp [T.solid] at hs
        · simp [T.isLeaf] at h1
      | tup ks =>
        simp only [RO] at h2
        rcases h2 with ⟨rfl, _⟩ | ⟨_, _, rfl, _⟩
        · simp [T.solid] at hs
        · simp [T.isLeaf] at h1
    · exact ROs_oneCell h3 hs.2 u hu
theorem Each_oneCell {w : World} {A : Nat → Prop} {ks : List K} {sz : Nat} : ∀ {xs : List T} {cs : List Value} {F : List Nat}, Each (fun ts cs F => ROs w A ks ts cs F) sz xs cs F → allSolid xs → ∀ u ∈ cs, u.oneCell' = true
  | [], cs, F, h, _ => by rw [h.1]; simp
  | x :: xs, _, _, h, hs => by
    obtain ⟨c1, c2, F1, F2, rfl, hl, rfl, h1, h2⟩ := h
    intro u hu
    rcases List.mem_append.1 hu with hu | hu
    · exact ROs_oneCell h1 (hs x (by simp)) u hu
    · exact Each_oneCell h2 (fun y hy => hs y (by simp [hy])) u hu

section
variable {P : Program} {w0 : World} {I : Nat → Prop} {N : Nat} {σ τ : Nat → W} {fp : Nat → List Nat} {a : Act} {w : World}
/-- The row that is made longer. -/
theorem appDst_sound (h : Rel w0 I N σ fp a w) (hs : Sub τ σ) {ks : List K} {X : Operand} {x : Opd} (hX : matO X x = true) (hc : (appDstW τ ks x).1) :
    ∃ F1 bs, AppDst w (Free w fp) ks (appDstW τ ks x).2.2.1 (a.eval X) F1 bs (¬ (appDstW τ ks x).2.2.2) ∧ (bs ++ F1).Nodup ∧ ∀ b ∈ bs ++ F1, ∃ s ∈ (appDstW τ ks x).2.1, b ∈ fp s := by
  unfold appDstW at hc ⊢
  have hx0 := evG_sound h hs hX (x := x)
  generalize evG true τ x = ex at hc hx0 ⊢
  obtain ⟨cx, vx⟩ := ex
  cases vx with
  | t t =>
    cases t with
    | nil =>
      simp only at hc hx0 ⊢
      have h1 := (hx0 hc).2.2
      simp only [WV, RT, R0, RL, List.cons.injEq, and_true] at h1
      exact ⟨[], [], .inl ⟨none, h1, rfl, rfl, rfl, .inl rfl⟩, by simp, by simp⟩
    | _ => exact hc.elim
  | ref r p =>
    cases p with
    | cons _ _ => exact hc.elim
    | nil =>
      simp only at hc hx0 ⊢
      have hrt : ∀ (hcr : (rootAt true τ r).1), Root σ r (rootAt true τ r).2.1 (rootAt true τ r).2.2 := fun hcr => rootAt_sound hs hcr
      generalize rootAt true τ r = rt at hc hrt ⊢
      obtain ⟨cr, k, t⟩ := rt
      cases k with
      | sl ks' =>
        simp only at hc hrt ⊢
        obtain ⟨c1, c2, rfl, c4⟩ := hc
        have hr := hrt c2
        have hv := (hx0 c1).2.2 _ _ hr trivial rfl
        simp only [loc, Option.some.injEq] at hv
        have h1 := h.root hr
        rw [hv] at h1
        simp only [RO] at h1
        rcases h1 with ⟨rfl, _⟩ | ⟨xs, rfl, ⟨rfl, e2, e3⟩ | ⟨b, o, cap, cur, e, Fs, e1, e2, e3, e4, e5, e6, e7⟩⟩
        · simp [T.isAny] at c4
        · exact ⟨[], [], .inl ⟨none, e3, rfl, rfl, rfl, .inl rfl⟩, by simp, by simp⟩
        · refine ⟨Fs, [b], .inr ⟨b, o, cap, cur, e, e1, e2, e3, e4, e5, e6, rfl⟩, ?_, fun x hx => ⟨r, by simp, by rw [e7]; simpa using hx⟩⟩
          have := h.nodup r
          rw [e7] at this
          simpa using this
      | _ => exact hc.elim
  | sub r p lo m =>
    cases p with
    | cons _ _ => exact hc.elim
    | nil =>
      cases lo with
      | succ _ => exact hc.elim
      | zero =>
        simp only at hc hx0 ⊢
        have hrt : ∀ (hcr : (rootAt true τ r).1), Root σ r (rootAt true τ r).2.1 (rootAt true τ r).2.2 := fun hcr => rootAt_sound hs hcr
        generalize rootAt true τ r = rt at hc hrt ⊢
        obtain ⟨cr, k, t⟩ := rt
        cases k with
        | sl ks' =>
          simp only at hc hrt ⊢
          obtain ⟨c1, c2, rfl, c4, c5⟩ := hc
          have hr := hrt c2
          obtain ⟨u, hv, Q, n1, cap1, g1, g2, g3, Q', g4, g5⟩ := (hx0 c1).2.2 _ _ hr trivial rfl
          simp only [loc, Option.some.injEq] at hv
          have h1 := h.root hr
          rw [hv, g1] at h1
          simp only [RO] at h1
          rcases h1 with ⟨rfl, _⟩ | ⟨xs, rfl, ⟨rfl, e2, e3⟩ | ⟨b, o, cap, cur, e, Fs, e1, e2, e3, e4, e5, e6, e7⟩⟩
          · simp [T.isAny] at c4
          · injection e3 with e3 e4 e5
            subst e5
            simp only [T.elems, List.length_nil, Nat.le_zero] at c5
            subst c5
            exact ⟨[], [], .inl ⟨Q', by simpa using g4, by simp [T.elems], rfl, rfl, .inr (fun h => h)⟩, by simp, by simp⟩
          · injection e1 with e1 e1' e1''
            subst e1; subst e1'; subst e1''
            simp only [T.elems] at c5 ⊢
            rcases Nat.eq_zero_or_pos cap1 with h0 | h0
            · subst h0
              have : m = 0 := by omega
              subst this
              exact ⟨[], [], .inl ⟨Q', by simpa using g4, by simp, rfl, rfl, .inr (fun h => h)⟩, by simp, by simp⟩
            · have hQ := g5 h0
              simp only [Nat.zero_mul, Option.map_some, add_lit, Nat.add_zero] at hQ
              subst hQ
              obtain ⟨F1, F2, rfl, e8⟩ := Each.take e6 m c5
              have hmul : m * ks'.length ≤ xs.length * ks'.length := Nat.mul_le_mul_right _ c5
              rw [List.take_take, Nat.min_eq_left hmul] at e8
              refine ⟨F1, [b], .inr ⟨b, o, cap1, cur, e, ?_, ?_, e3, e4, e5, ?_, rfl⟩, ?_, fun x hx => ⟨r, by simp, ?_⟩⟩
              · rw [g4]; simp [Nat.min_eq_left c5]
              · simp; omega
              · rw [List.length_take, Nat.min_eq_left c5]; exact e8
              · have := h.nodup r
                rw [e7] at this
                rw [← List.cons_append, List.nodup_append] at this
                simpa using this.1
              · rw [e7]; simp at hx ⊢; rcases hx with h | h <;> simp [h]
        | _ => exact hc.elim
  | _ => exact hc.elim

/-- What is appended. -/
theorem appSrc_sound (h : Rel w0 I N σ fp a w) (hs : Sub τ σ) {ks : List K} {own : Bool} {Y : Operand} {y : Opd} (hY : matO Y y = true) {tx e' : TypeId} (htx : P.underlying tx = some (.slice e')) (hc : (appSrcW τ ks own y).1) :
    ∃ news Fs, Src P ks.length tx (a.eval Y) (appSrcW τ ks own y).2.2.length news w ∧ Each (fun ts cs F => ROs w (Free w fp) ks ts cs F) ks.length (appSrcW τ ks own y).2.2 news Fs ∧ Fs.Nodup ∧ ∀ b ∈ Fs, ∃ s ∈ (appSrcW τ ks own y).2.1, b ∈ fp s := by
  unfold appSrcW at hc ⊢
  cases own with
  | false =>
    simp only at hc ⊢
    have hy0 := evT_sound h hs hY (x := y)
    generalize evT true τ y = ey at hc hy0 ⊢
    obtain ⟨cy, t⟩ := ey
    simp only at hc hy0 ⊢
    obtain ⟨c1, c2, c3, c4⟩ := hc
    have h1 := hy0 c1
    cases t with
    | nil =>
      simp only [RT, R0, RL, List.cons.injEq, and_true] at h1
      rw [h1]
      exact ⟨[], [], Src.ofNil w htx 0, by simp [T.elems, Each], List.nodup_nil, by simp⟩
    | sl z xs =>
      simp only [T.isSl] at c2
      subst c2
      simp only [RT, R0, RL, List.cons.injEq, and_true] at h1
      obtain ⟨p, cap, e1, e2, e3⟩ := h1
      rw [e1]
      simp only [T.elems] at c4 ⊢
      rcases e3 with rfl | ⟨b, o, es, rfl, e4, e5, e6⟩
      · cases p with
        | none => exact ⟨[], [], Src.ofNil w htx cap, by simp [Each], List.nodup_nil, by simp⟩
        | some ad => exact ⟨[], [], Src.ofSlice w htx ad 0 cap [] (by simp) (by simp) (by simp), by simp [Each], List.nodup_nil, by simp⟩
      · have e7 := each_of_RE e6
        rw [← c3] at e7
        refine ⟨es, [], Src.ofSlice w htx ⟨b, o, none⟩ _ cap es e7.len (fun j u hj => by rw [add_lit]; exact e5 j u hj) (Each_oneCell e7 c4), e7, List.nodup_nil, by simp⟩
    | _ => exact c2.elim
  | true =>
    simp only at hc ⊢
    have hx0 := evG_sound h hs hY (x := y)
    generalize evG true τ y = ex at hc hx0 ⊢
    obtain ⟨cx, vx⟩ := ex
    cases vx with
    | ref r p =>
      cases p with
      | cons _ _ => exact hc.elim
      | nil =>
        simp only at hc hx0 ⊢
        have hrt : ∀ (hcr : (rootAt true τ r).1), Root σ r (rootAt true τ r).2.1 (rootAt true τ r).2.2 := fun hcr => rootAt_sound hs hcr
        generalize rootAt true τ r = rt at hc hrt ⊢
        obtain ⟨cr, k, t⟩ := rt
        cases k with
        | sl ks' =>
          simp only at hc hrt ⊢
          obtain ⟨c1, c2, rfl, c4, c5⟩ := hc
          have hr := hrt c2
          have hv := (hx0 c1).2.2 _ _ hr trivial rfl
          simp only [loc, Option.some.injEq] at hv
          have h1 := h.root hr
          rw [hv] at h1
          simp only [RO] at h1
          rcases h1 with ⟨rfl, _⟩ | ⟨xs, rfl, ⟨rfl, e2, e3⟩ | ⟨b, o, cap, cur, e, Fs, e1, e2, e3, e4, e5, e6, e7⟩⟩
          · simp [T.isAny] at c4
          · rw [e3]
            exact ⟨[], [], Src.ofNil w htx 0, by simp [T.elems, Each], List.nodup_nil, by simp⟩
          · rw [e1]
            simp only [T.elems] at c5 ⊢
            refine ⟨_, Fs, Src.ofSlice w htx ⟨b, o, none⟩ _ cap _ e6.len (fun j u hj => ?_) (Each_oneCell e6 c5), e6, ?_, fun x hx => ⟨r, by simp, by rw [e7]; simp [hx]⟩⟩
            · rw [add_lit, cell_of_row w b _ cur e (0, 0) e4]
              rw [List.getElem?_take] at hj
              split at hj
              · rw [List.getElem?_drop] at hj; simpa using hj
              · cases hj
            · have := h.nodup r
              rw [e7, List.nodup_cons] at this
              exact this.2
        | _ => exact hc.elim
    | _ => exact hc.elim
end
end Go.Proofs.Ytaefhdklkbohmaa
/- The operation 'append'; what is owned becomes data. Generic. -/
namespace Go.Proofs.Ytaefhdklkbohmaa
open Go Go.RowKit

def sets (σ : Nat → W) : List (Nat × W) → Nat → W
  | [] => σ
  | (d, x) :: wr => sets (upd σ d x) wr
theorem sets_append : ∀ (wr wr' : List (Nat × W)) (σ : Nat → W), sets σ (wr ++ wr') = sets (sets σ wr) wr'
  | [], _, _ => rfl
  | (d, x) :: wr, wr', σ => by simp only [List.cons_append, sets]; exact sets_append wr wr' _
theorem sets_dead : ∀ (l : List Nat) (σ : Nat → W), sets σ (l.map fun s => (s, W.dead)) = fun s => if l.contains s then .dead else σ s
  | [], σ => by funext s; simp [sets]
  | r :: l, σ => by
    simp only [List.map_cons, sets]
    rw [sets_dead l]
    funext s
    simp only [List.contains_cons, upd]
    by_cases e : s = r
    · simp [e]
    · simp [e]

def isApp (o : Oper) : Option (Operand × Operand × TypeId × TypeId) :=
  match o.op with
  | .call c => match c.callee with
    | .builtin .append => match c.args.toList, c.argTypes.toList with
      | [X, Y], [t, tx] => some (X, Y, t, tx)
      | _, _ => none
    | _ => none
  | _ => none
theorem isApp_sound {o : Oper} {X Y : Operand} {t tx : TypeId} (h : isApp o = some (X, Y, t, tx)) : o.op = .call { callee := .builtin .append, args := #[X, Y], argTypes := #[t, tx] } := by
  unfold isApp at h
  split at h
  · rename_i c hc
    split at h
    · rename_i hcal
      split at h
      · rename_i X' Y' t' tx' h1 h2
        simp only [Option.some.injEq, Prod.mk.injEq] at h
        obtain ⟨rfl, rfl, rfl, rfl⟩ := h
        obtain ⟨cal, args, tys⟩ := c
        simp only at hcal h1 h2
        have e1 : args = #[X', Y'] := Array.toList_inj.1 h1
        have e2 : tys = #[t', tx'] := Array.toList_inj.1 h2
        rw [hc, hcal, e1, e2]
      · cases h
    · cases h
  · cases h
/-- The types of an 'append'. -/
def okApp (P : Program) (t tx sz : Nat) : Bool :=
  match P.underlying t, P.underlying tx with
  | some (.slice e), some (.slice _) => match P.info? e with
    | some ie => ie.size == sz && decide (ie.bytes ≤ 131072) && (match ie.zero with | some z => z.cells.size == sz | none => false)
    | none => false
  | _, _ => false

section
variable {P : Program} {w0 : World} {I : Nat → Prop} {N : Nat} {σ τ : Nat → W} {fp : Nat → List Nat} {a : Act} {w : World}
def appWr (τ : Nat → W) (d : Nat) (ks : List K) (own : Bool) (x y : Opd) : List (Nat × W) :=
  ((appW τ d ks own x y).2.1.map fun s => (s, W.dead)) ++ [(d, .own (.sl ks) (.sl ks.length (appW τ d ks own x y).2.2))]
theorem app_does (h : Rel w0 I N σ fp a w) (hs : Sub τ σ) (o : Oper) {d : Nat} (hd : o.dst = some d) (hN : d < N) (hn : NoName σ d) {X Y : Operand} {t tx : TypeId} (ho : isApp o = some (X, Y, t, tx)) {ks : List K} (hty : okApp P t tx ks.length = true)
    {own : Bool} {x y : Opd} (hX : matO X x = true) (hY : matO Y y = true) (hc : (appW τ d ks own x y).1) : Does P w0 I N o a w (sets σ (appWr τ d ks own x y)) := by
  unfold okApp at hty
  split at hty
  · rename_i e e' hu hux
    split at hty
    · rename_i ie hie
      simp only [Bool.and_eq_true, beq_iff_eq, decide_eq_true_eq] at hty
      obtain ⟨⟨t1, t2⟩, t3⟩ := hty
      split at t3
      · rename_i z hz
        simp only [beq_iff_eq] at t3
        obtain ⟨c1, c2, c3, c4, c5⟩ := hc
        obtain ⟨F1, bs, d1, d2, d3⟩ := appDst_sound h hs hX c1
        obtain ⟨news, Fs, s1, s2, s3, s4⟩ := appSrc_sound h hs hY hux c2
        have hl : (appW τ d ks own x y).2.1 = (appDstW τ ks x).2.1 ++ (appSrcW τ ks own y).2.1 := rfl
        have hx : (appW τ d ks own x y).2.2 = (appDstW τ ks x).2.2.1 ++ (appSrcW τ ks own y).2.2 := rfl
        have hc5 : d ∉ (appDstW τ ks x).2.1 ++ (appSrcW τ ks own y).2.1 ∧ ((appDstW τ ks x).2.1 ++ (appSrcW τ ks own y).2.1).Nodup := List.nodup_cons.1 c5
        have hnd : (bs ++ (F1 ++ Fs)).Nodup := by
          rw [← List.append_assoc, List.nodup_append]
          refine ⟨d2, s3, fun b hb b' hb' hbb => ?_⟩
          subst hbb
          obtain ⟨r, hr1, hr2⟩ := d3 b hb
          obtain ⟨r', hr1', hr2'⟩ := s4 b hb'
          have := h.disj r r' b hr2 hr2'
          subst this
          exact (List.nodup_append.1 hc5.2).2.2 r hr1 r hr1' rfl
        have hdie : ∀ b ∈ bs ++ (F1 ++ Fs), ∃ s, (((appDstW τ ks x).2.1 ++ (appSrcW τ ks own y).2.1).contains s) = true ∧ b ∈ fp s := by
          intro b hb
          simp only [List.mem_append] at hb
          rcases hb with hb | hb | hb
          · obtain ⟨r, hr1, hr2⟩ := d3 b (by simp [hb])
            exact ⟨r, by simp [hr1], hr2⟩
          · obtain ⟨r, hr1, hr2⟩ := d3 b (by simp [hb])
            exact ⟨r, by simp [hr1], hr2⟩
          · obtain ⟨r, hr1, hr2⟩ := s4 b hb
            exact ⟨r, by simp [hr1], hr2⟩
        obtain ⟨c, w', fp', e1, e2⟩ := app_core (P := P) (t := t) (tx := tx) (ty := o.type) (e := e) (ie := ie) (z := z) (xs := (appDstW τ ks x).2.2.1) (ys := (appSrcW τ ks own y).2.2) h hN hn
          (fun s => ((appDstW τ ks x).2.1 ++ (appSrcW τ ks own y).2.1).contains s) (by simpa using hc5.1) d1 (fun hp => c4.resolve_left hp) hu hie hz t1 t3 t2 c3 (by rw [t1]; exact s1) s2 hnd hdie
        unfold appWr
        rw [sets_append, sets_dead, hl, hx]
        refine does_value (c := c) (w' := w') (fp' := fp') ?_ ?_
        · simp [execOp, isApp_sound ho, resolve, invoke, builtin, e1]
        · rw [hd]; exact e2
      · cases t3
    · cases hty
  · cases hty

/-- What a slot owns becomes data that nobody changes any more. -/
theorem Rel.freeze (h : Rel w0 I N σ fp a w) {r : Nat} {k : K} {t : T} (hr : Root σ r k t) (hk : k.plain = true) : Rel w0 I N (upd σ r (.t t)) (upd fp r []) a w := by
  have hfp : ∀ s b, b ∈ upd fp r [] s → s ≠ r ∧ b ∈ fp s := by
    intro s b hb
    by_cases e : s = r
    · subst e; rw [upd_same] at hb; cases hb
    · rw [upd_ne _ _ _ e] at hb; exact ⟨e, hb⟩
  have hfree : ∀ b, Free w fp b → Free w (upd fp r []) b ∧ w.heap[b]? = w.heap[b]? := fun b hb => ⟨⟨hb.1, fun s hs => hb.2 s (hfp s b hs).2⟩, rfl⟩
  refine h.next h.size h.defers rfl rfl rfl (Nat.le_refl _) hfree ?_ ?_ ?_ ?_
  · intro s
    by_cases e : s = r
    · subst e
      rw [upd_same, upd_same]
      refine .inr ⟨rfl, ?_⟩
      refine RO.read (fun b hb => (hfree b hb).1) k t _ (fp s) hk (fun b hb => ⟨(h.there s b hb).1, fun s' hs' => ?_⟩) (h.root hr)
      obtain ⟨h1, h2⟩ := hfp s' b hs'
      exact h1 (h.disj s' s b h2 hb)
    · refine .inl ⟨upd_ne _ _ _ e, upd_ne _ _ _ e, rfl, fun _ _ => rfl, fun r' _ => ?_⟩
      intro k' t' hr'
      by_cases e' : r' = r
      · subst e'
        have := hr'.isRoot; rw [upd_same] at this; cases this
      · have hr'' : Root σ r' k' t' := by
          cases hr' with
          | own e => rw [upd_ne _ _ _ e'] at e; exact .own e
          | gd e => rw [upd_ne _ _ _ e'] at e; exact .gd e
        exact ⟨t', hr'', fun p hp _ => ⟨hp, rfl⟩⟩
  · intro s
    by_cases e : s = r
    · subst e; rw [upd_same]; exact List.nodup_nil
    · rw [upd_ne _ _ _ e]; exact h.nodup s
  · intro s s' b hs hs'
    exact h.disj s s' b (hfp s b hs).2 (hfp s' b hs').2
  · intro s b hs
    exact h.there s b (hfp s b hs).2
theorem frz_does (h : Rel w0 I N σ fp a w) (hs : Sub τ σ) (o : Oper) {d x : Nat} (hd : o.dst = some d) (hN : d < N) (ho : o.op = .move (.tmp x) ∨ o.op = .assign (.tmp x)) (hc : (rootAt true τ x).1) (hk : (rootAt true τ x).2.1.plain = true) :
    Does P w0 I N o a w (upd (upd σ x (.t (rootAt true τ x).2.2)) d (.t (rootAt true τ x).2.2)) := by
  have hex : (execOp a.eval o).run P w = .ok (.value (Act.at a x)) w := by
    rcases ho with ho | ho <;> simp [execOp, ho, Act.eval, Act.at, pure]
  have h1 := h.freeze (rootAt_sound hs hc) hk
  refine does_value hex (fp' := upd (upd fp x []) d []) ?_
  rw [hd]
  have h2 := h1.slots x
  rw [upd_same, upd_same] at h2
  exact h1.pure hN _ (.t (rootAt true τ x).2.2) rfl h2 (Ext.refl w)
end
end Go.Proofs.Ytaefhdklkbohmaa
/- More that is made anew: 'make' of a slice, a row of one that is owned; data at once. Generic. -/
namespace Go.Proofs.Ytaefhdklkbohmaa
open Go Go.RowKit

section
variable {P : Program} {w0 : World} {I : Nat → Prop} {N : Nat} {σ τ : Nat → W} {fp : Nat → List Nat} {a : Act} {w : World}
theorem Does.freeze {o : Oper} {d : Nat} {k : K} {t : T} (h : Does P w0 I N o a w (upd σ d (.own k t))) (hk : k.plain = true) : Does P w0 I N o a w (upd σ d (.t t)) := by
  intro K Q hK
  refine h K Q (fun fp' a' w' hr => hK (upd fp' d []) a' w' ?_)
  have := hr.freeze (r := d) (k := k) (t := t) (.own (upd_same _ _ _)) hk
  have e : upd (upd σ d (.own k t)) d (.t t) = upd σ d (.t t) := by
    funext s; simp only [upd]; split <;> rfl
  rwa [e] at this

theorem range_chunk (z : List Value) (s : Nat) : (List.range' (s * z.length) z.length).map (fun j => z[j % z.length]!) = z := by
  apply List.ext_getElem
  · simp
  · intro i h1 h2
    simp only [List.length_map, List.length_range'] at h1
    simp only [List.getElem_map, List.getElem_range', Nat.one_mul]
    rw [Nat.mul_comm s, Nat.mul_add_mod, Nat.mod_eq_of_lt h1]
    simp [h1]
theorem each_same {R : List T → List Value → List Nat → Prop} (x : T) (z : List Value) (hx : R x.leaves z []) : ∀ (n s : Nat), Each R z.length (List.replicate n x) ((List.range' (s * z.length) (n * z.length)).map (fun j => z[j % z.length]!)) []
  | 0, s => by simp [Each]
  | n + 1, s => by
    simp only [List.replicate_succ, Each]
    refine ⟨z, _, [], [], ?_, rfl, rfl, hx, each_same x z hx n (s + 1)⟩
    rw [Nat.succ_mul, Nat.add_comm (n * z.length), ← List.range'_append_1, List.map_append, range_chunk, Nat.succ_mul]

theorem run_make (t e : TypeId) (ie : TypeInfo) (z : Value) (n : Int) (hu : P.underlying t = some (.slice e)) (hie : P.info? e = some ie) (hz : ie.zero = some z) (hb : ie.bytes ≤ 131072) (h0 : 0 ≤ n) (hn : n ≤ 1073741824) (k k' : IntKind) (hzs : 0 < z.cells.size) (hsz : ie.size = z.cells.size) :
    (Instr.makeSlice t (.int k n) (.int k' n)).run P w = .ok (.slice (some ⟨w.heap.size, 0, none⟩) n.toNat n.toNat) (w.alloc (.cells ((Array.range (n.toNat * ie.size)).map (z.cells[· % z.cells.size]!)) e)) := by
  have hw : IntKind.i64.wrap n = n := by simp [IntKind.wrap, IntKind.bits, IntKind.signed]; omega
  have h1 : (ie.bytes : Int) * n ≤ 281474976710656 := by
    have := Int.mul_le_mul (a := (ie.bytes : Int)) (b := n) (c := 131072) (d := 1073741824) (by omega) hn h0 (by omega)
    omega
  have h2 : ¬ (n < 0) := by omega
  by_cases hn0 : n = 0
  · subst hn0
    simp [Instr.makeSlice, run_underlying hu, asInt, asIntOf, typeInfo, hie, sizeOf, zeroValue, hz, hw, newRow, Sem.run_bind]
    congr 2
    apply Array.ext <;> simp
  · have h3 : ¬ (n.toNat * ie.size = 0) := by
      rw [hsz]
      have : 0 < n.toNat * z.cells.size := Nat.mul_pos (by omega) hzs
      omega
    have h4 : ¬ (281474976710656 < (ie.bytes : Int) * n) := by omega
    simp [Instr.makeSlice, run_underlying hu, asInt, asIntOf, typeInfo, hie, sizeOf, zeroValue, hz, hw, newRow, Sem.run_bind, h2, h3, h4]

/-- A row of zeros. -/
def mkW (τ : Nat → W) (sz : Nat) (zero : T) (x y : Opd) (k k' : IntKind) : Prop × W :=
  match evT true τ x, evT true τ y with
  | (c, t), (c', t') => (c ∧ c' ∧ t.isInt k ∧ t'.isInt k' ∧ t.toInt = t'.toInt ∧ 0 ≤ t.toInt ∧ t.toInt ≤ 1073741824, .own (.sl (shs sz)) (.sl sz (List.replicate t.toInt.toNat zero)))
theorem mk_does (h : Rel w0 I N σ fp a w) (hs : Sub τ σ) (o : Oper) {d : Nat} (hd : o.dst = some d) (hN : d < N) (hn : NoName σ d) {ty : TypeId} {X Y : Operand} (ho : o.op = .makeSlice ty X Y) {x y : Opd} (hX : matO X x = true) (hY : matO Y y = true)
    {e : TypeId} {ie : TypeInfo} {z : Value} (hu : P.underlying ty = some (.slice e)) (hie : P.info? e = some ie) (hz : ie.zero = some z) (hb : ie.bytes ≤ 131072) {sz : Nat} (hsz : ie.size = sz) (hzs : z.cells.size = sz) (h0 : 0 < sz) {zero : T}
    (hzl : zero.leaves.length = sz) (hm : matVs z.cells.toList zero.leaves = true) {k k' : IntKind} (hc : (mkW τ sz zero x y k k').1) : Does P w0 I N o a w (upd σ d (mkW τ sz zero x y k k').2) := by
  unfold mkW at hc ⊢
  have hx0 := evT_sound h hs hX (x := x)
  have hy0 := evT_sound h hs hY (x := y)
  generalize evT true τ x = ex at hc hx0 ⊢
  generalize evT true τ y = ey at hc hy0 ⊢
  obtain ⟨cx, tx⟩ := ex
  obtain ⟨cy, ty'⟩ := ey
  simp only at hc hx0 hy0 ⊢
  obtain ⟨c1, c2, c3, c4, c5, c6, c7⟩ := hc
  have h1 := RT_int (hx0 c1) c3
  have h2 := RT_int (hy0 c2) c4
  rw [← c5] at h2
  have hrun : (Instr.makeSlice ty (a.eval X) (a.eval Y)).run P w = .ok (.slice (some ⟨w.heap.size, 0, none⟩) tx.toInt.toNat tx.toInt.toNat) (w.alloc (.cells ((Array.range (tx.toInt.toNat * ie.size)).map (z.cells[· % z.cells.size]!)) e)) := by
    rw [h1, h2]
    exact run_make (P := P) (w := w) ty e ie z tx.toInt hu hie hz hb c6 c7 k k' (by omega) (by omega)
  refine does_value (exec_vv (s := Instr.makeSlice ty (a.eval X) (a.eval Y)) (by simp only [execOp, ho]) hrun) (fp' := upd fp d [w.heap.size]) ?_
  rw [hd]
  have e5 := h.newRow (ks := shs sz) (xs := List.replicate tx.toInt.toNat zero) (cs := ((Array.range (tx.toInt.toNat * ie.size)).map (z.cells[· % z.cells.size]!))) hN hn e (by simp [shs, hsz]) (by simp [maxLen]; omega) (fun w' A' hA => by
    have := each_same (R := fun ts cs F => ROs w' A' (shs sz) ts cs F) zero z.cells.toList (by
      have := ROs_sh (matVs_sound (w := w') (A := A') hm)
      rwa [hzl] at this) tx.toInt.toNat 0
    have hf : (fun j => z.cells.toList[j % z.cells.toList.length]!) = fun j => z.cells[j % z.cells.size]! := by
      funext j
      simp
      rw [Array.getElem!_eq_getD, Array.getD_eq_getD_getElem?]
    rw [hf] at this
    simp only [Array.length_toList, hzs, Nat.zero_mul] at this
    simp only [shs, List.length_replicate, hsz, hzs, Array.toList_map, Array.toList_range, List.range_eq_range']
    exact this)
  simpa [shs] using e5

/-- A row of one that is owned. -/
theorem mksO_does (h : Rel w0 I N σ fp a w) (hs : Sub τ σ) (o : Oper) {d x : Nat} (hd : o.dst = some d) (hN : d < N) (hdx : x ≠ d) (hn : NoName σ d) {ty : TypeId} {parts : Array (Nat × Operand)} (ho : o.op = .buildSlice ty 1 parts) (hp : parts = #[(0, .tmp x)])
    {e : TypeId} {ie : TypeInfo} {z : Value} (hu : P.underlying ty = some (.slice e)) (hie : P.info? e = some ie) (hz : ie.zero = some z) (hsz : ie.size = 1) (hzs : z.cells.size = 1) {ks : List K}
    (hc : (rootAt true τ x).1) (hk : (rootAt true τ x).2.1 = .sl ks) (ht : (rootAt true τ x).2.2.isAny = false) :
    Does P w0 I N o a w (upd (upd σ x .dead) d (.own (.sl [.sl ks]) (.sl 1 [(rootAt true τ x).2.2]))) := by
  have hr := rootAt_sound hs hc
  rw [hk] at hr
  generalize (rootAt true τ x).2.2 = t at hr ht ⊢
  have h1 := h.root hr
  have hcell : (Act.at a x).cells = #[Act.at a x] ∧ t.isLeaf = true := by
    have := h1
    simp only [RO] at this
    rcases this with ⟨rfl, _⟩ | ⟨xs, rfl, ⟨_, _, e⟩ | ⟨b, o, cap, cur, e, Fs, e1, _⟩⟩
    · simp [T.isAny] at ht
    · rw [e]; exact ⟨rfl, rfl⟩
    · rw [e1]; exact ⟨rfl, rfl⟩
  have hfill : Instr.fill (fun i => some (i * ie.size, ie.size)) ((Array.range (1 * ie.size)).map ((if 1 * ie.size = 0 then #[] else z.cells)[· % (if 1 * ie.size = 0 then #[] else z.cells).size]!)) [(0, Act.at a x)] = some #[Act.at a x] := by
    simp only [Instr.fill, hcell.1, hsz, Nat.zero_mul]
    rw [if_neg (by simp)]
    simp only [Option.some.injEq]
    apply Array.ext
    · simp
    · intro i h1 h2
      simp at h2
      subst h2
      simp
  have hrun := run_buildSlice' (P := P) w ty e 1 #[(0, Act.at a x)] #[Act.at a x] ie z hu hie hz (by rw [hsz]; decide) hfill
  have hext := Ext.alloc w (.cells #[Act.at a x] e)
  refine does_value (exec_vv (s := Instr.buildSlice ty 1 (parts.map fun (i, x) => (i, a.eval x))) (by simp only [execOp, ho]) (c := .slice (some ⟨w.heap.size, 0, none⟩) 1 1) (w' := w.alloc (.cells #[Act.at a x] e)) ?_) (fp' := upd (fun s => if s == x then [] else fp s) d (w.heap.size :: fp x)) ?_
  · rw [hp]
    simpa [Act.eval, Act.at] using hrun
  · rw [hd]
    have e1 : (upd (upd σ x .dead) d (.own (.sl [.sl ks]) (.sl 1 [t]))) = upd (fun s => if s == x then .dead else σ s) d (.own (.sl [.sl ks]) (.sl 1 [t])) := by
      funext s; simp only [upd]; split
      · rfl
      · by_cases e : s = x <;> simp [e]
    rw [e1]
    refine h.remake hN hn (fun s => s == x) (by simpa using Ne.symm hdx) hext.os hext.tape hext.output hext.size (fun b hb _ => hext.block b hb) ?_ ?_ ?_
    · rw [List.nodup_cons]
      refine ⟨fun hm => ?_, h.nodup x⟩
      have := (h.there x _ hm).1; omega
    · intro b hb
      rcases List.mem_cons.1 hb with rfl | hb
      · exact .inr ⟨Nat.le_refl _, by simp⟩
      · exact .inl ⟨x, by simp, hb⟩
    · intro A' hA'
      rw [RO]
      refine .inr ⟨[t], rfl, .inr ⟨w.heap.size, 0, 1, #[Act.at a x], e, fp x, rfl, by simp, by simp [maxLen], alloc_last w _, by simp, ?_, rfl⟩⟩
      simp only [Each, List.length_singleton]
      refine ⟨[Act.at a x], [], fp x, [], by simp, rfl, by simp, ?_, rfl, rfl⟩
      rw [leaf_leaves hcell.2]
      simp only [ROs]
      exact ⟨t, [], _, [], fp x, [], rfl, rfl, by simp, hcell.2, RO.mono (fun b hb => ⟨hA' b hb, hext.block b hb.1⟩) _ _ _ _ (fun b hb => hext.block b (h.there x b hb).1) h1, by simp⟩
end
end Go.Proofs.Ytaefhdklkbohmaa
/- Calls that are handed what is owned, to be read; results that hold no address. Generic. -/
namespace Go.Proofs.Ytaefhdklkbohmaa
open Go Go.RowKit

/-- Data of now. -/
def evS (g : Bool) (τ : Nat → W) (x : Opd) : Prop × T :=
  match evG g τ x with
  | (c, .t t) => (c, t)
  | (c, .ref r p) => match nodeAt g τ r p with
    | (d, k, t) => (c ∧ d ∧ k.isOwn = true ∧ k.plain = true, t)
  | (c, .sub r p lo n) => match nodeAt g τ r p with
    | (d, .sl ks, t) => (c ∧ d ∧ (K.sl ks).plain = true ∧ t.isAny = false ∧ lo + n ≤ t.elems.length, .sl ks.length ((t.elems.drop lo).take n))
    | _ => (False, .any)
  | _ => (False, .any)
def evSs (g : Bool) (τ : Nat → W) : List Opd → Prop × List T
  | [] => (True, [])
  | x :: xs => match evS g τ x, evSs g τ xs with
    | (c, t), (d, ts) => (c ∧ (match t with | .tup _ => False | _ => True) ∧ d, t :: ts)
/-- No address in it. -/
def T.flat1 : T → Bool
  | .int _ _ => true
  | .bool _ => true
  | .str _ => true
  | .nil => true
  | .fn _ => true
  | .raw _ => true
  | .any => true
  | .sl _ [] => true
  | _ => false
def T.flat : T → Bool
  | .agg ts => ts.all T.flat1
  | t => t.flat1
mutual
def K.flat : K → T → Prop
  | .sh, t => t.flat = true
  | .sl ks, t => ∀ x ∈ t.elems, K.flats ks x.leaves
  | .box ks, t => K.flats ks t.leaves
  | .agg ks, t => K.flats ks t.leaves
  | .tup ks, t => K.flats ks t.comps
def K.flats : List K → List T → Prop
  | [], _ => True
  | k :: ks, ts => K.flat k (ts.headD default) ∧ K.flats ks ts.tail
end
section
variable {w : World} {A A' : Nat → Prop}
theorem RL_flat1 {t : T} {cs : List Value} (h : t.flat1 = true) (hr : RL w A t cs) : RL w A' t cs := by
  cases t with
  | sl z xs =>
    cases xs with
    | nil =>
      simp only [RL] at hr ⊢
      obtain ⟨p, cap, h1, h2, _⟩ := hr
      exact ⟨p, cap, h1, h2, .inl trivial⟩
    | cons _ _ => simp [T.flat1] at h
  | agg ts => simp [T.flat1] at h
  | tup ts => simp [T.flat1] at h
  | ptr z e => simp [T.flat1] at h
  | _ => simpa only [RL] using hr
theorem RS_flat : ∀ {ts : List T} {cs : List Value}, ts.all T.flat1 = true → RS w A ts cs → RS w A' ts cs
  | [], _, _, h => h
  | t :: ts, _, hf, h => by
    simp only [List.all_cons, Bool.and_eq_true] at hf
    obtain ⟨c, cs', rfl, h1, h2, h3⟩ := h
    exact ⟨c, cs', rfl, h1, RL_flat1 hf.1 h2, RS_flat hf.2 h3⟩
theorem R0_flat {t : T} {c : Value} (h : t.flat = true) (hr : R0 w A t c) : R0 w A' t c := by
  cases t with
  | agg ts =>
    obtain ⟨cs, rfl, h1⟩ := hr
    exact ⟨cs, rfl, RS_flat h h1⟩
  | _ =>
    simp only [R0] at hr ⊢
    exact RL_flat1 h hr
mutual
theorem RO.flat : ∀ (k : K) (t : T) (c : Value) (F : List Nat), K.flat k t → RO w A k t c F → RO w A' k t c F
  | .sh, t, c, F, hf, h => by
    simp only [RO, K.flat] at h hf ⊢
    exact ⟨h.1, R0_flat hf h.2⟩
  | .sl ks, t, c, F, hf, h => by
    simp only [RO, K.flat] at h hf ⊢
    rcases h with h | ⟨xs, rfl, h⟩
    · exact .inl h
    refine .inr ⟨xs, rfl, ?_⟩
    rcases h with h | ⟨b, o, cap, cur, e, Fs, rfl, h1, h2, h3, h4, h5, rfl⟩
    · exact .inl h
    · refine .inr ⟨b, o, cap, cur, e, Fs, rfl, h1, h2, h3, h4, ?_, rfl⟩
      simp only [T.elems] at hf
      exact eachFlat ks hf h5
  | .box ks, t, c, F, hf, h => by
    simp only [RO, K.flat] at h hf ⊢
    rcases h with h | ⟨b, cur, e, Fs, rfl, h3, h5, rfl, h6⟩
    · exact .inl h
    exact .inr ⟨b, cur, e, Fs, rfl, h3, ROs.flat ks _ _ Fs hf h5, rfl, h6⟩
  | .agg ks, t, c, F, hf, h => by
    simp only [RO, K.flat] at h hf ⊢
    rcases h with h | ⟨ts, cs, rfl, rfl, h⟩
    · exact .inl h
    exact .inr ⟨ts, cs, rfl, rfl, ROs.flat ks _ _ F hf h⟩
  | .tup ks, t, c, F, hf, h => by
    simp only [RO, K.flat] at h hf ⊢
    rcases h with h | ⟨ts, cs, rfl, rfl, h⟩
    · exact .inl h
    exact .inr ⟨ts, cs, rfl, rfl, ROt.flat ks _ _ F hf h⟩
theorem ROs.flat : ∀ (ks : List K) (ts : List T) (cs : List Value) (F : List Nat), K.flats ks ts → ROs w A ks ts cs F → ROs w A' ks ts cs F
  | [], _, _, _, _, h => by simpa [ROs] using h
  | k :: ks, ts, cs, F, hf, h => by
    simp only [ROs] at h ⊢
    obtain ⟨t, ts', c, cs', F1, F2, rfl, rfl, rfl, hl, h1, h2⟩ := h
    simp only [K.flats, List.headD_cons, List.tail_cons] at hf
    exact ⟨t, ts', c, cs', F1, F2, rfl, rfl, rfl, hl, RO.flat k t c F1 hf.1 h1, ROs.flat ks ts' cs' F2 hf.2 h2⟩
theorem ROt.flat : ∀ (ks : List K) (ts : List T) (cs : List Value) (F : List Nat), K.flats ks ts → ROt w A ks ts cs F → ROt w A' ks ts cs F
  | [], _, _, _, _, h => by simpa [ROt] using h
  | k :: ks, ts, cs, F, hf, h => by
    simp only [ROt] at h ⊢
    obtain ⟨t, ts', c, cs', F1, F2, rfl, rfl, rfl, hl, h1, h2⟩ := h
    simp only [K.flats, List.headD_cons, List.tail_cons] at hf
    exact ⟨t, ts', c, cs', F1, F2, rfl, rfl, rfl, hl, RO.flat k t c F1 hf.1 h1, ROt.flat ks ts' cs' F2 hf.2 h2⟩
theorem eachFlat (ks : List K) {sz : Nat} : ∀ {xs : List T} {cs : List Value} {F : List Nat}, (∀ x ∈ xs, K.flats ks x.leaves) → Each (fun ts cs F => ROs w A ks ts cs F) sz xs cs F → Each (fun ts cs F => ROs w A' ks ts cs F) sz xs cs F
  | [], _, _, _, h => h
  | x :: xs, _, _, hf, h => by
    obtain ⟨c1, c2, F1, F2, rfl, hl, rfl, h1, h2⟩ := h
    exact ⟨c1, c2, F1, F2, rfl, hl, rfl, ROs.flat ks _ _ _ (hf x (by simp)) h1, eachFlat ks (fun y hy => hf y (by simp [hy])) h2⟩
end
end

section
variable {P : Program} {w0 : World} {I : Nat → Prop} {N : Nat} {σ τ : Nat → W} {fp : Nat → List Nat} {a : Act} {w : World}
theorem evS_sound (h : Rel w0 I N σ fp a w) (hs : Sub τ σ) {X : Operand} {x : Opd} (hm : matO X x = true) (hc : (evS true τ x).1) : RT w (fun b => b < w.heap.size) (evS true τ x).2 (a.eval X) := by
  unfold evS at hc ⊢
  have hx0 := evG_sound h hs hm (x := x)
  generalize evG true τ x = ex at hc hx0 ⊢
  obtain ⟨cx, vx⟩ := ex
  cases vx with
  | t t =>
    simp only at hc hx0 ⊢
    exact RT.mono (fun b hb => ⟨hb.1, rfl⟩) _ _ (hx0 hc).2.2
  | ref r p =>
    simp only at hc hx0 ⊢
    obtain ⟨c1, c2, c3, c4⟩ := hc
    obtain ⟨k, t, c, F, r1, r2, r3, r4, r5, r6, r7⟩ := node_sound h hs c2
    have hv := (hx0 c1).2.2 k t r1 r2 (by rw [r3]; exact c3)
    rw [r5] at hv
    simp only [Option.some.injEq] at hv
    rw [r3, r4, hv] at r6
    exact RO.read (fun b hb => hb.1) _ _ _ F c4 (fun b hb => (h.there r b (r7 b hb)).1) r6
  | sub r p lo n =>
    simp only at hc hx0 ⊢
    have hn : ∀ (hcn : (nodeAt true τ r p).1), _ := fun hcn => node_sound h hs hcn
    generalize nodeAt true τ r p = nd at hc hn ⊢
    obtain ⟨cn, kn, tn⟩ := nd
    cases kn with
    | sl ks =>
      simp only at hc hn ⊢
      obtain ⟨c1, c2, c3, c4, c5⟩ := hc
      obtain ⟨k, t, c, F, r1, r2, r3, r4, r5, r6, r7⟩ := hn c2
      obtain ⟨u, hv, Q, n1, cap1, g1, g2, g3, Q', g4, g5⟩ := (hx0 c1).2.2 k t r1 r2 (by rw [r3]; rfl)
      rw [r5] at hv
      simp only [Option.some.injEq] at hv
      subst hv
      rw [r3, r4] at r6
      rw [r3] at g5
      have h1 := RO.read (A' := fun b => b < w.heap.size) (fun b hb => hb.1) _ _ _ F c3 (fun b hb => (h.there r b (r7 b hb)).1) r6
      have hsl : ∃ xs, tn = .sl ks.length xs := by
        simp only [RO] at r6
        rcases r6 with ⟨rfl, _⟩ | ⟨xs, rfl, _⟩
        · simp [T.isAny] at c4
        · exact ⟨xs, rfl⟩
      obtain ⟨xs, rfl⟩ := hsl
      simp only [T.elems] at c5 ⊢
      simp only [RT, R0, RL, List.cons.injEq, and_true] at h1 ⊢
      obtain ⟨p0, cap0, e1, e2, e3⟩ := h1
      rw [g1] at e1
      injection e1 with e1 e1' e1''
      subst e1; subst e1'; subst e1''
      have hl : ((xs.drop lo).take n).length = n := by simp; omega
      refine ⟨Q', cap1 - lo, by rw [g4, hl], by rw [hl]; omega, ?_⟩
      by_cases hn0 : n = 0
      · subst hn0; exact .inl (by simp)
      · right
        rcases e3 with rfl | ⟨b, o, es, rfl, e4, e5, e6⟩
        · simp at c5; omega
        · have hQ := g5 (by omega)
          simp only [Option.map_some, add_lit, K.kids] at hQ
          refine ⟨b, o + lo * ks.length, (es.drop (lo * ks.length)).take (n * ks.length), hQ, e4, ?_, RE.take n (RE.drop lo e6)⟩
          intro j u hj
          rw [List.getElem?_take] at hj
          split at hj
          · rw [List.getElem?_drop] at hj
            rw [Nat.add_assoc]
            exact e5 _ u hj
          · cases hj
    | _ => exact hc.elim
  | _ => exact hc.elim
theorem evSs_sound (h : Rel w0 I N σ fp a w) (hs : Sub τ σ) : ∀ {Xs : List Operand} {xs : List Opd}, matOs Xs xs = true → (evSs true τ xs).1 → R0s w (fun b => b < w.heap.size) (evSs true τ xs).2 (Xs.map a.eval)
  | [], [], _, _ => by simp [evSs, R0s]
  | [], _ :: _, h, _ => by simp [matOs] at h
  | _ :: _, [], h, _ => by simp [matOs] at h
  | X :: Xs, x :: xs, hm, hc => by
    simp only [matOs, Bool.and_eq_true] at hm
    simp only [evSs] at hc ⊢
    obtain ⟨c1, c2, c3⟩ := hc
    refine ⟨_, _, rfl, R0s_leaf (evS_sound h hs hm.1 c1) (fun us e => ?_), evSs_sound h hs hm.2 c3⟩
    rw [e] at c2; exact c2
theorem callS_does (h : Rel w0 I N σ fp a w) (hs : Sub τ σ) (o : Oper) {d : Nat} (hd : o.dst = some d) (hN : d < N) (hn : NoName σ d) {f : FuncId} {Xs : List Operand} (ho : isCall o = some (f, Xs)) (hf : isFn P f = true)
    {xs : List Opd} (hm : matOs Xs xs = true) (hc : (evSs true τ xs).1) {k : K} {t : T} (hfl : K.flat k t) (hk : ACalls P f (evSs true τ xs).2 k t) : Does P w0 I N o a w (upd σ d (.own k t)) := by
  intro K Q hK
  unfold Oper.wp
  rw [exec_call o ho hf]
  refine Calls.mono (hk w (fun b => b < w.heap.size) _ (fun b hb => hb) (evSs_sound h hs hm hc)) ?_
  rintro e w' ⟨c, F, rfl, hr⟩
  simp only [hd]
  exact hK _ _ _ (h.called hN hn ⟨hr.ext, hr.nodup, hr.new, RO.flat k t c F hfl hr.val⟩)

/-! ### Is it nil? -/
theorem run_isnil (w : World) (ne : Bool) (ty e : TypeId) (X Y : Operand) (p : Option Addr) (n cap : Nat) (hu : P.underlying ty = some (.slice e)) :
    (do eqGuard (if ne then .neq else .eql) ty X Y (.slice p n cap) (.slice none 0 0); binOp (if ne then .neq else .eql) ty (.slice p n cap) (.slice none 0 0) : Sem Value).run P w = .ok (.bool (if ne then !p.isNone else p.isNone)) w := by
  have h := run_equal_slice_nil (P := P) w ty e p n cap hu
  cases ne <;> simp [eqGuard, binOp, Sem.run_bind, h, Sem.run, pure, Result.andThen]
def isSl? (P : Program) (ty : Nat) : Bool := match P.underlying ty with | some (.slice _) => true | _ => false
theorem isnil_does (h : Rel w0 I N σ fp a w) (hs : Sub τ σ) (o : Oper) {d : Nat} (hd : o.dst = some d) (hN : d < N) {ne : Bool} {ty yt : TypeId} {X : Operand} (ho : o.op = .binOp (if ne then .neq else .eql) ty X (.const (.slice none 0 0)) yt)
    (hty : isSl? P ty = true) {x : Opd} (hm : matO X x = true) (hc : (evT true τ x).1) (ht : ∃ z xs, (evT true τ x).2 = .sl z xs) :
    ∃ b : Bool, ((evT true τ x).2.elems ≠ [] → b = false) ∧ Does P w0 I N o a w (upd σ d (.t (.bool (if ne then !b else b)))) := by
  have h1 := evT_sound h hs hm hc
  obtain ⟨z, xs, e⟩ := ht
  rw [e] at h1 ⊢
  simp only [RT, R0, RL, List.cons.injEq, and_true] at h1
  obtain ⟨p, cap, e1, e2, e3⟩ := h1
  obtain ⟨el, hu⟩ : ∃ el, P.underlying ty = some (.slice el) := by
    unfold isSl? at hty
    split at hty
    · rename_i el hel; exact ⟨el, hel⟩
    · cases hty
  refine ⟨p.isNone, fun hne => ?_, ?_⟩
  · rcases e3 with e3 | ⟨b, o', es, rfl, _⟩
    · exact absurd e3 (by simpa [T.elems] using hne)
    · rfl
  · have hr := run_isnil (P := P) w ne ty el X (.const (.slice none 0 0)) p xs.length cap hu
    rw [← e1] at hr
    refine does_value (exec_vv (by simp only [execOp, ho]; rfl) hr) (fp' := upd fp d []) ?_
    rw [hd]
    exact h.pure hN _ (.t (.bool (if ne then !p.isNone else p.isNone))) rfl ⟨rfl, RT_mkBool (w := w) (A := Free w fp) _⟩ (Ext.refl w)
end
end Go.Proofs.Ytaefhdklkbohmaa
/- One operation of a region: what it asks and what it writes. Generic. -/
namespace Go.Proofs.Ytaefhdklkbohmaa
open Go Go.RowKit

inductive EOp where
  | pure (ao : AOp)
  | alloc (ks : List K) (z : T)
  | box (x : Opd)
  | mks (fz ag : Bool) (sz n : Nat) (ps : List (Nat × Nat × Opd))
  | mk (fz : Bool) (sz : Nat) (zero : T) (x y : Opd) (k k' : IntKind)
  | mksO (ks : List K) (x : Nat)
  | app (fz own : Bool) (ks : List K) (x y : Opd)
  | frz (x : Nat)
  | sto (n : Nat) (x v : Opd)
  | take (x : Nat)
  | nilO (ks : List K)
  | call (own : Bool) (f : FuncId) (xs : List Opd)
  | callS (own : Bool) (f : FuncId) (xs : List Opd)
  | isnil (ne : Bool) (x : Opd)
  deriving Inhabited
structure ROp where
  dst : Option Nat
  op : EOp
  g : Option (Nat × Bool) := none
  unk : List Nat := []
  tch : Option (List Nat) := none
  kil : List Nat := []
  deriving Inhabited

def okPartsB (place : Nat → Option (Nat × Nat)) : List (Nat × Operand) → List (Nat × Nat × Opd) → Bool
  | [], [] => true
  | (i, X) :: Xs, (off, n, x) :: xs => place i == some (off, n) && matO X x && okPartsB place Xs xs
  | _, _ => false
theorem okPartsB_sound {place : Nat → Option (Nat × Nat)} : ∀ {Xs : List (Nat × Operand)} {xs : List (Nat × Nat × Opd)}, okPartsB place Xs xs = true → OkParts place Xs xs
  | [], [], _ => trivial
  | [], _ :: _, h => by simp [okPartsB] at h
  | _ :: _, [], h => by simp [okPartsB] at h
  | (i, X) :: Xs, (off, n, x) :: xs, h => by
    simp only [okPartsB, Bool.and_eq_true, beq_iff_eq] at h
    exact ⟨h.1.1, h.1.2, okPartsB_sound h.2⟩

def matMks (P : Program) (ty : TypeId) (sz n : Nat) (parts : List (Nat × Operand)) (ps : List (Nat × Nat × Opd)) : Bool :=
  match P.underlying ty with
  | some (.slice e) => match P.info? e with
    | some ie => ie.size == sz && ie.zero.isSome && decide (n * ie.size ≤ 2 ^ 24) && okPartsB (fun i => some (i * ie.size, ie.size)) parts ps
    | none => false
  | _ => false
def matMk (P : Program) (ty : TypeId) (sz : Nat) (zero : T) : Bool :=
  match P.underlying ty with
  | some (.slice e) => match P.info? e with
    | some ie => ie.size == sz && decide (0 < sz) && decide (ie.bytes ≤ 131072) && zero.leaves.length == sz && (match ie.zero with | some z => z.cells.size == sz && matVs z.cells.toList zero.leaves | none => false)
    | none => false
  | _ => false
def matMksO (P : Program) (ty : TypeId) : Bool :=
  match P.underlying ty with
  | some (.slice e) => match P.info? e with
    | some ie => ie.size == 1 && (match ie.zero with | some z => z.cells.size == 1 | none => false)
    | none => false
  | _ => false
def matE (P : Program) (o : Oper) : EOp → Bool
  | .pure ao => mat P o ao
  | .alloc ks z => match o.op with
    | .alloc ty => z.solid && (match zeroOf P ty with | some zv => matZ ks z.leaves zv.cells.toList | none => false)
    | _ => false
  | .box x => match o.op with
    | .box _ X => matO X x
    | _ => false
  | .mk _ sz zero x y _ _ => match o.op with
    | .makeSlice ty X Y => matO X x && matO Y y && matMk P ty sz zero
    | _ => false
  | .mksO _ x => match o.op with
    | .buildSlice ty 1 parts => (match parts.toList with | [(0, .tmp y)] => y == x | _ => false) && matMksO P ty
    | _ => false
  | .app _ _ ks x y => match isApp o with
    | some (X, Y, t, tx) => matO X x && matO Y y && okApp P t tx ks.length
    | none => false
  | .frz x => match o.op with
    | .move (.tmp y) => x == y
    | .assign (.tmp y) => x == y
    | _ => false
  | .mks _ _ sz n ps => match o.op with
    | .buildSlice ty len parts => len == n && matMks P ty sz n parts.toList ps
    | _ => false
  | .sto n x v => match o.op with
    | .store ty X V => matO X x && matO V v && (match P.info? ty with | some it => it.size == n | none => false)
    | _ => false
  | .take x => match o.op with
    | .move (.tmp y) => x == y
    | .assign (.tmp y) => x == y
    | _ => false
  | .nilO _ => match o.op with
    | .move (.const (.slice none 0 0)) => true
    | .assign (.const (.slice none 0 0)) => true
    | _ => false
  | .call _ f xs => match isCall o with
    | some (f', Xs) => f == f' && isFn P f && matOs Xs xs
    | none => false

  | .callS _ f xs => match isCall o with
    | some (f', Xs) => f == f' && isFn P f && matOs Xs xs
    | none => false
  | .isnil ne x => match o.op with
    | .binOp op ty X (.const (.slice none 0 0)) _ => op == (if ne then .neq else .eql) && isSl? P ty && matO X x
    | _ => false

/-- Is what it writes settled? -/
def EOp.det : EOp → Bool
  | .isnil _ _ => false
  | _ => true
def W.okGd : W → Bool
  | .gd _ _ => false
  | .gone _ _ => false
  | _ => true
def W.okVal (x : W) : Bool := x.okGd && !x.isRoot
/-- A value under a guard. -/
def wrapG (guarded γ : Bool) (x : W) : W := if guarded then .gd γ x else x
/-- Makes it a new root? -/
def EOp.makes : EOp → Bool
  | .alloc _ _ => true
  | .box _ => true
  | .mks _ _ _ _ _ => true
  | .mk _ _ _ _ _ _ _ => true
  | .mksO _ _ => true
  | .app _ _ _ _ _ => true
  | .take _ => true
  | .nilO _ => true
  | .call own _ _ => own
  | .callS _ _ _ => true
  | _ => false
/-- Data at once? -/
def frzW (fz : Bool) (x : W) : W :=
  match fz, x with
  | true, .own _ t => .t t
  | _, x => x
/-- What the operation asks; what it writes goes to 'R'. -/
def effK (P : Program) (gd γ : Bool) (τ : Nat → W) (op : EOp) (dst : Option Nat) (R : List (Nat × W) → Prop) : Prop :=
  match op, dst with
  | .pure ao, some d => (γ = true → (pev γ τ ao).1) ∧ (pev γ τ ao).2.okVal = true ∧ R [(d, wrapG gd γ (pev γ τ ao).2)]
  | .alloc ks z, some d => R [(d, wrapG gd γ (.own (.box ks) z))]
  | .box x, some d => (γ = true → (evT γ τ x).1 ∧ (evT γ τ x).2.solid = true) ∧ R [(d, wrapG gd γ (.own (.box (shs (evT γ τ x).2.leaves.length)) (evT γ τ x).2))]
  | .mks fz ag sz n ps, some d => gd = false ∧ (mksW τ ag sz n ps).1 ∧ R [(d, frzW fz (mksW τ ag sz n ps).2)]
  | .mk fz sz zero x y k k', some d => gd = false ∧ (mkW τ sz zero x y k k').1 ∧ R [(d, frzW fz (mkW τ sz zero x y k k').2)]
  | .mksO ks x, some d => gd = false ∧ x ≠ d ∧ (rootAt true τ x).1 ∧ (rootAt true τ x).2.1 = .sl ks ∧ (rootAt true τ x).2.2.isAny = false ∧ R [(x, .dead), (d, .own (.sl [.sl ks]) (.sl 1 [(rootAt true τ x).2.2]))]
  | .app fz own ks x y, some d => gd = false ∧ (fz = true → (K.sl ks).plain = true) ∧ (appW τ d ks own x y).1 ∧ R (((appW τ d ks own x y).2.1.map fun s => (s, W.dead)) ++ [(d, frzW fz (.own (.sl ks) (.sl ks.length (appW τ d ks own x y).2.2)))])
  | .frz x, some d => gd = false ∧ x ≠ d ∧ (rootAt true τ x).1 ∧ (rootAt true τ x).2.1.plain = true ∧ R [(x, .t (rootAt true τ x).2.2), (d, .t (rootAt true τ x).2.2)]
  | .sto n x v, none => gd = false ∧ (stoW τ n x v).1 ∧ R [((stoW τ n x v).2.1, (stoW τ n x v).2.2)]
  | .take x, some d => gd = false ∧ x ≠ d ∧ (rootAt true τ x).1 ∧ R [(x, .ref d []), (d, .own (rootAt true τ x).2.1 (rootAt true τ x).2.2)]
  | .nilO ks, some d => gd = false ∧ R [(d, .own (.sl ks) (.sl ks.length []))]
  | .call own f xs, some d => ∃ k t, (γ = true → (evTs γ τ xs).1 ∧ ACalls P f (evTs γ τ xs).2 k t) ∧ (own = false → k.plain = true) ∧ R [(d, wrapG gd γ (if own then .own k t else .t t))]
  | .callS own f xs, some d => ∃ k t, (γ = true → (evSs γ τ xs).1 ∧ ACalls P f (evSs γ τ xs).2 k t) ∧ K.flat k t ∧ (own = false → k.plain = true) ∧ R [(d, wrapG gd γ (if own then .own k t else .t t))]
  | .isnil ne x, some d => gd = false ∧ (evT true τ x).1 ∧ (∃ z xs, (evT true τ x).2 = .sl z xs) ∧ ∀ b : Bool, ((evT true τ x).2.elems ≠ [] → b = false) → R [(d, .t (.bool (if ne then !b else b)))]
  | _, _ => False

section
variable {P : Program} {w0 : World} {I : Nat → Prop} {N : Nat} {σ τ : Nat → W} {fp : Nat → List Nat} {a : Act} {w : World}
theorem plain_shs (n : Nat) : (K.sl (shs n)).plain = true := by
  have : ∀ n, K.plains (shs n) = true := by
    intro n
    induction n with
    | zero => rfl
    | succ n ih => simp only [shs, List.replicate_succ, K.plains, Bool.and_eq_true]; exact ⟨rfl, ih⟩
  exact this n
theorem names_gd (d : Nat) (g : Bool) (x : W) : (W.gd g x).names d = x.names d := by simp [W.names]
/-- Under a guard that holds. -/
theorem Rel.wrap {d : Nat} {x : W} (h : Rel w0 I N (upd σ d x) fp a w) (hx : x.okGd = true) : Rel w0 I N (upd σ d (.gd true x)) fp a w := by
  have hroot : ∀ {r k t}, Root (upd σ d (.gd true x)) r k t → Root (upd σ d x) r k t := by
    intro r k t hr
    by_cases e : r = d
    · subst e
      cases hr with
      | own e => rw [upd_same] at e; cases e
      | gd e => rw [upd_same] at e; injection e with _ e; exact .own (by rw [upd_same]; exact e)
    · cases hr with
      | own e' => rw [upd_ne _ _ _ e] at e'; exact .own (by rw [upd_ne _ _ _ e]; exact e')
      | gd e' => rw [upd_ne _ _ _ e] at e'; exact .gd (by rw [upd_ne _ _ _ e]; exact e')
  have hstay : ∀ r, Stay w (upd σ d x) (Act.at a) w (upd σ d (.gd true x)) (Act.at a) r := fun r k t hr => ⟨t, hroot hr, fun p hp _ => ⟨hp, rfl⟩⟩
  refine h.next h.size h.defers rfl rfl rfl (Nat.le_refl _) (fun b hb => ⟨hb, rfl⟩) ?_ h.nodup h.disj h.there
  intro s
  by_cases e : s = d
  · subst e
    refine .inr ?_
    have h1 := h.slots s
    rw [upd_same] at h1 ⊢
    have h2 := WW.stay (fun b hb => ⟨hb, rfl⟩) (fun _ _ => rfl) x _ (fun r _ => hstay r) h1
    refine ⟨fun e => (by cases e), fun _ => ?_⟩
    cases x with
    | gd g y => simp [W.okGd] at hx
    | gone g => simp [W.okGd] at hx
    | own k t => exact h2
    | agg ws => exact h2
    | _ => exact h2
  · exact .inl ⟨by rw [upd_ne _ _ _ e, upd_ne _ _ _ e], rfl, rfl, fun _ _ => rfl, fun r _ => hstay r⟩
/-- Not done, under a guard that fails. -/
theorem Rel.unwanted (h : Rel w0 I N σ fp a w) {d : Nat} (hd : d < N) (x : W) (hno : (W.gd false x).isRoot = false ∨ NoName σ d) :
    Rel w0 I N (upd σ d (.gd false x)) (upd fp d []) (a.put (some d) undef) w := by
  refine h.put hd _ _ _ (Ext.refl w) ⟨fun _ => ⟨rfl, rfl⟩, fun e => by cases e⟩ List.nodup_nil (by simp) hno

/-- One operation. -/
theorem eff_sound (h : Rel w0 I N σ fp a w) (hs : Sub τ σ) {o : Oper} {op : EOp} (hm : matE P o op = true) (hd : ∀ d, o.dst = some d → d < N) {gd γ : Bool} (hgd : gd = false → γ = true) {R : List (Nat × W) → Prop}
    (he : effK P gd γ τ op o.dst R) (hfree : op.makes = true → ∀ d, o.dst = some d → NoName σ d) :
    ∃ wr, R wr ∧ ∀ (K : Act → World → Prop) (Q : Exit → Act → World → Prop), (∀ fp' a' w', Rel w0 I N (sets σ wr) fp' a' w' → K a' w') → if γ then o.wp P a w K Q else K (a.put o.dst undef) w := by
  have fin : ∀ {d : Nat} {x : W}, o.dst = some d → x.okGd = true → (γ = true → Does P w0 I N o a w (upd σ d x)) → ((W.gd false x).isRoot = false ∨ NoName σ d) → R [(d, wrapG gd γ x)] →
      ∃ wr, R wr ∧ ∀ (K : Act → World → Prop) (Q : Exit → Act → World → Prop), (∀ fp' a' w', Rel w0 I N (sets σ wr) fp' a' w' → K a' w') → if γ then o.wp P a w K Q else K (a.put o.dst undef) w := by
    intro d x hdst hok hdo hno hR
    refine ⟨_, hR, fun K Q hK => ?_⟩
    simp only [sets] at hK
    cases γ with
    | false =>
      simp only [Bool.false_eq_true, if_false]
      have hg : gd = true := by cases gd <;> simp_all
      subst hg
      simp only [wrapG, if_true] at hK
      rw [hdst]
      exact hK _ _ _ (h.unwanted (hd d hdst) x hno)
    | true =>
      simp only [if_true]
      refine hdo rfl K Q (fun fp' a' w' hr => hK fp' a' w' ?_)
      cases gd with
      | false => exact hr
      | true => exact hr.wrap hok
  cases op with
  | pure ao =>
    cases hdst : o.dst with
    | none => rw [hdst] at he; exact he.elim
    | some d =>
      rw [hdst] at he
      simp only [effK] at he
      obtain ⟨h1, h2, h3⟩ := he
      rw [← hdst]
      simp only [W.okVal, Bool.and_eq_true, Bool.not_eq_true'] at h2
      refine fin hdst h2.1 (fun hγ => by subst hγ; exact pure_does h hs o hdst (hd d hdst) ao hm (h1 rfl)) (.inl ?_) h3
      have h4 := h2.2
      generalize (pev γ τ ao).2 = x at h4 ⊢
      cases x <;> first | rfl | simp [W.isRoot] at h4
  | alloc ks z =>
    cases hdst : o.dst with
    | none => rw [hdst] at he; exact he.elim
    | some d =>
      rw [hdst] at he
      simp only [effK] at he
      rw [← hdst]
      simp only [matE] at hm
      split at hm
      · rename_i ty ho
        simp only [Bool.and_eq_true] at hm
        obtain ⟨h1, h2⟩ := hm
        split at h2
        · rename_i zv hz
          have hn := hfree rfl d hdst
          exact fin hdst rfl (fun _ => alloc_does h o hdst (hd d hdst) hn ho hz h1 h2) (.inr hn) he
        · cases h2
      · cases hm
  | box x =>
    cases hdst : o.dst with
    | none => rw [hdst] at he; exact he.elim
    | some d =>
      rw [hdst] at he
      simp only [effK] at he
      rw [← hdst]
      simp only [matE] at hm
      split at hm
      · rename_i ty X ho
        have hn := hfree rfl d hdst
        exact fin hdst rfl (fun hγ => by subst hγ; exact box_does h hs o hdst (hd d hdst) hn ho hm (he.1 rfl).1 (he.1 rfl).2) (.inr hn) he.2
      · cases hm
  | mks fz ag sz n ps =>
    cases hdst : o.dst with
    | none => rw [hdst] at he; exact he.elim
    | some d =>
      rw [hdst] at he
      simp only [effK] at he
      rw [← hdst]
      obtain ⟨e1, e2, e3⟩ := he
      subst e1
      obtain rfl := hgd rfl
      simp only [matE] at hm
      split at hm
      · rename_i ty len parts ho
        simp only [Bool.and_eq_true, beq_iff_eq] at hm
        obtain ⟨rfl, hm⟩ := hm
        unfold matMks at hm
        split at hm
        · rename_i e hu
          split at hm
          · rename_i ie hie
            simp only [Bool.and_eq_true, beq_iff_eq, decide_eq_true_eq] at hm
            obtain ⟨⟨⟨rfl, m2⟩, m3⟩, m4⟩ := hm
            obtain ⟨z, hz⟩ := Option.isSome_iff_exists.1 m2
            have hn := hfree rfl d hdst
            have hdo := mks_does h hs o hdst (hd d hdst) hn ho hu hie hz (by omega) (okPartsB_sound m4) e2
            have hok : ∃ ts, (mksW τ ag ie.size len ps).2 = .own (.sl (shs ie.size)) (.sl ie.size (rowT ag ie.size len ts)) := by
              unfold mksW at e2 ⊢
              simp only at e2 ⊢
              split at e2
              · exact ⟨_, rfl⟩
              · exact e2.elim
            obtain ⟨ts, hok⟩ := hok
            rw [hok] at hdo e3
            cases fz with
            | false => exact fin hdst rfl (fun _ => hdo) (.inr hn) e3
            | true => exact fin hdst rfl (fun _ => hdo.freeze (plain_shs _)) (.inr hn) e3
          · cases hm
        · cases hm
      · cases hm
  | mk fz sz zero x y k k' =>
    cases hdst : o.dst with
    | none => rw [hdst] at he; exact he.elim
    | some d =>
      rw [hdst] at he
      simp only [effK] at he
      rw [← hdst]
      obtain ⟨e1, e2, e3⟩ := he
      subst e1
      obtain rfl := hgd rfl
      simp only [matE] at hm
      split at hm
      · rename_i ty X Y ho
        simp only [Bool.and_eq_true] at hm
        obtain ⟨⟨m1, m2⟩, hm⟩ := hm
        unfold matMk at hm
        split at hm
        · rename_i e hu
          split at hm
          · rename_i ie hie
            simp only [Bool.and_eq_true, beq_iff_eq, decide_eq_true_eq] at hm
            obtain ⟨⟨⟨⟨k1, k2⟩, k3⟩, k4⟩, k5⟩ := hm
            split at k5
            · rename_i z hz
              simp only [Bool.and_eq_true, beq_iff_eq] at k5
              have hn := hfree rfl d hdst
              have hdo := mk_does h hs o hdst (hd d hdst) hn ho m1 m2 hu hie hz k3 k1 k5.1 k2 k4 k5.2 e2
              cases fz with
              | false => exact fin hdst rfl (fun _ => hdo) (.inr hn) e3
              | true => exact fin (x := .t _) hdst rfl (fun _ => hdo.freeze (plain_shs _)) (.inr hn) e3
            · cases k5
          · cases hm
        · cases hm
      · cases hm
  | mksO ks x =>
    cases hdst : o.dst with
    | none => rw [hdst] at he; exact he.elim
    | some d =>
      rw [hdst] at he
      simp only [effK] at he
      obtain ⟨e1, e2, e3, e4, e5, e6⟩ := he
      subst e1
      obtain rfl := hgd rfl
      simp only [matE] at hm
      split at hm
      · rename_i ty parts ho
        simp only [Bool.and_eq_true] at hm
        obtain ⟨m1, hm⟩ := hm
        split at m1
        · rename_i y hp
          simp only [beq_iff_eq] at m1
          subst m1
          unfold matMksO at hm
          split at hm
          · rename_i e hu
            split at hm
            · rename_i ie hie
              simp only [Bool.and_eq_true, beq_iff_eq] at hm
              obtain ⟨k1, k2⟩ := hm
              split at k2
              · rename_i z hz
                simp only [beq_iff_eq] at k2
                refine ⟨_, e6, fun K Q hK => ?_⟩
                simp only [if_true]
                exact mksO_does h hs o hdst (hd d hdst) e2 (hfree rfl d hdst) ho (Array.toList_inj.1 hp) hu hie hz k1 k2 e3 e4 e5 K Q hK
              · cases k2
            · cases hm
          · cases hm
        · cases m1
      · cases hm
  | app fz own ks x y =>
    cases hdst : o.dst with
    | none => rw [hdst] at he; exact he.elim
    | some d =>
      rw [hdst] at he
      simp only [effK] at he
      obtain ⟨e1, e2, e3, e4⟩ := he
      subst e1
      obtain rfl := hgd rfl
      simp only [matE] at hm
      split at hm
      · rename_i X Y t tx ho
        simp only [Bool.and_eq_true] at hm
        obtain ⟨⟨m1, m2⟩, m3⟩ := hm
        have hdo := app_does h hs o hdst (hd d hdst) (hfree rfl d hdst) ho m3 m1 m2 e3
        unfold appWr at hdo
        refine ⟨_, e4, fun K Q hK => ?_⟩
        simp only [if_true]
        cases fz with
        | false => exact hdo K Q hK
        | true =>
          rw [sets_append] at hdo
          simp only [sets] at hdo
          refine hdo.freeze (e2 rfl) K Q (fun fp' a' w' hr => hK fp' a' w' ?_)
          rw [sets_append]
          exact hr
      · cases hm
  | frz x =>
    cases hdst : o.dst with
    | none => rw [hdst] at he; exact he.elim
    | some d =>
      rw [hdst] at he
      simp only [effK] at he
      obtain ⟨e1, e2, e3, e4, e5⟩ := he
      subst e1
      obtain rfl := hgd rfl
      have ho : o.op = .move (.tmp x) ∨ o.op = .assign (.tmp x) := by
        simp only [matE] at hm
        split at hm
        · rename_i y ho; simp at hm; subst hm; exact .inl ho
        · rename_i y ho; simp at hm; subst hm; exact .inr ho
        · cases hm
      refine ⟨_, e5, fun K Q hK => ?_⟩
      simp only [if_true]
      exact frz_does h hs o hdst (hd d hdst) ho e3 e4 K Q hK
  | sto n x v =>
    cases hdst : o.dst with
    | some d => rw [hdst] at he; exact he.elim
    | none =>
      rw [hdst] at he
      simp only [effK] at he
      obtain ⟨e1, e2, e3⟩ := he
      subst e1
      obtain rfl := hgd rfl
      simp only [matE] at hm
      split at hm
      · rename_i ty X V ho
        simp only [Bool.and_eq_true] at hm
        obtain ⟨⟨m1, m2⟩, m3⟩ := hm
        split at m3
        · rename_i it hi
          refine ⟨_, e3, fun K Q hK => ?_⟩
          simp only [if_true]
          exact sto_does h hs o hdst ho m1 m2 hi (by simpa using m3) e2 K Q hK
        · cases m3
      · cases hm
  | take x =>
    cases hdst : o.dst with
    | none => rw [hdst] at he; exact he.elim
    | some d =>
      rw [hdst] at he
      simp only [effK] at he
      obtain ⟨e1, e2, e3, e4⟩ := he
      subst e1
      obtain rfl := hgd rfl
      have ho : o.op = .move (.tmp x) ∨ o.op = .assign (.tmp x) := by
        simp only [matE] at hm
        split at hm
        · rename_i y ho; simp at hm; subst hm; exact .inl ho
        · rename_i y ho; simp at hm; subst hm; exact .inr ho
        · cases hm
      refine ⟨_, e4, fun K Q hK => ?_⟩
      simp only [if_true]
      exact take_does h hs o hdst (hd d hdst) e2 (hfree rfl d hdst) ho e3 K Q hK
  | nilO ks =>
    cases hdst : o.dst with
    | none => rw [hdst] at he; exact he.elim
    | some d =>
      rw [hdst] at he
      simp only [effK] at he
      obtain ⟨e1, e4⟩ := he
      subst e1
      obtain rfl := hgd rfl
      have ho : o.op = .move (.const (.slice none 0 0)) ∨ o.op = .assign (.const (.slice none 0 0)) := by
        simp only [matE] at hm
        split at hm
        · rename_i ho; exact .inl ho
        · rename_i ho; exact .inr ho
        · cases hm
      refine ⟨_, e4, fun K Q hK => ?_⟩
      simp only [if_true]
      exact nilOwn_does h o hdst (hd d hdst) (hfree rfl d hdst) ho ks K Q hK
  | call own f xs =>
    cases hdst : o.dst with
    | none => rw [hdst] at he; exact he.elim
    | some d =>
      rw [hdst] at he
      simp only [effK] at he
      obtain ⟨k, t, e1, e2, e3⟩ := he
      rw [← hdst]
      simp only [matE] at hm
      split at hm
      · rename_i f' Xs ho
        simp only [Bool.and_eq_true, beq_iff_eq] at hm
        obtain ⟨⟨rfl, m2⟩, m3⟩ := hm
        cases own with
        | true =>
          have hn := hfree rfl d hdst
          exact fin hdst rfl (fun hγ => by subst hγ; exact call_does h hs o hdst (hd d hdst) hn ho m2 m3 (e1 rfl).1 (e1 rfl).2) (.inr hn) e3
        | false =>
          exact fin hdst rfl (fun hγ => by subst hγ; exact callSh_does h hs o hdst (hd d hdst) ho m2 m3 (e1 rfl).1 (e2 rfl) (e1 rfl).2) (.inl rfl) e3
      · cases hm
  | callS own f xs =>
    cases hdst : o.dst with
    | none => rw [hdst] at he; exact he.elim
    | some d =>
      rw [hdst] at he
      simp only [effK] at he
      obtain ⟨k, t, e1, e2, e3, e4⟩ := he
      rw [← hdst]
      simp only [matE] at hm
      split at hm
      · rename_i f' Xs ho
        simp only [Bool.and_eq_true, beq_iff_eq] at hm
        obtain ⟨⟨rfl, m2⟩, m3⟩ := hm
        have hn := hfree rfl d hdst
        have hdo : γ = true → Does P w0 I N o a w (upd σ d (.own k t)) := fun hγ => by
          subst hγ; exact callS_does h hs o hdst (hd d hdst) hn ho m2 m3 (e1 rfl).1 e2 (e1 rfl).2
        cases own with
        | true => exact fin hdst rfl hdo (.inr hn) e4
        | false => exact fin (x := .t t) hdst rfl (fun hγ => (hdo hγ).freeze (e3 rfl)) (.inr hn) e4
      · cases hm
  | isnil ne x =>
    cases hdst : o.dst with
    | none => rw [hdst] at he; exact he.elim
    | some d =>
      rw [hdst] at he
      simp only [effK] at he
      obtain ⟨e1, e2, e3, e4⟩ := he
      subst e1
      obtain rfl := hgd rfl
      simp only [matE] at hm
      split at hm
      · rename_i op ty X yt ho
        simp only [Bool.and_eq_true, beq_iff_eq] at hm
        obtain ⟨⟨rfl, m2⟩, m3⟩ := hm
        obtain ⟨b, h1, h2⟩ := isnil_does h hs o hdst (hd d hdst) ho m2 m3 e2 e3
        refine ⟨_, e4 b h1, fun K Q hK => ?_⟩
        simp only [if_true]
        exact h2 K Q hK
      · cases hm
end
/-! ### What is forgotten -/
section
variable {w0 : World} {I : Nat → Prop} {N : Nat} {σ τ : Nat → W} {fp : Nat → List Nat} {a : Act} {w : World}
theorem Rel.forget (h : Rel w0 I N σ fp a w) (hs : Sub τ σ) : ∃ fp', Rel w0 I N τ fp' a w := by
  classical
  let fp' : Nat → List Nat := fun s => if τ s = σ s then fp s else []
  have hin : ∀ s b, b ∈ fp' s → τ s = σ s ∧ b ∈ fp s := by
    intro s b hb
    by_cases e : τ s = σ s
    · simp only [fp', e, if_true] at hb; exact ⟨e, hb⟩
    · simp only [fp', e, if_false] at hb; cases hb
  have hfree : ∀ b, Free w fp b → Free w fp' b ∧ w.heap[b]? = w.heap[b]? := fun b hb => ⟨⟨hb.1, fun s h1 => hb.2 s (hin s b h1).2⟩, rfl⟩
  have hstay : ∀ r, Stay w σ (Act.at a) w τ (Act.at a) r := by
    intro r k t hr
    refine ⟨t, ?_, fun p hp _ => ⟨hp, rfl⟩⟩
    rcases hs r with e | e
    · have := hr.isRoot; rw [e] at this; cases this
    · cases hr with
      | own e' => exact .own (e ▸ e')
      | gd e' => exact .gd (e ▸ e')
  refine ⟨fp', h.next h.size h.defers rfl rfl rfl (Nat.le_refl _) hfree ?_ ?_ ?_ ?_⟩
  · intro s
    by_cases e : τ s = σ s
    · refine .inl ⟨e, by simp [fp', e], rfl, fun _ _ => rfl, fun r _ => hstay r⟩
    · refine .inr ?_
      have e' : τ s = .dead := (hs s).resolve_right e
      have e2 : fp' s = [] := by simp only [fp', e, if_false]
      rw [e', e2]
      exact ⟨rfl, trivial⟩
  · intro s
    by_cases e : τ s = σ s
    · simp only [fp', e, if_true]; exact h.nodup s
    · simp only [fp', e, if_false]; exact List.nodup_nil
  · intro s s' b hb hb'
    exact h.disj s s' b (hin s b hb).2 (hin s' b hb').2
  · intro s b hb
    exact h.there s b (hin s b hb).2
end
end Go.Proofs.Ytaefhdklkbohmaa
/- Regions in the order of the text. Generic. -/
namespace Go.Proofs.Ytaefhdklkbohmaa
open Go Go.RowKit

def Env.del (d : Nat) : Env → Env
  | [] => []
  | (s, x) :: σ => if s = d then σ else (s, x) :: Env.del d σ
def Env.set (σ : Env) (d : Nat) (x : W) : Env := (d, x) :: σ.del d
def Env.sets (σ : Env) : List (Nat × W) → Env
  | [] => σ
  | (d, x) :: wr => Env.sets (σ.set d x) wr
/-- No slot but this one names it. -/
def Env.free (d : Nat) : Env → Bool
  | [] => true
  | (s, x) :: σ => (s == d || !x.names d) && Env.free d σ
/-- Without what names it. -/
def Env.purge (d : Nat) : Env → Env
  | [] => []
  | (s, x) :: σ => (s, bif s == d || !x.names d then x else .dead) :: Env.purge d σ
def Env.below (n : Nat) : Env → Bool
  | [] => true
  | (s, _) :: σ => decide (s < n) && Env.below n σ
theorem Env.get_del (σ : Env) (d s : Nat) (h : s ≠ d) : (Env.del d σ).get s = σ.get s := by
  induction σ with
  | nil => rfl
  | cons x σ ih =>
    obtain ⟨r, x⟩ := x
    simp only [Env.del, Env.get]
    split
    · rename_i e; subst e; rw [if_neg h]
    · simp only [Env.get, ih]
theorem Env.get_set (σ : Env) (d : Nat) (x : W) : (σ.set d x).get = upd σ.get d x := by
  funext s
  simp only [Env.set, Env.get, upd]
  split
  · rfl
  · rename_i h; exact Env.get_del σ d s h
theorem Env.below_del {n : Nat} {σ : Env} (d : Nat) (h : σ.below n = true) : (Env.del d σ).below n = true := by
  induction σ with
  | nil => rfl
  | cons x σ ih =>
    obtain ⟨r, x⟩ := x
    simp only [Env.below, Bool.and_eq_true] at h
    simp only [Env.del]
    split
    · exact h.2
    · simp only [Env.below, Bool.and_eq_true]; exact ⟨h.1, ih h.2⟩
theorem Env.below_get {n : Nat} {σ : Env} (h : σ.below n = true) {s : Nat} (hs : n ≤ s) : σ.get s = .dead := by
  induction σ with
  | nil => rfl
  | cons x σ ih =>
    obtain ⟨r, x⟩ := x
    simp only [Env.below, Bool.and_eq_true, decide_eq_true_eq] at h
    simp only [Env.get]
    rw [if_neg (by omega)]
    exact ih h.2
theorem Env.free_sound {d : Nat} {σ : Env} (h : σ.free d = true) : NoName σ.get d := by
  induction σ with
  | nil => intro s _; rfl
  | cons x σ ih =>
    obtain ⟨r, x⟩ := x
    simp only [Env.free, Bool.and_eq_true, Bool.or_eq_true, beq_iff_eq, Bool.not_eq_true'] at h
    intro s hs
    simp only [Env.get]
    split
    · rename_i e; subst e
      exact h.1.resolve_left hs
    · exact ih h.2 s hs

theorem Env.purge_free (d : Nat) : ∀ (σ : Env), (σ.purge d).free d = true
  | [] => rfl
  | (s, x) :: σ => by
    simp only [Env.purge]
    cases h : (s == d || !x.names d) with
    | true => simp only [cond_true, Env.free, h, Env.purge_free d σ, Bool.and_self]
    | false => simp [cond_false, Env.free, W.names, Env.purge_free d σ]
theorem Env.purge_below {n : Nat} (d : Nat) : ∀ {σ : Env}, σ.below n = true → (σ.purge d).below n = true
  | [], _ => rfl
  | (s, x) :: σ, h => by
    simp only [Env.below, Bool.and_eq_true] at h
    simp only [Env.purge, Env.below, Bool.and_eq_true]
    exact ⟨h.1, Env.purge_below d h.2⟩
theorem Env.purge_get (d : Nat) : ∀ (σ : Env) (s : Nat), (σ.purge d).get s = .dead ∨ (σ.purge d).get s = σ.get s
  | [], _ => .inl rfl
  | (r, x) :: σ, s => by
    simp only [Env.purge, Env.get]
    split
    · cases (r == d || !x.names d) with
      | true => exact .inr rfl
      | false => exact .inl rfl
    · exact Env.purge_get d σ s

structure Ctx where
  w0 : World
  I : Nat → Prop
  N : Nat
  h : Nat → Option Obj
  G : List Nat
def sig (C : Ctx) (σ : Env) : Nat → W := upd σ.get C.N (.gone C.h C.G)
/-- The state is told by 'σ'. -/
def St (C : Ctx) (σ : Env) (a : Act) (w : World) : Prop := σ.below C.N = true ∧ ∃ fp, Rel C.w0 C.I C.N (sig C σ) fp a w

theorem sig_sub (C : Ctx) {σ : Env} (h : σ.below C.N = true) : Sub σ.get (sig C σ) := by
  intro s
  by_cases e : s = C.N
  · subst e; exact .inl (Env.below_get h (Nat.le_refl _))
  · exact .inr (upd_ne _ _ _ e).symm
theorem sig_free (C : Ctx) {σ : Env} {d : Nat} (h : σ.free d = true) : NoName (sig C σ) d := by
  intro s hs
  by_cases e : s = C.N
  · subst e; simp [sig, upd_same, W.names]
  · simp only [sig, upd_ne _ _ _ e]; exact Env.free_sound h s hs
theorem sig_sets (C : Ctx) : ∀ (wr : List (Nat × W)) {σ : Env}, σ.below C.N = true → (wr.all fun x => decide (x.1 < C.N)) = true → (σ.sets wr).below C.N = true ∧ sets (sig C σ) wr = sig C (σ.sets wr)
  | [], σ, h, _ => ⟨h, rfl⟩
  | (d, x) :: wr, σ, h, hw => by
    simp only [List.all_cons, Bool.and_eq_true, decide_eq_true_eq] at hw
    have h1 : (σ.set d x).below C.N = true := by
      simp only [Env.set, Env.below, Bool.and_eq_true, decide_eq_true_eq]
      exact ⟨hw.1, Env.below_del d h⟩
    have h2 : upd (sig C σ) d x = sig C (σ.set d x) := by
      funext s
      simp only [sig, Env.get_set, upd]
      split
      · rename_i e; subst e; rw [if_neg (by omega)]
      · split <;> rfl
    obtain ⟨h3, h4⟩ := sig_sets C wr h1 hw.2
    exact ⟨h3, by simp only [sets, Env.sets, h2]; exact h4⟩

/-- A guard: the condition under which it can be told; whether it holds. -/
def gval (τ : Nat → W) : Option (Nat × Bool) → Prop × Bool
  | none => (True, true)
  | some (s, want) => match τ s with
    | .t t => (t.isBool, t.toBool == want)
    | .gd g (.t t) => (t.isBool, g && (t.toBool == want))
    | _ => (False, false)

def matG (ops : Array Oper) (o : Oper) (g : Option (Nat × Bool)) : Bool :=
  match o.guard, g with
  | none, none => true
  | some (j, want), some (s, want') => want == want' && ((ops[j]?).bind (·.dst)) == some s
  | _, _ => false
def matR (P : Program) (N : Nat) (ops : Array Oper) (o : Oper) (ro : ROp) : Bool :=
  matE P o ro.op && o.dst == ro.dst && (match ro.dst with | some d => decide (d < N) | none => true) && matG ops o ro.g
def matRs (P : Program) (N : Nat) (ops : Array Oper) : List Oper → List ROp → Bool
  | [], [] => true
  | o :: os, r :: rs => matR P N ops o r && matRs P N ops os rs
  | _, _ => false

/-- Where a root is made: without what names it. -/
def Env.fresh (σ : Env) (o : ROp) : Env := bif o.op.makes then (match o.dst with | some d => σ.purge d | none => σ) else σ
theorem Env.fresh_free (σ : Env) (o : ROp) (hm : o.op.makes = true) {d : Nat} (hd : o.dst = some d) : (σ.fresh o).free d = true := by
  simp only [Env.fresh, hm, hd, cond_true]
  exact Env.purge_free d σ
theorem Env.fresh_below {n : Nat} {σ : Env} (o : ROp) (h : σ.below n = true) : (σ.fresh o).below n = true := by
  unfold Env.fresh
  cases o.op.makes with
  | false => exact h
  | true =>
    cases o.dst with
    | none => exact h
    | some d => exact Env.purge_below d h
theorem Env.fresh_get (σ : Env) (o : ROp) (s : Nat) : (σ.fresh o).get s = .dead ∨ (σ.fresh o).get s = σ.get s := by
  unfold Env.fresh
  cases o.op.makes with
  | false => exact .inr rfl
  | true =>
    cases o.dst with
    | none => exact .inr rfl
    | some d => exact Env.purge_get d σ s
theorem sig_sub_of (C : Ctx) {σ τ : Env} (h : ∀ s, τ.get s = .dead ∨ τ.get s = σ.get s) : Sub (sig C τ) (sig C σ) := by
  intro s
  by_cases e : s = C.N
  · subst e; exact .inr (by simp only [sig, upd_same])
  · simp only [sig, upd_ne _ _ _ e]; exact h s
/-- What a region asks, operation by operation. -/
def vcR (P : Program) (N : Nat) : Env → List ROp → (Env → Prop) → Prop
  | σ, [], K => K σ
  | σ, o :: os, K => (gval (σ.fresh o).get o.g).1 ∧ effK P o.g.isSome (gval (σ.fresh o).get o.g).2 (σ.fresh o).get o.op o.dst fun wr => (wr.all fun x => decide (x.1 < N)) = true ∧ vcR P N ((σ.fresh o).sets wr) os K

section
variable {P : Program} {w0 : World} {I : Nat → Prop} {N : Nat} {σ τ : Nat → W} {fp : Nat → List Nat} {a : Act} {w : World}
theorem gval_sound (h : Rel w0 I N σ fp a w) (hs : Sub τ σ) {ops : Array Oper} {o : Oper} {g : Option (Nat × Bool)} (hm : matG ops o g = true) (hc : (gval τ g).1) :
    Region.wanted o (yielded ops a.tmps) = (gval τ g).2 := by
  unfold matG at hm
  split at hm
  · rename_i e1
    simp [Region.wanted, e1, gval]
  · rename_i j want s want' e1
    simp only [Bool.and_eq_true, beq_iff_eq] at hm
    obtain ⟨rfl, hd⟩ := hm
    have hat : Act.at a s = (a.tmps[s]?).getD undef := by simp [Act.at]
    have key : ∀ b, Act.at a s = .bool b → yielded ops a.tmps j = some b := by
      intro b hb
      rw [hat] at hb
      unfold yielded
      rw [hd]
      simp only [Option.bind_some]
      cases hq : a.tmps[s]? with
      | none => rw [hq] at hb; simp [undef] at hb
      | some v => rw [hq] at hb; simp only [Option.getD_some] at hb; subst hb; rfl
    have key2 : Act.at a s = undef → yielded ops a.tmps j = none := by
      intro hb
      rw [hat] at hb
      unfold yielded
      rw [hd]
      simp only [Option.bind_some]
      cases hq : a.tmps[s]? with
      | none => rfl
      | some v => rw [hq] at hb; simp only [Option.getD_some] at hb; subst hb; rfl
    simp only [Region.wanted, e1]
    simp only [gval] at hc ⊢
    have h1 := h.slots s
    rcases hs s with e | e
    · rw [e] at hc; exact hc.elim
    · rw [e] at hc ⊢
      generalize σ s = x at hc h1 ⊢
      cases x with
      | t t =>
        simp only at hc ⊢
        have := RT_bool h1.2 hc
        rw [key _ this]; rfl
      | gd g' y =>
        cases y with
        | t t =>
          simp only at hc ⊢
          cases g' with
          | true =>
            have := RT_bool (h1.2 rfl).2 hc
            rw [key _ this]; rfl
          | false =>
            rw [key2 (h1.1 rfl).2]; rfl
        | _ => exact hc.elim
      | _ => exact hc.elim
  · cases hm

theorem effK_mono {gd γ : Bool} {op : EOp} {dst : Option Nat} {R R' : List (Nat × W) → Prop} (hR : ∀ wr, R wr → R' wr) (h : effK P gd γ τ op dst R) : effK P gd γ τ op dst R' := by
  cases op <;> cases dst <;> simp only [effK] at h ⊢
  case pure.some => exact ⟨h.1, h.2.1, hR _ h.2.2⟩
  case alloc.some => exact hR _ h
  case box.some => exact ⟨h.1, hR _ h.2⟩
  case mks.some => exact ⟨h.1, h.2.1, hR _ h.2.2⟩
  case mk.some => exact ⟨h.1, h.2.1, hR _ h.2.2⟩
  case mksO.some => exact ⟨h.1, h.2.1, h.2.2.1, h.2.2.2.1, h.2.2.2.2.1, hR _ h.2.2.2.2.2⟩
  case app.some => exact ⟨h.1, h.2.1, h.2.2.1, hR _ h.2.2.2⟩
  case frz.some => exact ⟨h.1, h.2.1, h.2.2.1, h.2.2.2.1, hR _ h.2.2.2.2⟩
  case sto.none => exact ⟨h.1, h.2.1, hR _ h.2.2⟩
  case take.some => exact ⟨h.1, h.2.1, h.2.2.1, hR _ h.2.2.2⟩
  case nilO.some => exact ⟨h.1, hR _ h.2⟩
  case isnil.some => exact ⟨h.1, h.2.1, h.2.2.1, fun b hb => hR _ (h.2.2.2 b hb)⟩
  case callS.some => obtain ⟨k, t, h1, h2, h3, h4⟩ := h; exact ⟨k, t, h1, h2, h3, hR _ h4⟩
  case call.some => obtain ⟨k, t, h1, h2, h3⟩ := h; exact ⟨k, t, h1, h2, hR _ h3⟩

theorem vcR_sound (C : Ctx) {ops : Array Oper} {Q : Exit → Act → World → Prop} {K : Env → Prop} (hK : ∀ σ a w, K σ → St C σ a w → Q .normal a w) :
    ∀ (os : List Oper) (rs : List ROp) (σ : Env) (a : Act) (w : World), matRs P C.N ops os rs = true → St C σ a w → vcR P C.N σ rs K → wpList P ops Q os a w
  | [], [], σ, a, w, _, hS, h => hK σ a w h hS
  | [], _ :: _, _, _, _, hm, _, _ => by simp [matRs] at hm
  | _ :: _, [], _, _, _, hm, _, _ => by simp [matRs] at hm
  | o :: os, r :: rs, σ, a, w, hm, hS, h => by
    simp only [matRs, matR, Bool.and_eq_true, beq_iff_eq] at hm
    obtain ⟨⟨⟨⟨m1, m2⟩, m3⟩, m4⟩, m5⟩ := hm
    obtain ⟨hb, fp, hR⟩ := hS
    obtain ⟨fp, hR⟩ := hR.forget (sig_sub_of C (σ.fresh_get r))
    have hb := Env.fresh_below r hb
    obtain ⟨h1, h3⟩ := h
    have h2 := @Env.fresh_free σ r
    generalize σ.fresh r = σ at *
    rw [← m2] at h3
    have hsub := sig_sub C hb
    obtain ⟨wr, e1, e2⟩ := eff_sound (gd := r.g.isSome) (γ := (gval σ.get r.g).2) hR hsub m1 (fun d hd => by rw [← m2, hd] at m3; simpa using m3) (fun hg => by
      cases hg' : r.g with
      | none => rfl
      | some x => rw [hg'] at hg; cases hg) h3 (fun hmk d hd => by
        exact sig_free C (h2 hmk (by rw [← m2]; exact hd)))
    obtain ⟨e3, e4⟩ := e1
    obtain ⟨s1, s2⟩ := sig_sets C wr hb e3
    have hw := gval_sound hR hsub m4 h1
    unfold wpList
    rw [hw]
    have := e2 (wpList P ops Q os) Q (fun fp' a' w' hr => vcR_sound C hK os rs _ a' w' m5 ⟨s1, fp', by rw [← s2]; exact hr⟩ e4)
    cases hγ : (gval σ.get r.g).2 with
    | true => rw [hγ] at this; simp only [if_true] at this ⊢; exact .inl this
    | false => rw [hγ] at this; simpa using this
end
end Go.Proofs.Ytaefhdklkbohmaa
/- Regions that draw their order: what commutes. Generic. -/
namespace Go.Proofs.Ytaefhdklkbohmaa
open Go Go.RowKit

def keys (wr : List (Nat × W)) : List Nat := wr.map Prod.fst
theorem sets_ne : ∀ (wr : List (Nat × W)) (σ : Nat → W) {s : Nat}, s ∉ keys wr → sets σ wr s = σ s
  | [], _, _, _ => rfl
  | (d, x) :: wr, σ, s, h => by
    simp only [keys, List.map_cons, List.mem_cons, not_or] at h
    simp only [sets]
    rw [sets_ne wr _ h.2, upd_ne _ _ _ h.1]
theorem sets_congr : ∀ (wr : List (Nat × W)) (σ σ' : Nat → W) {s : Nat}, (s ∈ keys wr ∨ σ s = σ' s) → sets σ wr s = sets σ' wr s
  | [], _, _, _, h => by simpa [keys, sets] using h
  | (d, x) :: wr, σ, σ', s, h => by
    simp only [sets]
    refine sets_congr wr _ _ ?_
    by_cases e : s = d
    · subst e; right; rw [upd_same, upd_same]
    · rcases h with h | h
      · simp only [keys, List.map_cons, List.mem_cons] at h
        exact .inl (h.resolve_left e)
      · right; rw [upd_ne _ _ _ e, upd_ne _ _ _ e, h]
theorem sets_from : ∀ (wr : List (Nat × W)) (σ : Nat → W) (s : Nat), sets σ wr s = σ s ∨ ∃ x, (s, x) ∈ wr ∧ sets σ wr s = x
  | [], _, _ => .inl rfl
  | (d, x) :: wr, σ, s => by
    simp only [sets]
    rcases sets_from wr (upd σ d x) s with h | ⟨y, h1, h2⟩
    · by_cases e : s = d
      · subst e; rw [upd_same] at h; exact .inr ⟨x, by simp, h⟩
      · rw [upd_ne _ _ _ e] at h; exact .inl h
    · exact .inr ⟨y, by simp [h1], h2⟩

/-- The writes of those operations that are done, in the order of the text. -/
def fold (p : Nat → Bool) : Nat → List (List (Nat × W)) → (Nat → W) → Nat → W
  | _, [], σ => σ
  | k, wr :: ws, σ => fold p (k + 1) ws (if p k then sets σ wr else σ)
theorem fold_eq (p q : Nat → Bool) (s : Nat) : ∀ (ws : List (List (Nat × W))) (k : Nat) (σ σ' : Nat → W), (∀ j wr, ws[j]? = some wr → s ∈ keys wr → p (k + j) = q (k + j)) → σ s = σ' s → fold p k ws σ s = fold q k ws σ' s
  | [], _, _, _, _, h => h
  | wr :: ws, k, σ, σ', hpq, h => by
    simp only [fold]
    refine fold_eq p q s ws (k + 1) _ _ (fun j wr' hj hs => ?_) ?_
    · have := hpq (j + 1) wr' (by simpa using hj) hs
      rwa [Nat.add_right_comm]
    · by_cases hs : s ∈ keys wr
      · have := hpq 0 wr (by simp) hs
        simp only [Nat.add_zero] at this
        rw [← this]
        split
        · exact sets_congr wr _ _ (.inl hs)
        · exact h
      · have h1 : (if p k then sets σ wr else σ) s = σ s := by split <;> simp [sets_ne wr _ hs]
        have h2 : (if q k then sets σ' wr else σ') s = σ' s := by split <;> simp [sets_ne wr _ hs]
        rw [h1, h2, h]
theorem fold_last (p : Nat → Bool) (s : Nat) {wri : List (Nat × W)} (hs : s ∈ keys wri) (ρ : Nat → W) : ∀ (ws : List (List (Nat × W))) (k i : Nat) (σ : Nat → W), ws[i]? = some wri → p (k + i) = true →
    (∀ j wr, ws[j]? = some wr → i < j → p (k + j) = true → s ∉ keys wr) → fold p k ws σ s = sets ρ wri s
  | [], _, _, _, h, _, _ => by simp at h
  | wr :: ws, k, 0, σ, h, hp, hj => by
    simp only [List.getElem?_cons_zero, Option.some.injEq] at h
    subst h
    simp only [fold, Nat.add_zero] at hp ⊢
    rw [hp]
    simp only [if_true]
    have : fold p (k + 1) ws (sets σ wr) s = fold (fun _ => false) (k + 1) ws (sets ρ wr) s := by
      refine fold_eq _ _ s ws (k + 1) _ _ (fun j wr' hj' hs' => ?_) (sets_congr wr _ _ (.inl hs))
      have := hj (j + 1) wr' (by simpa using hj') (by omega)
      cases hpj : p (k + 1 + j) with
      | false => rfl
      | true => exact absurd hs' (this (by rw [← hpj]; congr 1; omega))
    rw [this]
    have hno : ∀ (ws : List (List (Nat × W))) (k : Nat) (σ : Nat → W), fold (fun _ => false) k ws σ = σ := by
      intro ws
      induction ws with
      | nil => intro k σ; rfl
      | cons w ws ih => intro k σ; simp only [fold, Bool.false_eq_true, if_false]; exact ih _ _
    rw [hno]
  | wr :: ws, k, i + 1, σ, h, hp, hj => by
    simp only [fold]
    refine fold_last p s hs ρ ws (k + 1) i _ (by simpa using h) (by rw [← hp]; congr 1; omega) (fun j wr' hj' hij hpj => hj (j + 1) wr' (by simpa using hj') (by omega) (by rw [← hpj]; congr 1; omega))
theorem fold_from (p : Nat → Bool) (s : Nat) : ∀ (ws : List (List (Nat × W))) (k : Nat) (σ : Nat → W), fold p k ws σ s = σ s ∨ ∃ j wr x, ws[j]? = some wr ∧ p (k + j) = true ∧ (s, x) ∈ wr ∧ fold p k ws σ s = x
  | [], _, _ => .inl rfl
  | wr :: ws, k, σ => by
    simp only [fold]
    rcases fold_from p s ws (k + 1) (if p k then sets σ wr else σ) with h | ⟨j, wr', x, h1, h2, h3, h4⟩
    · cases hp : p k with
      | false => simp only [hp, Bool.false_eq_true, if_false] at h; exact .inl (by simpa using h)
      | true =>
        simp only [hp, if_true] at h
        rcases sets_from wr σ s with g | ⟨x, g1, g2⟩
        · exact .inl (by simp only [if_true]; rw [h, g])
        · exact .inr ⟨0, wr, x, by simp, by simpa using hp, g1, by simp only [if_true]; rw [h, g2]⟩
    · exact .inr ⟨j + 1, wr', x, by simpa using h1, by rw [← h2]; congr 1; omega, h3, h4⟩
end Go.Proofs.Ytaefhdklkbohmaa
/- Regions that draw their order: the order that binds. Generic. -/
namespace Go.Proofs.Ytaefhdklkbohmaa
open Go Go.RowKit

def isBind (e : Edge) : Bool := Region.binds .any e
/-- The operations that come before, of each operation: as bits. -/
def bef1 (acc : List Nat) : List Edge → Nat → Nat
  | [], m => m
  | e :: es, m => bef1 acc es (if isBind e then m ||| 2 ^ e.on ||| acc.getD e.on 0 else m)
def befs (acc : List Nat) : List Oper → List Nat
  | [] => acc
  | o :: os => befs (acc ++ [bef1 acc o.after.toList 0]) os
/-- Edges lead back. -/
def backB : Nat → List Oper → Bool
  | _, [] => true
  | k, o :: os => (o.after.toList.all fun e => !isBind e || decide (e.on < k)) && backB (k + 1) os

/-- Done: with each operation those that it waits for. -/
def Closed (ops : List Oper) (D : Nat → Bool) : Prop := ∀ i o, ops[i]? = some o → D i = true → ∀ e ∈ o.after.toList, isBind e = true → D e.on = true
/-- All that the operation waits for is done. -/
def Waits (o : Oper) (D : Nat → Bool) : Prop := ∀ e ∈ o.after.toList, isBind e = true → D e.on = true

theorem bef1_bits (ops : List Oper) (D : Nat → Bool) (acc : List Nat) (hacc : ∀ i, D i = true → ∀ j, (acc.getD i 0).testBit j = true → D j = true) :
    ∀ (es : List Edge) (m : Nat), (∀ e ∈ es, isBind e = true → D e.on = true) → (∀ j, m.testBit j = true → D j = true) → ∀ j, (bef1 acc es m).testBit j = true → D j = true
  | [], m, _, hm, j, h => hm j h
  | e :: es, m, he, hm, j, h => by
    simp only [bef1] at h
    refine bef1_bits ops D acc hacc es _ (fun e' he' => he e' (by simp [he'])) ?_ j h
    intro j' hj'
    by_cases hb : isBind e = true
    · simp only [hb, if_true, Nat.testBit_or, Bool.or_eq_true] at hj'
      have hd := he e (by simp) hb
      rcases hj' with (h1 | h1) | h1
      · exact hm j' h1
      · rw [Nat.testBit_two_pow] at h1
        simp at h1
        rw [← h1]; exact hd
      · exact hacc e.on hd j' h1
    · simp only [hb] at hj'
      exact hm j' hj'
theorem befs_sound : ∀ (os : List Oper) (pre : List Oper) (acc : List Nat) (D : Nat → Bool), acc.length = pre.length → Closed (pre ++ os) D →
    (∀ i o, pre[i]? = some o → Waits o D → ∀ j, (acc.getD i 0).testBit j = true → D j = true) →
    ∀ i o, (pre ++ os)[i]? = some o → Waits o D → ∀ j, ((befs acc os).getD i 0).testBit j = true → D j = true
  | [], pre, acc, D, hl, hc, h, i, o, ho, hw, j, hj => h i o (by simpa using ho) hw j (by simpa [befs] using hj)
  | o' :: os, pre, acc, D, hl, hc, h, i, o, ho, hw, j, hj => by
    simp only [befs] at hj
    have hc' : Closed ((pre ++ [o']) ++ os) D := by simpa using hc
    refine befs_sound os (pre ++ [o']) (acc ++ [bef1 acc o'.after.toList 0]) D (by simp [hl]) hc' ?_ i o (by simpa using ho) hw j hj
    intro i' o'' ho'' hw' j' hj'
    rcases Nat.lt_trichotomy i' pre.length with hlt | heq | hgt
    · rw [List.getElem?_append_left hlt] at ho''
      rw [List.getD_eq_getElem?_getD, List.getElem?_append_left (by omega), ← List.getD_eq_getElem?_getD] at hj'
      exact h i' o'' ho'' hw' j' hj'
    · subst heq
      rw [List.getElem?_append_right (Nat.le_refl _)] at ho''
      simp at ho''
      subst ho''
      rw [List.getD_eq_getElem?_getD, List.getElem?_append_right (by omega)] at hj'
      simp [hl] at hj'
      refine bef1_bits (pre ++ o' :: os) D acc (fun k hk j hj => ?_) o'.after.toList 0 hw' (by simp) j' hj'
      rcases Nat.lt_or_ge k pre.length with h1 | h1
      · obtain ⟨ok, hok⟩ : ∃ ok, pre[k]? = some ok := ⟨pre[k], by simp [h1]⟩
        refine h k ok hok ?_ j hj
        intro e he hb
        exact hc k ok (by rw [List.getElem?_append_left h1]; exact hok) hk e he hb
      · rw [List.getD_eq_getElem?_getD, List.getElem?_eq_none (by omega)] at hj
        simp at hj
    · rw [List.getElem?_append_right (by omega)] at ho''
      rw [List.getElem?_eq_none (by simp; omega)] at ho''
      cases ho''
end Go.Proofs.Ytaefhdklkbohmaa
/- Regions that draw their order: every order leads to the same state. Generic. -/
namespace Go.Proofs.Ytaefhdklkbohmaa
open Go Go.RowKit

def ordB (B : List Nat) (i j : Nat) : Bool := (B.getD i 0).testBit j || (B.getD j 0).testBit i
def pairOk (ri rj : ROp) : Bool :=
  match ri.tch, rj.tch with
  | some a, some b => a.all (rj.unk.contains ·) && b.all (ri.unk.contains ·) && a.all fun s => !b.contains s
  | _, _ => false
def matD (ops : List Oper) (rs : List ROp) : Bool :=
  backB 0 ops && rs.all (·.op.det) && (List.range rs.length).all fun i => (List.range i).all fun j => ordB (befs [] ops) i j || pairOk (rs.getD i default) (rs.getD j default)

theorem backB_sound : ∀ (os : List Oper) (k i : Nat) (o : Oper), backB k os = true → os[i]? = some o → ∀ e ∈ o.after.toList, isBind e = true → e.on < k + i
  | [], _, _, _, _, h, _, _, _ => by simp at h
  | o' :: os, k, 0, o, hb, h, e, he, hbi => by
    simp only [List.getElem?_cons_zero, Option.some.injEq] at h
    subst h
    simp only [backB, Bool.and_eq_true, List.all_eq_true] at hb
    have := hb.1 e he
    simpa [hbi] using this
  | o' :: os, k, i + 1, o, hb, h, e, he, hbi => by
    simp only [backB, Bool.and_eq_true] at hb
    have := backB_sound os (k + 1) i o hb.2 (by simpa using h) e he hbi
    omega
/-- Two operations that no order binds. -/
theorem matD_pair {ops : List Oper} {rs : List ROp} (hm : matD ops rs = true) {i j : Nat} {ri rj : ROp} (hi : rs[i]? = some ri) (hj : rs[j]? = some rj) (hij : i ≠ j) (ho : ordB (befs [] ops) i j = false) :
    ∃ a b, ri.tch = some a ∧ rj.tch = some b ∧ (∀ s ∈ a, s ∈ rj.unk) ∧ (∀ s ∈ b, s ∈ ri.unk) ∧ (∀ s ∈ a, s ∉ b) := by
  have key : ∀ {i j : Nat} {ri rj : ROp}, rs[i]? = some ri → rs[j]? = some rj → j < i → ordB (befs [] ops) i j = false →
      ∃ a b, ri.tch = some a ∧ rj.tch = some b ∧ (∀ s ∈ a, s ∈ rj.unk) ∧ (∀ s ∈ b, s ∈ ri.unk) ∧ (∀ s ∈ a, s ∉ b) := by
    intro i j ri rj hi hj hlt ho
    simp only [matD, Bool.and_eq_true, List.all_eq_true, List.mem_range] at hm
    have h1 := hm.2 i (List.getElem?_eq_some_iff.1 hi).1 j hlt
    rw [ho, Bool.false_or, List.getD_eq_getElem?_getD, List.getD_eq_getElem?_getD, hi, hj] at h1
    simp only [Option.getD_some] at h1
    unfold pairOk at h1
    split at h1
    · rename_i a b e1 e2
      simp only [Bool.and_eq_true, List.all_eq_true, List.contains_iff_mem, Bool.not_eq_true'] at h1
      exact ⟨a, b, e1, e2, h1.1.1, h1.1.2, fun s hs hb => by have := h1.2 s hs; simp [hb] at this⟩
    · cases h1
  rcases Nat.lt_or_gt_of_ne hij with h | h
  · obtain ⟨a, b, e1, e2, e3, e4, e5⟩ := key hj hi h (by rw [← ho]; simp only [ordB, Bool.or_comm])
    exact ⟨b, a, e2, e1, e4, e3, fun s hs hb => e5 s hb hs⟩
  · exact key hi hj h ho

theorem cnt_set : ∀ (l : List Bool) (i : Nat), l[i]? = some false → (l.set i true).countP (!·) + 1 = l.countP (!·)
  | [], i, h => by simp at h
  | b :: l, 0, h => by
    simp only [List.getElem?_cons_zero, Option.some.injEq] at h
    subst h
    simp
  | b :: l, i + 1, h => by
    have := cnt_set l i (by simpa using h)
    simp only [List.set_cons_succ, List.countP_cons]
    omega

section
variable {P : Program} {w0 : World} {I : Nat → Prop} {N : Nat} {σ0 : Nat → W}
/-- What the operation forgets first. -/
def kilW (r : ROp) : List (Nat × W) := r.kil.map fun s => (s, W.dead)
theorem sets_forget : ∀ (l : List Nat) (σ : Nat → W) (s : Nat), sets σ (l.map fun s => (s, W.dead)) s = if s ∈ l then .dead else σ s
  | [], σ, s => by simp [sets]
  | d :: l, σ, s => by
    simp only [List.map_cons, sets]
    rw [sets_forget l]
    by_cases e : s = d
    · subst e; simp [upd_same]
    · rw [upd_ne _ _ _ e]; simp [e]
theorem kilW_sub (r : ROp) (σ : Nat → W) : Sub (sets σ (kilW r)) σ := by
  intro s
  rw [kilW, sets_forget]
  split
  · exact .inl rfl
  · exact .inr rfl
/-- What is known of an operation, whatever was done before it. -/
def Good (P : Program) (σ0 : Nat → W) (ws : List (List (Nat × W))) (i : Nat) (r : ROp) (wr : List (Nat × W)) : Prop :=
  ∃ (τ : Nat → W) (wr0 : List (Nat × W)), wr = kilW r ++ wr0 ∧ (∀ s, τ s = .dead ∨ (s ∉ r.unk ∧ s ∉ r.kil ∧ τ s = fold (fun j => decide (j < i)) 0 ws σ0 s)) ∧ (gval τ r.g).1 ∧ effK P r.g.isSome (gval τ r.g).2 τ r.op r.dst (fun x => x = wr0) ∧
    ∀ l, r.tch = some l → (∀ s ∈ keys wr, s ∈ l) ∧ ∀ d, r.dst = some d → d ∈ l
theorem matRs_at {N : Nat} {all : Array Oper} : ∀ {os : List Oper} {rs : List ROp}, matRs P N all os rs = true → rs.length = os.length ∧ ∀ (i : Nat) (o : Oper) (r : ROp), os[i]? = some o → rs[i]? = some r → matR P N all o r = true
  | [], [], _ => ⟨rfl, fun i o r h => by simp at h⟩
  | [], _ :: _, h => by simp [matRs] at h
  | _ :: _, [], h => by simp [matRs] at h
  | o :: os, r :: rs, h => by
    simp only [matRs, Bool.and_eq_true] at h
    obtain ⟨h1, h2⟩ := matRs_at h.2
    refine ⟨by simp [h1], fun i o' r' ho hr => ?_⟩
    cases i with
    | zero => simp at ho hr; subst ho; subst hr; exact h.1
    | succ i => exact h2 i o' r' (by simpa using ho) (by simpa using hr)

theorem draws_sound {ops : Array Oper} {rs : List ROp} {ws : List (List (Nat × W))} {Q : Exit → Act → World → Prop} (hm : matRs P N ops ops.toList rs = true) (hD : matD ops.toList rs = true) (hwl : ws.length = rs.length)
    (hgood : ∀ (i : Nat) (r : ROp) (wr : List (Nat × W)), rs[i]? = some r → ws[i]? = some wr → Good P σ0 ws i r wr)
    (hNN : ∀ (i j : Nat) (ri rj : ROp) (wrj : List (Nat × W)) (d s : Nat) (x : W), i ≠ j → rs[i]? = some ri → rs[j]? = some rj → ws[j]? = some wrj → ri.op.makes = true → ri.dst = some d → (s, x) ∈ wrj → x.names d = true → (i < j ∧ d ∉ rj.unk) ∨ s ∈ ri.kil)
    (h0 : ∀ (i : Nat) (r : ROp) (d : Nat), rs[i]? = some r → r.op.makes = true → r.dst = some d → NoName σ0 d)
    (hQ : ∀ fp a w, Rel w0 I N (fold (fun _ => true) 0 ws σ0) fp a w → Q .normal a w) :
    ∀ (fuel : Nat) (listed : Array Bool) (a : Act) (w : World) (fp : Nat → List Nat), listed.size = ops.size → listed.toList.countP (!·) ≤ fuel → Closed ops.toList (fun i => listed.getD i false) →
      Rel w0 I N (fold (fun i => listed.getD i false) 0 ws σ0) fp a w → wpAny P .any ops Q fuel listed a w := by
  obtain ⟨hrl, hmat⟩ := matRs_at hm
  have hback := backB_sound ops.toList 0
  have hb : backB 0 ops.toList = true := by simp only [matD, Bool.and_eq_true] at hD; exact hD.1.1
  -- nothing ready: all is done
  have done : ∀ (listed : Array Bool), listed.size = ops.size → Region.ready .any ops listed = [] → ∀ i, i < ops.size → listed.getD i false = true := by
    intro listed hsz hr i
    induction i using Nat.strongRecOn with
    | _ i ih =>
      intro hi
      cases hd : listed.getD i false with
      | true => rfl
      | false =>
        have : i ∈ Region.ready .any ops listed := by
          rw [mem_ready]
          have hil : i < listed.size := by omega
          refine ⟨by simpa [hil] using hd, ops[i], by simp [hi], fun e he hbe => ?_⟩
          have := hback i ops[i] hb (by simp [hi]) e (by simpa using he) hbe
          exact ih e.on (by omega) (by omega)
        rw [hr] at this
        cases this
  have allQ : ∀ (listed : Array Bool) (a : Act) (w : World) (fp : Nat → List Nat), listed.size = ops.size → Rel w0 I N (fold (fun i => listed.getD i false) 0 ws σ0) fp a w → Region.ready .any ops listed = [] → Q .normal a w := by
    intro listed a w fp hsz hR hr
    refine hQ fp a w ?_
    have : fold (fun _ => true) 0 ws σ0 = fold (fun i => listed.getD i false) 0 ws σ0 := by
      funext s
      refine fold_eq _ _ s ws 0 _ _ (fun j wr hj _ => ?_) rfl
      have : j < ws.length := (List.getElem?_eq_some_iff.1 hj).1
      simp only [Nat.zero_add]
      exact (done listed hsz hr j (by rw [← Array.length_toList]; omega)).symm
    rw [this]; exact hR
  intro fuel
  induction fuel with
  | zero =>
    intro listed a w fp hsz hcnt hcl hR
    have hr : Region.ready .any ops listed = [] := by
      cases hq : Region.ready .any ops listed with
      | nil => rfl
      | cons i l =>
        have hi : i ∈ Region.ready .any ops listed := by rw [hq]; simp
        rw [mem_ready] at hi
        obtain ⟨h1, o, ho, _⟩ := hi
        have hlt : i < listed.size := by have := (Array.getElem?_eq_some_iff.1 ho).1; omega
        have h2 : listed.toList.countP (!·) = 0 := by omega
        rw [List.countP_eq_zero] at h2
        have := h2 listed[i] (by simp)
        simp [hlt] at h1
        simp [h1] at this
    exact ⟨hr, allQ listed a w fp hsz hR hr⟩
  | succ fuel ih =>
    intro listed a w fp hsz hcnt hcl hR
    refine ⟨allQ listed a w fp hsz hR, fun i hi => ?_⟩
    rw [mem_ready] at hi
    obtain ⟨h1, o, ho, hwait⟩ := hi
    have hil : i < ops.size := (Array.getElem?_eq_some_iff.1 ho).1
    have hil' : i < listed.size := by omega
    have hDi : listed.getD i false = false := by simp [hil'] at h1 ⊢; exact h1
    have ho' : ops.toList[i]? = some o := by simpa using ho
    obtain ⟨r, hr⟩ : ∃ r, rs[i]? = some r := ⟨rs[i]'(by simp at hrl; omega), by simp⟩
    obtain ⟨wr, hwr⟩ : ∃ wr, ws[i]? = some wr := ⟨ws[i]'(by simp at hrl; omega), by simp⟩
    have hmi := hmat i o r ho' hr
    simp only [matR, Bool.and_eq_true, beq_iff_eq] at hmi
    obtain ⟨⟨⟨m1, m2⟩, m3⟩, m4⟩ := hmi
    have hw' : Waits o (fun i => listed.getD i false) := fun e he hbe => hwait e (by simpa using he) hbe
    -- which operations are done
    have hbefore : ∀ j, ((befs [] ops.toList).getD i 0).testBit j = true → listed.getD j false = true := fun j hj =>
      befs_sound ops.toList [] [] _ rfl hcl (fun i o h => by simp at h) i o ho' hw' j hj
    have hafter : ∀ j, j < ops.size → ((befs [] ops.toList).getD j 0).testBit i = true → listed.getD j false = false := by
      intro j hj hji
      cases hd : listed.getD j false with
      | false => rfl
      | true =>
        have hoj : ops.toList[j]? = some ops[j] := by simp [hj]
        have := befs_sound ops.toList [] [] _ rfl hcl (fun i o h => by simp at h) j ops[j] hoj (fun e he hbe => hcl j _ hoj hd e he hbe) i hji
        rw [hDi] at this; cases this
    obtain ⟨τ, wr0, hw0, t1, t2, t3, t4⟩ := hgood i r wr hr hwr
    -- who writes a slot that is known
    have hpair : ∀ j wrj, ws[j]? = some wrj → j ≠ i → ordB (befs [] ops.toList) i j = false → ∃ l, r.tch = some l ∧ (∀ s ∈ l, s ∉ keys wrj) ∧ ∀ s ∈ keys wrj, s ∈ r.unk := by
      intro j wrj hj hji hno
      have hjl : j < ws.length := (List.getElem?_eq_some_iff.1 hj).1
      obtain ⟨rj, hrj⟩ : ∃ r, rs[j]? = some r := ⟨rs[j]'(by omega), by simp⟩
      obtain ⟨l, l', e1, e2, e3, e4, e5⟩ := matD_pair hD hr hrj (Ne.symm hji) hno
      obtain ⟨_, _, _, _, _, _, g⟩ := hgood j rj wrj hrj hj
      exact ⟨l, e1, fun s hs hk => e5 s hs ((g l' e2).1 s hk), fun s hk => e4 s ((g l' e2).1 s hk)⟩
    have hpre : ∀ j wrj s, ws[j]? = some wrj → s ∈ keys wrj → s ∉ r.unk → decide (j < i) = listed.getD j false := by
      intro j wrj s hj hk hs
      have hjl : j < ops.size := by have := (List.getElem?_eq_some_iff.1 hj).1; simp at hrl; omega
      by_cases hji : j = i
      · subst hji; rw [hDi]; simp
      · cases hord : ordB (befs [] ops.toList) i j with
        | false =>
          obtain ⟨_, _, _, h4⟩ := hpair j wrj hj hji hord
          exact absurd (h4 s hk) hs
        | true =>
          simp only [ordB, Bool.or_eq_true] at hord
          rcases hord with h2 | h2
          · have hd := hbefore j h2
            rw [hd]
            simp only [decide_eq_true_eq]
            -- what comes before lies before in the text
            have := befs_sound ops.toList [] [] (fun k => decide (k < i)) rfl (fun k ok hok hk e he hbe => by
              have := hback k ok hb hok e he hbe
              simp at hk ⊢; omega) (fun i o h => by simp at h) i o ho' (fun e he hbe => by
              have := hback i o hb ho' e he hbe
              simp; omega) j h2
            simpa using this
          · rw [hafter j hjl h2]
            simp only [decide_eq_false_iff_not]
            have hoj : ops.toList[j]? = some ops[j] := by simp [hjl]
            have := befs_sound ops.toList [] [] (fun k => decide (k < j)) rfl (fun k ok hok hk e he hbe => by
              have := hback k ok hb hok e he hbe
              simp at hk ⊢; omega) (fun i o h => by simp at h) j ops[j] hoj (fun e he hbe => by
              have := hback j ops[j] hb hoj e he hbe
              simp; omega) i h2
            simp at this; omega
    obtain ⟨fp1, hR1⟩ := hR.forget (kilW_sub r _)
    have hsub : Sub τ (sets (fold (fun i => listed.getD i false) 0 ws σ0) (kilW r)) := by
      intro s
      rcases t1 s with h2 | ⟨h2, h2', h3⟩
      · exact .inl h2
      · right
        rw [h3, kilW, sets_forget, if_neg h2']
        exact fold_eq _ _ s ws 0 _ _ (fun j wrj hj hk => by simpa using hpre j wrj s hj hk h2) rfl
    have hnoname : r.op.makes = true → ∀ d, o.dst = some d → NoName (sets (fold (fun i => listed.getD i false) 0 ws σ0) (kilW r)) d := by
      intro hmk d hd s hsd
      have hrd : r.dst = some d := by rw [← m2]; exact hd
      rw [kilW, sets_forget]
      by_cases hsk : s ∈ r.kil
      · rw [if_pos hsk]; simp [W.names]
      rw [if_neg hsk]
      rcases fold_from (fun i => listed.getD i false) s ws 0 σ0 with h2 | ⟨j, wrj, x, g1, g2, g3, g4⟩
      · rw [h2]; exact h0 i r d hr hmk hrd s hsd
      · rw [g4]
        cases hx : x.names d with
        | false => rfl
        | true =>
          simp only [Nat.zero_add] at g2
          have hji : j ≠ i := fun e => by subst e; rw [hDi] at g2; cases g2
          have hjl : j < ops.size := by have := (List.getElem?_eq_some_iff.1 g1).1; simp at hrl; omega
          obtain ⟨rj, hrj⟩ : ∃ r, rs[j]? = some r := ⟨rs[j]'(by simp at hrl; omega), by simp⟩
          obtain ⟨k1, k2⟩ := (hNN i j r rj wrj d s x (Ne.symm hji) hr hrj g1 hmk hrd g3 hx).resolve_right hsk
          cases hord : ordB (befs [] ops.toList) i j with
          | false =>
            obtain ⟨l, l', e1, e2, e3, e4, e5⟩ := matD_pair hD hr hrj (Ne.symm hji) hord
            exact absurd (e3 d ((t4 l e1).2 d hrd)) k2
          | true =>
            simp only [ordB, Bool.or_eq_true] at hord
            rcases hord with h3 | h3
            · have := befs_sound ops.toList [] [] (fun k => decide (k < i)) rfl (fun k ok hok hk e he hbe => by
                have := hback k ok hb hok e he hbe
                simp at hk ⊢; omega) (fun i o h => by simp at h) i o ho' (fun e he hbe => by
                have := hback i o hb ho' e he hbe
                simp; omega) j h3
              simp at this; omega
            · rw [hafter j hjl h3] at g2; cases g2
    obtain ⟨wr', e1, e2⟩ := eff_sound (gd := r.g.isSome) (γ := (gval τ r.g).2) hR1 hsub m1 (fun d hd => by rw [← m2, hd] at m3; simpa using m3) (fun hg => by
      cases hg' : r.g with
      | none => rfl
      | some x => rw [hg'] at hg; cases hg) (by rw [m2]; exact t3) hnoname
    subst e1
    have hgv := gval_sound hR1 hsub m4 t2
    unfold wpOp
    simp only [ho]
    rw [hgv]
    have hstep : sets (fold (fun i => listed.getD i false) 0 ws σ0) wr = fold (fun k => (listed.setIfInBounds i true).getD k false) 0 ws σ0 := by
      funext s
      have hD' : ∀ k, (listed.setIfInBounds i true).getD k false = if k = i then true else listed.getD k false := by
        intro k
        by_cases e : k = i
        · subst e; simp [hil']
        · rw [if_neg e]; exact Go.getD_set_ne false (Ne.symm e)
      by_cases hs : s ∈ keys wr
      · symm
        refine fold_last _ s hs _ ws 0 i σ0 hwr (by simp only [Nat.zero_add]; rw [hD']; simp) (fun j wrj hj hij hdj hk => ?_)
        simp only [Nat.zero_add] at hdj
        rw [hD', if_neg (by omega)] at hdj
        have hjl : j < ops.size := by have := (List.getElem?_eq_some_iff.1 hj).1; simp at hrl; omega
        cases hord : ordB (befs [] ops.toList) i j with
        | false =>
          obtain ⟨l, g1, g2, _⟩ := hpair j wrj hj (by omega) hord
          exact g2 s ((t4 l g1).1 s hs) hk
        | true =>
          simp only [ordB, Bool.or_eq_true] at hord
          rcases hord with h3 | h3
          · have := befs_sound ops.toList [] [] (fun k => decide (k < i)) rfl (fun k ok hok hk e he hbe => by
              have := hback k ok hb hok e he hbe
              simp at hk ⊢; omega) (fun i o h => by simp at h) i o ho' (fun e he hbe => by
              have := hback i o hb ho' e he hbe
              simp; omega) j h3
            simp at this; omega
          · rw [hafter j hjl h3] at hdj; cases hdj
      · rw [sets_ne _ _ hs]
        refine fold_eq _ _ s ws 0 _ _ (fun j wrj hj hk => ?_) rfl
        simp only [Nat.zero_add]
        rw [hD', if_neg]
        intro e; subst e
        rw [hwr] at hj
        injection hj with hj
        subst hj
        exact hs hk
    have hnext : ∀ fp' a' w', Rel w0 I N (sets (sets (fold (fun i => listed.getD i false) 0 ws σ0) (kilW r)) wr') fp' a' w' → wpAny P .any ops Q fuel (listed.setIfInBounds i true) a' w' := by
      intro fp' a' w' hR'
      refine ih _ a' w' fp' (by simpa using hsz) ?_ ?_ (by rw [← hstep, hw0, sets_append]; exact hR')
      · have := cnt_set listed.toList i (by simp [hil'] at h1 ⊢; exact h1)
        rw [Array.toList_setIfInBounds]
        omega
      · intro k ok hok hk e he hbe
        show (listed.setIfInBounds i true).getD e.on false = true
        refine getD_set_true ?_
        by_cases eki : k = i
        · subst eki
          rw [ho'] at hok
          injection hok with hok
          subst hok
          exact hwait e (by simpa using he) hbe
        · have hk' : (listed.setIfInBounds i true).getD k false = true := hk
          rw [Go.getD_set_ne false (Ne.symm eki)] at hk'
          exact hcl k ok hok hk' e he hbe
    have := e2 (wpAny P .any ops Q fuel (listed.setIfInBounds i true)) Q hnext
    cases hγ : (gval τ r.g).2 with
    | true => rw [hγ] at this; simp only [if_true] at this ⊢; exact .inl this
    | false => rw [hγ] at this; simpa using this
end
end Go.Proofs.Ytaefhdklkbohmaa
/- Regions that draw their order: what they ask. Generic. -/
namespace Go.Proofs.Ytaefhdklkbohmaa
open Go Go.RowKit

def kill (σ : Nat → W) (l : List Nat) : Nat → W := fun s => if l.contains s then .dead else σ s
/-- The operations that make a root, and where. -/
def makers : Nat → List ROp → List (Nat × Nat × List Nat)
  | _, [] => []
  | k, o :: os => match o.op.makes, o.dst with
    | true, some d => (k, d, o.kil) :: makers (k + 1) os
    | _, _ => makers (k + 1) os
def tchB (o : ROp) (wr : List (Nat × W)) : Bool :=
  match o.tch with
  | none => true
  | some l => (wr.all fun x => l.contains x.1) && (match o.dst with | some d => l.contains d | none => true)
def nameB (M : List (Nat × Nat × List Nat)) (k : Nat) (o : ROp) (wr : List (Nat × W)) : Bool :=
  wr.all fun x => M.all fun m => m.1 == k || !x.2.names m.2.1 || (decide (m.1 < k) && !o.unk.contains m.2.1) || m.2.2.contains x.1
/-- What a region asks that draws its order: each operation sees only what it can count on. -/
def vcD (P : Program) (N : Nat) (M : List (Nat × Nat × List Nat)) : Nat → Env → List ROp → (Env → Prop) → Prop
  | _, σ, [], K => K σ
  | k, σ, o :: os, K => (gval (kill σ.get (o.kil ++ o.unk)) o.g).1 ∧ effK P o.g.isSome (gval (kill σ.get (o.kil ++ o.unk)) o.g).2 (kill σ.get (o.kil ++ o.unk)) o.op o.dst fun wr =>
      ((kilW o ++ wr).all fun x => decide (x.1 < N)) = true ∧ tchB o (kilW o ++ wr) = true ∧ nameB M k o (kilW o ++ wr) = true ∧ vcD P N M (k + 1) (σ.sets (kilW o ++ wr)) os K
/-- Without what names these. -/
def Env.purges : List (Nat × Nat × List Nat) → Env → Env
  | [], σ => σ
  | m :: M, σ => Env.purges M (σ.purge m.2.1)
def vcD0 (P : Program) (N : Nat) (σ : Env) (os : List ROp) (K : Env → Prop) : Prop :=
  vcD P N (makers 0 os) 0 (σ.purges (makers 0 os)) os K

theorem Env.purge_keeps (d e : Nat) : ∀ {σ : Env}, σ.free d = true → (σ.purge e).free d = true
  | [], _ => rfl
  | (s, x) :: σ, h => by
    simp only [Env.free, Bool.and_eq_true] at h
    simp only [Env.purge, Env.free, Bool.and_eq_true]
    refine ⟨?_, Env.purge_keeps d e h.2⟩
    cases (s == e || !x.names e) with
    | true => exact h.1
    | false => simp [W.names]
theorem Env.purges_keeps (d : Nat) : ∀ (M : List (Nat × Nat × List Nat)) {σ : Env}, σ.free d = true → (σ.purges M).free d = true
  | [], _, h => h
  | m :: M, _, h => Env.purges_keeps d M (Env.purge_keeps d m.2.1 h)
theorem Env.purges_free : ∀ (M : List (Nat × Nat × List Nat)) (σ : Env) (m : Nat × Nat × List Nat), m ∈ M → (σ.purges M).free m.2.1 = true
  | m' :: M, σ, m, h => by
    rcases List.mem_cons.1 h with rfl | h
    · exact Env.purges_keeps _ M (Env.purge_free _ σ)
    · exact Env.purges_free M _ m h
theorem Env.purges_below {n : Nat} : ∀ (M : List (Nat × Nat × List Nat)) {σ : Env}, σ.below n = true → (σ.purges M).below n = true
  | [], _, h => h
  | m :: M, _, h => Env.purges_below M (Env.purge_below _ h)
theorem Env.purges_get : ∀ (M : List (Nat × Nat × List Nat)) (σ : Env) (s : Nat), (σ.purges M).get s = .dead ∨ (σ.purges M).get s = σ.get s
  | [], _, _ => .inr rfl
  | m :: M, σ, s => by
    rcases Env.purges_get M (σ.purge m.2.1) s with h | h
    · exact .inl h
    · simp only [Env.purges]; rw [h]; exact Env.purge_get _ σ s

theorem makers_sound : ∀ (os : List ROp) (k i : Nat) (o : ROp) (d : Nat), os[i]? = some o → o.op.makes = true → o.dst = some d → (k + i, d, o.kil) ∈ makers k os
  | [], _, _, _, _, h, _, _ => by simp at h
  | o' :: os, k, 0, o, d, h, hm, hd => by
    simp only [List.getElem?_cons_zero, Option.some.injEq] at h
    subst h
    simp [makers, hm, hd]
  | o' :: os, k, i + 1, o, d, h, hm, hd => by
    have := makers_sound os (k + 1) i o d (by simpa using h) hm hd
    rw [show k + (i + 1) = k + 1 + i by omega]
    simp only [makers]
    split
    · exact List.mem_cons_of_mem _ this
    · exact this

def setsAll (σ : Env) : List (List (Nat × W)) → Env
  | [] => σ
  | wr :: ws => setsAll (σ.sets wr) ws
theorem effK_ex {P : Program} {gd γ : Bool} {τ : Nat → W} {op : EOp} {dst : Option Nat} {R : List (Nat × W) → Prop} (hdet : op.det = true) (h : effK P gd γ τ op dst R) : ∃ wr, R wr ∧ effK P gd γ τ op dst (fun x => x = wr) := by
  cases op <;> cases dst <;> simp only [effK] at h ⊢
  case pure.some => exact ⟨_, h.2.2, h.1, h.2.1, rfl⟩
  case alloc.some => exact ⟨_, h, rfl⟩
  case box.some => exact ⟨_, h.2, h.1, rfl⟩
  case mks.some => exact ⟨_, h.2.2, h.1, h.2.1, rfl⟩
  case mk.some => exact ⟨_, h.2.2, h.1, h.2.1, rfl⟩
  case mksO.some => exact ⟨_, h.2.2.2.2.2, h.1, h.2.1, h.2.2.1, h.2.2.2.1, h.2.2.2.2.1, rfl⟩
  case app.some => exact ⟨_, h.2.2.2, h.1, h.2.1, h.2.2.1, rfl⟩
  case frz.some => exact ⟨_, h.2.2.2.2, h.1, h.2.1, h.2.2.1, h.2.2.2.1, rfl⟩
  case sto.none => exact ⟨_, h.2.2, h.1, h.2.1, rfl⟩
  case take.some => exact ⟨_, h.2.2.2, h.1, h.2.1, h.2.2.1, rfl⟩
  case nilO.some => exact ⟨_, h.2, h.1, rfl⟩
  case callS.some => obtain ⟨k, t, h1, h2, h3, h4⟩ := h; exact ⟨_, h4, k, t, h1, h2, h3, rfl⟩
  case call.some => obtain ⟨k, t, h1, h2, h3⟩ := h; exact ⟨_, h3, k, t, h1, h2, rfl⟩
  case isnil.some => simp [EOp.det] at hdet
  all_goals exact h.elim

theorem vcD_all {P : Program} {N : Nat} {M : List (Nat × Nat × List Nat)} {K : Env → Prop} : ∀ (os : List ROp) (k : Nat) (σ : Env), os.all (·.op.det) = true → vcD P N M k σ os K →
    ∃ ws : List (List (Nat × W)), ws.length = os.length ∧ K (setsAll σ ws) ∧ ∀ (i : Nat) (r : ROp) (wr : List (Nat × W)), os[i]? = some r → ws[i]? = some wr →
      ∃ wr0, wr = kilW r ++ wr0 ∧ (gval (kill (setsAll σ (ws.take i)).get (r.kil ++ r.unk)) r.g).1 ∧ effK P r.g.isSome (gval (kill (setsAll σ (ws.take i)).get (r.kil ++ r.unk)) r.g).2 (kill (setsAll σ (ws.take i)).get (r.kil ++ r.unk)) r.op r.dst (fun x => x = wr0) ∧
      (wr.all fun x => decide (x.1 < N)) = true ∧ tchB r wr = true ∧ nameB M (k + i) r wr = true
  | [], k, σ, _, h => ⟨[], rfl, h, fun i r wr h => by simp at h⟩
  | o :: os, k, σ, hdet, h => by
    simp only [List.all_cons, Bool.and_eq_true] at hdet
    obtain ⟨h1, h2⟩ := h
    obtain ⟨wr, ⟨h3, h4, h5, h6⟩, h7⟩ := effK_ex hdet.1 h2
    obtain ⟨ws, e1, e2, e3⟩ := vcD_all os (k + 1) _ hdet.2 h6
    refine ⟨(kilW o ++ wr) :: ws, by simp [e1], e2, fun i r wr' hr hwr => ?_⟩
    cases i with
    | zero =>
      simp at hr hwr
      subst hr; subst hwr
      exact ⟨wr, rfl, h1, h7, h3, h4, h5⟩
    | succ i =>
      have := e3 i r wr' (by simpa using hr) (by simpa using hwr)
      rw [show k + (i + 1) = k + 1 + i by omega]
      exact this
theorem fold_take : ∀ (ws : List (List (Nat × W))) (k i : Nat) (f : Nat → W), fold (fun j => decide (j < k + i)) k ws f = (ws.take i).foldl sets f
  | [], _, _, _ => by simp [fold]
  | wr :: ws, k, 0, f => by
    have hno : ∀ (ws : List (List (Nat × W))) (k' : Nat) (σ : Nat → W), k ≤ k' → fold (fun j => decide (j < k + 0)) k' ws σ = σ := by
      intro ws
      induction ws with
      | nil => intro k' σ _; rfl
      | cons w ws ih =>
        intro k' σ hk
        have : decide (k' < k + 0) = false := by simp; omega
        simp only [fold, this, Bool.false_eq_true, if_false]
        exact ih _ _ (by omega)
    rw [hno _ _ _ (Nat.le_refl _)]
    simp
  | wr :: ws, k, i + 1, f => by
    have : decide (k < k + (i + 1)) = true := by simp
    simp only [fold, this, if_true, List.take_succ_cons, List.foldl_cons]
    rw [← fold_take ws (k + 1) i, show k + 1 + i = k + (i + 1) by omega]
theorem fold_all : ∀ (ws : List (List (Nat × W))) (k : Nat) (f : Nat → W), fold (fun _ => true) k ws f = ws.foldl sets f
  | [], _, _ => rfl
  | wr :: ws, k, f => by simp only [fold, if_true, List.foldl_cons]; exact fold_all ws _ _
theorem sig_setsAll (C : Ctx) : ∀ (ws : List (List (Nat × W))) {σ : Env}, σ.below C.N = true → (∀ wr ∈ ws, (wr.all fun x => decide (x.1 < C.N)) = true) → (setsAll σ ws).below C.N = true ∧ ws.foldl sets (sig C σ) = sig C (setsAll σ ws)
  | [], σ, h, _ => ⟨h, rfl⟩
  | wr :: ws, σ, h, hw => by
    obtain ⟨h1, h2⟩ := sig_sets C wr h (hw wr (by simp))
    obtain ⟨h3, h4⟩ := sig_setsAll C ws h1 (fun w hm => hw w (by simp [hm]))
    exact ⟨h3, by simp only [List.foldl_cons, h2]; exact h4⟩

theorem vcD_sound {P : Program} (C : Ctx) {id : Nat} {ops : Array Oper} {rs : List ROp} {Q : Exit → Act → World → Prop} {K : Env → Prop} (hmix : P.follows .mixedOrders = true) (hm : matRs P C.N ops ops.toList rs = true) (hD : matD ops.toList rs = true)
    (hK : ∀ σ a w, K σ → St C σ a w → Q .normal a w) {σ : Env} {a : Act} {w : World} (hS : St C σ a w) (h : vcD0 P C.N σ rs K) : (Code.region id ops true).wp P Q a w := by
  obtain ⟨hb, fp, hR⟩ := hS
  obtain ⟨fp, hR⟩ := hR.forget (sig_sub_of C (σ.purges_get (makers 0 rs)))
  have hb := Env.purges_below (makers 0 rs) hb
  have hfree := Env.purges_free (makers 0 rs) σ
  unfold vcD0 at h
  generalize σ.purges (makers 0 rs) = σ at *
  obtain ⟨ws, e1, e2, e3⟩ := vcD_all rs 0 σ (by simp only [matD, Bool.and_eq_true] at hD; exact hD.1.2) h
  have hN : ∀ wr ∈ ws, (wr.all fun x => decide (x.1 < C.N)) = true := by
    intro wr hwr
    obtain ⟨i, hi, hi'⟩ := List.mem_iff_getElem.1 hwr
    exact (e3 i (rs[i]'(by omega)) wr (by simp) (by simp [hi, hi'])).choose_spec.2.2.2.1
  obtain ⟨s1, s2⟩ := sig_setsAll C ws hb hN
  have hR' : Rel C.w0 C.I C.N (sig C σ) fp a { w with drawn := w.drawn + 1 } := hR.ext (Ext.drew w _)
  have hno : ∀ (ws : List (List (Nat × W))) (k : Nat) (f : Nat → W), fold (fun i => (Array.replicate ops.size false).getD i false) k ws f = f := by
    intro ws
    induction ws with
    | nil => intro k f; rfl
    | cons w ws ih =>
      intro k f
      have : (Array.replicate ops.size false).getD k false = false := by
        simp only [Array.getD_eq_getD_getElem?, Array.getElem?_replicate]
        split <;> rfl
      simp only [fold, this, Bool.false_eq_true, if_false]
      exact ih _ _
  refine wp_region_any hmix (draws_sound (I := C.I) (N := C.N) (w0 := C.w0) (σ0 := sig C σ) (ws := ws) hm hD e1 ?_ ?_ ?_ ?_ _ _ _ _ fp (by simp) (Nat.le_trans List.countP_le_length (by simp)) ?_ ?_)
  · intro i r wr hr hwr
    obtain ⟨wr0, g0, g1, g2, g3, g4, g5⟩ := e3 i r wr hr hwr
    refine ⟨_, wr0, g0, fun s => ?_, g1, g2, fun l hl => ?_⟩
    · simp only [kill]
      split
      · exact .inl rfl
      · rename_i hs
        obtain ⟨q1, q2⟩ := sig_setsAll C (ws.take i) hb (fun wr hwr => hN wr (List.mem_of_mem_take hwr))
        have := fold_take ws 0 i (sig C σ)
        rw [Nat.zero_add] at this
        rw [this, q2]
        rcases sig_sub C q1 s with h1 | h1
        · exact .inl h1
        · have hs' : s ∉ r.kil ∧ s ∉ r.unk := by simpa using hs
          exact .inr ⟨hs'.2, hs'.1, h1⟩
    · unfold tchB at g4
      rw [hl] at g4
      simp only [Bool.and_eq_true, List.all_eq_true, List.contains_iff_mem] at g4
      refine ⟨fun s hs => ?_, fun d hd => ?_⟩
      · simp only [keys, List.mem_map] at hs
        obtain ⟨x, hx, rfl⟩ := hs
        exact g4.1 x hx
      · have := g4.2; rw [hd] at this; simpa using this
  · intro i j ri rj wrj d s x hij hri hrj hwj hmk hd hx hnm
    obtain ⟨_, _, _, _, _, _, g5⟩ := e3 j rj wrj hrj hwj
    unfold nameB at g5
    simp only [List.all_eq_true] at g5
    have := g5 (s, x) hx (0 + i, d, ri.kil) (makers_sound rs 0 i ri d hri hmk hd)
    simp only [Nat.zero_add, hnm, Bool.not_true, Bool.or_false, Bool.or_eq_true, beq_iff_eq, Bool.and_eq_true, decide_eq_true_eq, Bool.not_eq_true'] at this
    rcases this with (h1 | ⟨h1, h2⟩) | h1
    · exact absurd h1 hij
    · exact .inl ⟨h1, fun hm => by simp [hm] at h2⟩
    · exact .inr (by simpa using h1)
  · intro i r d hr hmk hd
    exact sig_free C (hfree (0 + i, d, r.kil) (makers_sound rs 0 i r d hr hmk hd))
  · intro fp' a' w' hR''
    rw [fold_all, s2] at hR''
    exact hK _ a' w' e2 ⟨s1, fp', hR''⟩
  · intro i o _ hi
    have : (Array.replicate ops.size false).getD i false = false := by
      simp only [Array.getD_eq_getD_getElem?, Array.getElem?_replicate]
      split <;> rfl
    have hi' : (Array.replicate ops.size false).getD i false = true := hi
    rw [this] at hi'; cases hi'
  · rw [hno]; exact hR'
end Go.Proofs.Ytaefhdklkbohmaa
/- Code, by what holds of the slots. Generic. -/
namespace Go.Proofs.Ytaefhdklkbohmaa
open Go Go.RowKit

section
variable {P : Program}
/-- A loop, by a number that falls. -/
theorem wp_loop_n {c : Code} {Q : Exit → Act → World → Prop} (I : Nat → Act → World → Prop)
    (round : ∀ n a w, I n a w → c.wp P (Exit.then (fun a' w' => ∃ m, m < n ∧ I m a' w') Q) a w) {n : Nat} {a : Act} {w : World} (h₀ : I n a w) : (Code.loop c).wp P Q a w := by
  intro b k cs
  have key : ∀ n a w, I n a w → ∃ e a' w', Q e a' w' ∧ Arrives P (lone (b.at a (.code c :: .inLoop c :: k)) cs w) b k cs e a' w' := by
    intro n
    induction n using Nat.strongRecOn with
    | _ n ih =>
      intro a w hI
      obtain ⟨e, a₁, w₁, hq, harr⟩ := round n a w hI b (.inLoop c :: k) cs
      cases e with
      | normal =>
        obtain ⟨m, hlt, hI₁⟩ := hq
        obtain ⟨e₂, a₂, w₂, hq₂, harr₂⟩ := ih m hlt a₁ w₁ hI₁
        exact ⟨e₂, a₂, w₂, hq₂, .of_steps (Steps.trans harr (.one step_inLoop)) harr₂⟩
      | exit id => exact ⟨_, a₁, w₁, hq, .pass (x := .inLoop c) rfl (fun _ _ => .inl (by simp)) harr⟩
      | goto l => exact ⟨_, a₁, w₁, hq, .pass (x := .inLoop c) rfl (fun _ _ => .inl (by simp)) harr⟩
      | ret => exact ⟨_, a₁, w₁, hq, .pass (x := .inLoop c) rfl (fun _ _ => .inl (by simp)) harr⟩
      | panic ch => exact ⟨_, a₁, w₁, hq, .pass (x := .inLoop c) rfl (fun _ _ => .inl (by simp)) harr⟩
      | outgrown => exact ⟨_, a₁, w₁, hq, .pass (x := .inLoop c) rfl (fun _ _ => .inl (by simp)) harr⟩
  obtain ⟨e, a', w', hq, harr⟩ := key _ a w h₀
  exact ⟨e, a', w', hq, .of_steps (.one step_loop) harr⟩
end

inductive AExit where
  | normal
  | exit (l : Nat)
  | ret
inductive AC where
  | skip
  | ret
  | exit (l : Nat)
  | reg (draw : Bool) (ops : List ROp)
  | seq (a b : AC)
  | cond (x : Opd) (a b : AC)
  | block (l : Nat) (a : AC)
  | loop (a : AC)
  deriving Inhabited

def matC (P : Program) (N : Nat) : Code → AC → Bool
  | .skip, .skip => true
  | .ret, .ret => true
  | .exit l, .exit l' => l == l'
  | .region _ ops draw, .reg draw' ops' => draw == draw' && matRs P N ops ops.toList ops' && (!draw || matD ops.toList ops')
  | .seq a b, .seq a' b' => matC P N a a' && matC P N b b'
  | .cond c a b, .cond x a' b' => matO c x && matC P N a a' && matC P N b b'
  | .block l a, .block l' a' => l == l' && matC P N a a'
  | .loop a, .loop a' => matC P N a a'
  | _, _ => false

def post (C : Ctx) (Q : AExit → Env → Prop) : Exit → Act → World → Prop
  | .normal, a, w => ∃ σ, Q .normal σ ∧ St C σ a w
  | .exit l, a, w => ∃ σ, Q (.exit l) σ ∧ St C σ a w
  | .ret, a, w => ∃ σ, Q .ret σ ∧ St C σ a w
  | _, _, _ => False
/-- Whoever follows this code from a state told by 'σ' comes where 'Q' tells. -/
def AV (P : Program) (C : Ctx) (ac : AC) (Q : AExit → Env → Prop) (σ : Env) : Prop :=
  ∀ c, matC P C.N c ac = true → ∀ a w, St C σ a w → c.wp P (post C Q) a w

def AExit.then (R : Env → Prop) (Q : AExit → Env → Prop) : AExit → Env → Prop
  | .normal, σ => R σ
  | e, σ => Q e σ
def AExit.inBlock (l : Nat) (Q : AExit → Env → Prop) : AExit → Env → Prop
  | .exit l', σ => if l' = l then Q .normal σ else Q (.exit l') σ
  | e, σ => Q e σ

section
variable {P : Program} {C : Ctx} {Q Q' : AExit → Env → Prop} {σ : Env}
theorem AV.mono {ac : AC} (h : AV P C ac Q σ) (hq : ∀ e σ, Q e σ → Q' e σ) : AV P C ac Q' σ := by
  intro c hm a w hS
  refine wp_mono (h c hm a w hS) ?_
  intro e a w he
  cases e <;> simp only [post] at he ⊢ <;> first | exact he | (obtain ⟨σ, h1, h2⟩ := he; exact ⟨σ, hq _ _ h1, h2⟩)
theorem AV.skip (h : Q .normal σ) : AV P C .skip Q σ := by
  intro c hm a w hS
  cases c <;> simp [matC] at hm
  exact wp_skip ⟨σ, h, hS⟩
theorem AV.ret (h : Q .ret σ) : AV P C .ret Q σ := by
  intro c hm a w hS
  cases c <;> simp [matC] at hm
  exact wp_ret ⟨σ, h, hS⟩
theorem AV.exit {l : Nat} (h : Q (.exit l) σ) : AV P C (.exit l) Q σ := by
  intro c hm a w hS
  cases c <;> simp [matC] at hm
  subst hm
  exact wp_exit ⟨σ, h, hS⟩
theorem AV.seq {x y : AC} (h : AV P C x (AExit.then (AV P C y Q) Q) σ) : AV P C (.seq x y) Q σ := by
  intro c hm a w hS
  cases c <;> simp only [matC, Bool.false_eq_true] at hm
  rename_i cx cy
  simp only [Bool.and_eq_true] at hm
  refine wp_seq (wp_mono (h cx hm.1 a w hS) ?_)
  intro e a w he
  cases e <;> simp only [post, Exit.then] at he ⊢ <;> first | exact he | (obtain ⟨σ, h1, h2⟩ := he; first | exact h1 cy hm.2 a w h2 | exact ⟨σ, h1, h2⟩)
theorem AV.block {l : Nat} {x : AC} (h : AV P C x (AExit.inBlock l Q) σ) : AV P C (.block l x) Q σ := by
  intro c hm a w hS
  cases c <;> simp only [matC, Bool.false_eq_true] at hm
  rename_i l' cx
  simp only [Bool.and_eq_true, beq_iff_eq] at hm
  obtain ⟨rfl, hm⟩ := hm
  refine wp_block (wp_mono (h cx hm a w hS) ?_)
  intro e a w he
  cases e <;> simp only [post, Exit.inBlock] at he ⊢ <;> try exact he
  obtain ⟨σ, h1, h2⟩ := he
  simp only [AExit.inBlock] at h1
  split at h1
  · rename_i e; rw [if_pos e]; exact ⟨σ, h1, h2⟩
  · rename_i e; rw [if_neg e]; exact ⟨σ, h1, h2⟩
theorem AV.cond {x : Opd} {y z : AC} (hc : (evT true σ.get x).1) (hb : (evT true σ.get x).2.isBool) (ht : (evT true σ.get x).2.toBool = true → AV P C y Q σ) (hf : (evT true σ.get x).2.toBool = false → AV P C z Q σ) : AV P C (.cond x y z) Q σ := by
  intro c hm a w hS
  cases c <;> simp only [matC, Bool.false_eq_true] at hm
  rename_i co cy cz
  simp only [Bool.and_eq_true] at hm
  obtain ⟨hbl, fp, hR⟩ := hS
  have h1 := RT_bool (evT_sound hR (sig_sub C hbl) hm.1.1 hc) hb
  exact wp_cond_split h1 (fun h => ht h cy hm.1.2 a w ⟨hbl, fp, hR⟩) (fun h => hf h cz hm.2 a w ⟨hbl, fp, hR⟩)
theorem AV.reg {ops : List ROp} (h : vcR P C.N σ ops (Q .normal)) : AV P C (.reg false ops) Q σ := by
  intro c hm a w hS
  cases c <;> simp only [matC, Bool.false_eq_true] at hm
  rename_i id os dr
  simp only [Bool.and_eq_true, beq_iff_eq] at hm
  obtain ⟨⟨rfl, hm⟩, _⟩ := hm
  exact wp_region_list (vcR_sound C (fun σ a w hq hs => ⟨σ, hq, hs⟩) os.toList ops σ a w hm hS h)
theorem AV.regD {ops : List ROp} (hmix : P.follows .mixedOrders = true) (h : vcD0 P C.N σ ops (Q .normal)) : AV P C (.reg true ops) Q σ := by
  intro c hm a w hS
  cases c <;> simp only [matC, Bool.false_eq_true] at hm
  rename_i id os dr
  simp only [Bool.and_eq_true, beq_iff_eq] at hm
  obtain ⟨⟨rfl, hm⟩, hD⟩ := hm
  exact vcD_sound C hmix hm (by simpa using hD) (fun σ a w hq hs => ⟨σ, hq, hs⟩) hS h
theorem AV.loop {x : AC} (Inv : Nat → Env → Prop) (round : ∀ n σ, Inv n σ → AV P C x (AExit.then (fun σ' => ∃ m, m < n ∧ Inv m σ') Q) σ) {n : Nat} (h : Inv n σ) : AV P C (.loop x) Q σ := by
  intro c hm a w hS
  cases c <;> simp only [matC, Bool.false_eq_true] at hm
  rename_i cx
  refine wp_loop_n (fun n a w => ∃ σ, Inv n σ ∧ St C σ a w) ?_ ⟨σ, h, hS⟩
  rintro n a w ⟨σ, hi, hS⟩
  refine wp_mono (round n σ hi cx hm a w hS) ?_
  intro e a w he
  cases e <;> simp only [post, Exit.then] at he ⊢ <;> first | exact he | skip
  all_goals
    obtain ⟨σ, h1, h2⟩ := he
    first | exact ⟨σ, h1, h2⟩ | (obtain ⟨m, h3, h4⟩ := h1; exact ⟨m, h3, σ, h4, h2⟩)
end

def Env.keep (σ : Env) : List Nat → Env
  | [] => []
  | s :: l => (s, σ.get s) :: Env.keep σ l
theorem Env.keep_get (σ : Env) : ∀ (l : List Nat) (s : Nat), (σ.keep l).get s = .dead ∨ (σ.keep l).get s = σ.get s
  | [], _ => .inl rfl
  | x :: l, s => by
    simp only [Env.keep, Env.get]
    split
    · rename_i e; subst e; exact .inr rfl
    · exact Env.keep_get σ l s
theorem St.keep {C : Ctx} {σ : Env} {a : Act} {w : World} (h : St C σ a w) (l : List Nat) (hl : l.all (fun s => decide (s < C.N)) = true) : St C (σ.keep l) a w := by
  obtain ⟨hb, fp, hR⟩ := h
  have hsub : Sub (sig C (σ.keep l)) (sig C σ) := by
    intro s
    by_cases e : s = C.N
    · subst e; exact .inr (by simp only [sig, upd_same])
    · simp only [sig, upd_ne _ _ _ e]; exact Env.keep_get σ l s
  obtain ⟨fp', hR'⟩ := hR.forget hsub
  refine ⟨?_, fp', hR'⟩
  clear hR' hsub hR hb
  induction l with
  | nil => rfl
  | cons x l ih =>
    simp only [List.all_cons, Bool.and_eq_true] at hl
    simp only [Env.keep, Env.below, Bool.and_eq_true]
    exact ⟨hl.1, ih hl.2⟩
theorem AV.keep {P : Program} {C : Ctx} {Q : AExit → Env → Prop} {σ : Env} {x : AC} (l : List Nat) (hl : l.all (fun s => decide (s < C.N)) = true) (h : AV P C x Q (σ.keep l)) : AV P C x Q σ :=
  fun c hm a w hS => h c hm a w (hS.keep l hl)
end Go.Proofs.Ytaefhdklkbohmaa
/- A function, out of its code. Generic. -/
namespace Go.Proofs.Ytaefhdklkbohmaa
open Go Go.RowKit

/-- A result's variable. -/
inductive RV where
  | tmp (s : Nat)
  | cell (s n : Nat) (ag : Bool)
def matRV (P : Program) : ResultVar → RV → Bool
  | .tmp s, .tmp s' => s == s'
  | .cell s ty, .cell s' n ag => s == s' && isOf P ty n ag
  | _, _ => false
def matRVs (P : Program) : List ResultVar → List RV → Bool
  | [], [] => true
  | v :: vs, r :: rs => matRV P v r && matRVs P vs rs
  | _, _ => false
/-- What a result is, as data. -/
def resT (σ : Env) : RV → Prop × T
  | .tmp s => evT true σ.get (.tmp s)
  | .cell s n ag => match pev true σ.get (.load n ag (.tmp s)) with
    | (c, .t t) => (c, t)
    | _ => (False, .any)
def resTs (σ : Env) : List RV → Prop × List T
  | [] => (True, [])
  | r :: rs => ((resT σ r).1 ∧ (∀ us, (resT σ r).2 ≠ .tup us) ∧ (resTs σ rs).1, (resT σ r).2 :: (resTs σ rs).2)
/-- What a function gives, by its kind: one result that it owns; data. -/
def resK (σ : Env) (rvs : List RV) (k : K) (t : T) : Prop :=
  (∃ s, rvs = [.tmp s] ∧ σ.get s = .own k t) ∨
  (k = .sh ∧ ∃ r, rvs = [r] ∧ (resT σ r).1 ∧ (∀ us, (resT σ r).2 ≠ .tup us) ∧ t = (resT σ r).2) ∨
  (rvs.length ≠ 1 ∧ k = .tup (shs rvs.length) ∧ t = .tup (resTs σ rvs).2 ∧ (resTs σ rvs).1)

section
variable {P : Program} {w0 : World} {I : Nat → Prop} {N : Nat} {σ : Nat → W} {fp : Nat → List Nat} {a : Act} {w : World}
def getRV (a : Act) : ResultVar → Sem Value
  | .tmp t => pure (a.tmps.getD t undef)
  | .cell s t => do loadVar t (← asAddr (a.tmps.getD s undef))
theorem resT_sound {C : Ctx} {σ : Env} (hb : σ.below C.N = true) (h : Rel w0 I N (sig C σ) fp a w) {v : ResultVar} {r : RV} (hm : matRV P v r = true) (hc : (resT σ r).1) : ∃ c, (getRV a v).run P w = .ok c w ∧ RT w (Free w fp) (resT σ r).2 c := by
  have hs := sig_sub C hb
  cases v with
  | tmp s =>
    cases r with
    | tmp s' =>
      simp only [matRV, beq_iff_eq] at hm
      subst hm
      have := evT_sound (X := .tmp s) h hs (by simp [matO]) hc
      exact ⟨_, rfl, by simpa [Act.eval, resT] using this⟩
    | cell s' n ag => simp [matRV] at hm
  | cell s ty =>
    cases r with
    | tmp s' => simp [matRV] at hm
    | cell s' n ag =>
      simp only [matRV, Bool.and_eq_true, beq_iff_eq] at hm
      obtain ⟨rfl, hm⟩ := hm
      obtain ⟨d, i, e1, e2, e3, e4⟩ := isOf_sound hm
      simp only [resT] at hc ⊢
      split at hc
      · rename_i cc t hp
        obtain ⟨c, h1, h2, h3⟩ := load_sound (P := P) (X := .tmp s) (x := .tmp s) h hs (by simp [matO]) ty d i e1 e3 e2 e4 (by rw [hp]; exact hc)
        rw [hp] at h3
        refine ⟨c, ?_, h3.2⟩
        simp only [getRV]
        have hv : a.eval (.tmp s) = a.tmps.getD s undef := by simp [Act.eval]
        rw [hv] at h1
        generalize a.tmps.getD s undef = u at h1 ⊢
        cases u with
        | pointer p =>
          cases p with
          | none => simp [Instr.loadAt, Instr.sureAddr] at h1
          | some ad => simpa [Instr.loadAt, Instr.sureAddr, asAddr] using h1
        | _ => simp [Instr.loadAt, Instr.sureAddr] at h1
      · exact hc.elim
theorem resTs_sound {C : Ctx} {σ : Env} (hb : σ.below C.N = true) (h : Rel w0 I N (sig C σ) fp a w) : ∀ {vs : List ResultVar} {rs : List RV}, matRVs P vs rs = true → (resTs σ rs).1 →
    ∃ cs, (vs.mapM (getRV a)).run P w = .ok cs w ∧ ROt w (Free w fp) (shs rs.length) (resTs σ rs).2 cs []
  | [], [], _, _ => ⟨[], rfl, by simp [shs, resTs, ROt]⟩
  | [], _ :: _, hm, _ => by simp [matRVs] at hm
  | _ :: _, [], hm, _ => by simp [matRVs] at hm
  | v :: vs, r :: rs, hm, hc => by
    simp only [matRVs, Bool.and_eq_true] at hm
    obtain ⟨c1, c2, c3⟩ := hc
    obtain ⟨c, e1, e2⟩ := resT_sound hb h hm.1 c1
    obtain ⟨cs, e3, e4⟩ := resTs_sound hb h hm.2 c3
    refine ⟨c :: cs, by simp [List.mapM_cons, e1, e3], ?_⟩
    simp only [List.length_cons, shs, List.replicate_succ, resTs, ROt]
    exact ⟨_, _, c, cs, [], [], rfl, rfl, rfl, c2, by simpa [RO] using R0s_leaf e2 c2, e4⟩
end

def argE : Nat → List T → Env
  | _, [] => []
  | i, t :: ts => (i, .t t) :: argE (i + 1) ts
theorem argE_get : ∀ (ts : List T) (i s : Nat), (argE i ts).get s = if h : i ≤ s ∧ s - i < ts.length then .t ts[s - i] else .dead
  | [], i, s => by simp [argE, Env.get]
  | t :: ts, i, s => by
    simp only [argE, Env.get]
    split
    · rename_i e; subst e; simp
    · rename_i e
      rw [argE_get ts (i + 1) s]
      by_cases h1 : i + 1 ≤ s ∧ s - (i + 1) < ts.length
      · rw [dif_pos h1, dif_pos ⟨by omega, by simp; omega⟩]
        congr 1
        have : s - i = s - (i + 1) + 1 := by omega
        simp [this]
      · rw [dif_neg h1, dif_neg (by simp; omega)]
theorem argE_below : ∀ (ts : List T) (i n : Nat), i + ts.length ≤ n → (argE i ts).below n = true
  | [], _, _, _ => rfl
  | t :: ts, i, n, h => by
    simp only [List.length_cons] at h
    simp only [argE, Env.below, Bool.and_eq_true, decide_eq_true_eq]
    exact ⟨by omega, argE_below ts (i + 1) n (by omega)⟩
theorem R0s.at {w : World} {A : Nat → Prop} : ∀ {ts : List T} {vs : List Value} (_ : R0s w A ts vs), ts.length = vs.length ∧ ∀ i (h : i < ts.length) (h' : i < vs.length), R0 w A ts[i] vs[i]
  | [], _, h => by simp only [R0s] at h; subst h; exact ⟨rfl, fun i h => by simp at h⟩
  | t :: ts, _, h => by
    obtain ⟨c, cs', rfl, h1, h2⟩ := h
    obtain ⟨h3, h4⟩ := R0s.at h2
    refine ⟨by simp [h3], fun i hi hi' => ?_⟩
    cases i with
    | zero => exact h1
    | succ i => simpa using h4 i (by simpa using hi) (by simpa using hi')
/-- What holds when the function ends. -/
def atEnd (rvs : List RV) (k : K) (t : T) : AExit → Env → Prop
  | .exit _, _ => False
  | _, σ => resK σ rvs k t

theorem ACalls.of {P : Program} {f : FuncId} {fn : Func} {c : Code} {ac : AC} {rvs : List RV} {args : List T} {k : K} {t : T} (hf : P.funcs[f]? = some fn) (hb : fn.body = some c) (hm : matC P fn.ntmps c ac = true)
    (hr : matRVs P fn.results.toList rvs = true) (hn : args.length ≤ fn.ntmps) (h : ∀ C : Ctx, C.N = fn.ntmps → AV P C ac (atEnd rvs k t) (argE 0 args)) : ACalls P f args k t := by
  classical
  intro w A vs hA hvs
  obtain ⟨hl, hat⟩ := R0s.at hvs
  let G : List Nat := (List.range w.heap.size).filter fun b => ¬ A b
  have hG : ∀ b, b ∈ G ↔ b < w.heap.size ∧ ¬ A b := by intro b; simp [G]
  let C : Ctx := ⟨w, fun b => ¬ A b, fn.ntmps, fun b => w.heap[b]?, G⟩
  let fp0 : Nat → List Nat := fun s => if s = fn.ntmps then G else []
  have hfp : ∀ s b, b ∈ fp0 s → s = fn.ntmps ∧ b ∈ G := by
    intro s b hb
    by_cases e : s = fn.ntmps
    · simp only [fp0, e, if_true] at hb; exact ⟨e, hb⟩
    · simp only [fp0, e, if_false] at hb; cases hb
  let a0 : Act := { tmps := vs.toArray ++ Array.replicate (fn.ntmps - vs.toArray.size) undef, defers := [] }
  have hbelow : (argE 0 args).below C.N = true := argE_below args 0 _ (by simpa using hn)
  have hAf : ∀ b, A b → Free w fp0 b := fun b hb => ⟨hA b hb, fun s hs => ((hG b).1 (hfp s b hs).2).2 hb⟩
  have hR : Rel C.w0 C.I C.N (sig C (argE 0 args)) fp0 a0 w := by
    refine { size := ?_, defers := rfl, slots := ?_, nodup := ?_, disj := ?_, there := ?_, os := rfl, tape := rfl, output := rfl, grown := Nat.le_refl _, kept := fun _ _ _ => rfl }
    · simp [a0, C]; omega
    · intro s
      by_cases e : s = fn.ntmps
      · subst e
        simp only [sig, C, upd_same]
        exact ⟨by simp only [fp0, if_true], fun b _ => rfl⟩
      · have e2 : fp0 s = [] := by simp only [fp0, e, if_false]
        simp only [sig, C, upd_ne _ _ _ e, e2, argE_get]
        split
        · rename_i hs
          refine ⟨rfl, ?_⟩
          simp only [Nat.sub_zero] at hs ⊢
          have hs' : s < vs.length := by omega
          have hv : Act.at a0 s = vs[s] := by simp [Act.at, a0, Array.getElem?_append, hs']
          rw [hv]
          exact RT.mono (fun b hb => ⟨hAf b hb, rfl⟩) _ _ (RT_of_R0 (hat s hs.2 hs'))
        · exact ⟨rfl, trivial⟩
    · intro s
      by_cases e : s = fn.ntmps
      · simp only [fp0, e, if_true, G]; exact List.Pairwise.filter _ List.nodup_range
      · simp only [fp0, e, if_false]; exact List.nodup_nil
    · intro s s' b hs hs'
      rw [(hfp s b hs).1, (hfp s' b hs').1]
    · intro s b hs
      exact ⟨((hG b).1 (hfp s b hs).2).1, .inr ((hG b).1 (hfp s b hs).2).2⟩
  refine calls_of_wp hf hb (wp_mono (h C rfl c hm a0 w ⟨hbelow, fp0, hR⟩) ?_)
  have fin : ∀ σ a' w', resK σ rvs k t → St C σ a' w' → a'.defers = [] ∧ ∃ v, (results fn a'.tmps).run P w' = .ok v w' ∧ ∃ c F, Ending.returned v = .returned c ∧ Ret w A w' k t c F := by
    rintro σ a' w' hres ⟨hbl, fp, hR'⟩
    refine ⟨hR'.defers, ?_⟩
    have hgh := hR'.slots fn.ntmps
    simp only [sig, C, upd_same, WW] at hgh
    have hext : Ext w w' := by
      refine ⟨hR'.os, hR'.tape, hR'.output, hR'.grown, fun b hb => ?_⟩
      by_cases hAb : A b
      · exact hR'.kept b hb (fun h => h hAb)
      · exact hgh.2 b (by rw [hgh.1]; exact (hG b).2 ⟨hb, hAb⟩)
    have hfr : ∀ b, Free w' fp b → b < w'.heap.size ∧ (A b ∨ w.heap.size ≤ b) := by
      intro b hb
      refine ⟨hb.1, ?_⟩
      rcases Nat.lt_or_ge b w.heap.size with h1 | h1
      · by_cases hAb : A b
        · exact .inl hAb
        · exact absurd (by rw [hgh.1]; exact (hG b).2 ⟨h1, hAb⟩) (hb.2 fn.ntmps)
      · exact .inr h1
    have hrun : ∀ {cs : List Value}, (fn.results.toList.mapM (getRV a')).run P w' = .ok cs w' → (results fn a'.tmps).run P w' = .ok (match cs with | [v] => v | cs => .tuple cs.toArray) w' := by
      intro cs hcs
      have e1 : results fn a'.tmps = (do
          let vs ← fn.results.mapM (getRV a')
          pure (if h : vs.size = 1 then vs[0] else .tuple vs)) := by
        unfold results
        congr 1
      rw [e1, Array.mapM_eq_mapM_toList]
      simp only [Sem.run_bind, Sem.run_map, hcs, Result.andThen_ok, Sem.run_pure]
      match cs with
      | [] => rfl
      | [v] => rfl
      | _ :: _ :: _ => rfl
    rcases hres with ⟨s, rfl, hs⟩ | ⟨rfl, r, rfl, c1, c2, rfl⟩ | ⟨hne, rfl, rfl, c1⟩
    · have hsN : s < fn.ntmps := by
        rcases Nat.lt_or_ge s fn.ntmps with h1 | h1
        · exact h1
        · rw [Env.below_get hbl h1] at hs; cases hs
      have hne : s ≠ fn.ntmps := by omega
      have h1 := hR'.slots s
      simp only [sig, C, upd_ne _ _ _ hne, hs, WW] at h1
      have e1 : (fn.results.toList.mapM (getRV a')).run P w' = .ok [Act.at a' s] w' := by
        cases hq : fn.results.toList with
        | nil => rw [hq] at hr; simp [matRVs] at hr
        | cons v vs =>
          rw [hq] at hr
          cases vs with
          | nil =>
            simp only [matRVs, Bool.and_true] at hr
            cases v with
            | tmp s' => simp only [matRV, beq_iff_eq] at hr; subst hr; rfl
            | cell s' ty => simp [matRV] at hr
          | cons _ _ => simp [matRVs] at hr
      refine ⟨_, hrun e1, _, fp s, rfl, hext, hR'.nodup s, fun b hb => ?_, ?_⟩
      · refine ⟨?_, (hR'.there s b hb).1⟩
        rcases (hR'.there s b hb).2 with h2 | h2
        · exact h2
        · rcases Nat.lt_or_ge b w.heap.size with h3 | h3
          · exact absurd (hR'.disj s fn.ntmps b hb (by rw [hgh.1]; exact (hG b).2 ⟨h3, h2⟩)) hne
          · exact h3
      · exact RO.mono (fun b hb => ⟨⟨(hfr b hb).1, (hfr b hb).2, hb.2 s⟩, rfl⟩) k t _ _ (fun _ _ => rfl) h1
    · cases hq : fn.results.toList with
      | nil => rw [hq] at hr; simp [matRVs] at hr
      | cons v vs =>
        rw [hq] at hr
        cases vs with
        | cons _ _ => simp [matRVs] at hr
        | nil =>
          simp only [matRVs, Bool.and_true] at hr
          obtain ⟨c, e1, e2⟩ := resT_sound (P := P) hbl hR' hr c1
          refine ⟨_, hrun (cs := [c]) (by rw [hq]; simp [List.mapM_cons, e1]), _, [], rfl, hext, List.nodup_nil, by simp, ?_⟩
          simp only [RO]
          exact ⟨trivial, R0.mono (fun b hb => ⟨⟨(hfr b hb).1, (hfr b hb).2, by simp⟩, rfl⟩) _ _ (R0s_leaf e2 c2)⟩
    · obtain ⟨cs, e1, e2⟩ := resTs_sound (P := P) hbl hR' hr c1
      have hlen : cs.length ≠ 1 := by
        have h1 : ∀ {ks : List K} {ts : List T} {cs : List Value} {F : List Nat}, ROt w' (Free w' fp) ks ts cs F → cs.length = ks.length := by
          intro ks
          induction ks with
          | nil => intro ts cs F h; simp only [ROt] at h; simp [h.2.1]
          | cons k ks ih =>
            intro ts cs F h
            simp only [ROt] at h
            obtain ⟨_, _, _, _, _, _, _, rfl, _, _, _, h⟩ := h
            simp [ih h]
        have := h1 e2
        simp [shs] at this
        omega
      refine ⟨_, hrun e1, _, [], rfl, hext, List.nodup_nil, by simp, ?_⟩
      have h2 : (match cs with | [v] => v | cs => .tuple cs.toArray) = .tuple cs.toArray := by
        match cs, hlen with
        | [], _ => rfl
        | [v], h => simp at h
        | _ :: _ :: _, _ => rfl
      rw [h2]
      simp only [RO]
      exact .inr ⟨_, cs, rfl, rfl, ROt.mono (fun b hb => ⟨⟨(hfr b hb).1, (hfr b hb).2, by simp⟩, rfl⟩) _ _ _ _ (by simp) e2⟩
  intro e a' w' he
  cases e <;> simp only [post] at he <;> first | exact he.elim | skip
  all_goals
    obtain ⟨σ, h1, h2⟩ := he
    first
      | exact fin σ a' w' h1 h2
      | exact False.elim h1
end Go.Proofs.Ytaefhdklkbohmaa
/- Ends and loops, for the proofs of functions. Generic. -/
namespace Go.Proofs.Ytaefhdklkbohmaa
open Go Go.RowKit

theorem AV.loopK {P : Program} {C : Ctx} {Q : AExit → Env → Prop} {σ : Env} {x : AC} (l : List Nat) (hl : l.all (fun s => decide (s < C.N)) = true) (Inv : Nat → Env → Prop)
    (round : ∀ n σ, Inv n σ → AV P C x (AExit.then (fun σ' => ∃ m, m < n ∧ Inv m (σ'.keep l)) Q) σ) {n : Nat} (h : Inv n (σ.keep l)) : AV P C (.loop x) Q σ := by
  intro c hm a w hS
  cases c <;> simp only [matC, Bool.false_eq_true] at hm
  rename_i cx
  refine wp_loop_n (fun n a w => ∃ σ, Inv n σ ∧ St C σ a w) ?_ ⟨_, h, hS.keep l hl⟩
  rintro n a w ⟨σ, hi, hS⟩
  refine wp_mono (round n σ hi cx hm a w hS) ?_
  intro e a w he
  cases e <;> simp only [post, Exit.then] at he ⊢ <;> first | exact he | skip
  all_goals
    obtain ⟨σ, h1, h2⟩ := he
    first | exact ⟨σ, h1, h2⟩ | (obtain ⟨m, h3, h4⟩ := h1; exact ⟨m, h3, _, h4, h2.keep l hl⟩)
/-- The result is the data of a slot. -/
theorem atEnd_t {σ : Env} {s : Nat} {t u : T} (h : evT true σ.get (.tmp s) = (True, u)) (hu : u = t) (ht : ∀ us, t ≠ .tup us) : atEnd [.tmp s] .sh t .ret σ := by
  subst hu
  refine .inr (.inl ⟨rfl, _, rfl, ?_, ?_, ?_⟩) <;> simp only [resT, h]
  exact ht
theorem getD_map_lt {α β : Type} (f : α → β) (l : List α) (i : Nat) (d : β) (h : i < l.length) : (l.map f).getD i d = f l[i] := by
  simp [h]
theorem wrap_small (n : Int) (h : -9223372036854775808 ≤ n) (h' : n ≤ 9223372036854775807) : IntKind.i64.wrap n = n := by
  simp [IntKind.wrap, IntKind.bits, IntKind.signed]; omega
end Go.Proofs.Ytaefhdklkbohmaa
/- What an argument reads as, as a tree of data. Generic. -/
namespace Go.Proofs.Ytaefhdklkbohmaa
open Go Go.RowKit

/-- The shape of one cell. 'sl': the elements' cells; are they structs or arrays? -/
inductive LS where
  | int (k : IntKind)
  | bool
  | str
  | sl (ag : Bool) (ls : List LS)
  deriving Inhabited
mutual
def fitL : LS → T → Prop
  | .int k, t => ∃ n, t = .int k n ∧ (Lit.int k n).wf = true
  | .bool, t => ∃ b, t = .bool b
  | .str, t => ∃ s : ByteArray, t = .str s ∧ s.size ≤ maxLen
  | .sl ag ls, t => ∃ xs, t = .sl ls.length xs ∧ xs.length ≤ maxLen ∧ ∀ x ∈ xs, (ag = true → x.isAgg) ∧ (ag = false → x.isLeaf = true) ∧ fitLs ls x.leaves
def fitLs : List LS → List T → Prop
  | [], ts => ts = []
  | l :: ls, ts => ∃ t ts', ts = t :: ts' ∧ fitL l t ∧ fitLs ls ts'
end
def isRowTy (P : Program) (t : TypeId) : Bool :=
  match P.underlying t with
  | some (.struct _) => true
  | some (.array _ _) => true
  | _ => false
def lsFs (P : Program) (f : TypeId → Option (List LS)) : List Field → Nat → Option (List LS)
  | [], _ => some []
  | d :: ds, o => match f d.type, lsFs P f ds (o + P.cellsOf d.type) with
    | some l, some r => if d.offset = o ∧ l.length = P.cellsOf d.type then some (l ++ r) else none
    | _, _ => none
/-- The shapes of a type's cells. -/
def lsOf (P : Program) : Nat → TypeId → Option (List LS)
  | 0, _ => none
  | n + 1, t => match P.underlying t with
    | some (.int k) => some [.int k]
    | some .bool => some [.bool]
    | some .string => some [.str]
    | some (.slice e) => match lsOf P n e with
      | some ls => if ls.length = P.cellsOf e ∧ 0 < ls.length ∧ (isRowTy P e = false → ls.length = 1) then some [.sl (isRowTy P e) ls] else none
      | none => none
    | some (.struct fs) => match lsFs P (lsOf P n) fs.toList 0 with
      | some ls => if ls.length = P.cellsOf t then some ls else none
      | none => none
    | some (.array m e) => match lsOf P n e with
      | some ls => if ls.length = P.cellsOf e ∧ m * ls.length = P.cellsOf t then some (List.replicate m ls).flatten else none
      | none => none
    | _ => none

theorem fitL_leaf : ∀ {l : LS} {t : T}, fitL l t → t.isLeaf = true
  | .int _, _, h => by simp only [fitL] at h; obtain ⟨n, rfl, _⟩ := h; rfl
  | .bool, _, h => by simp only [fitL] at h; obtain ⟨n, rfl⟩ := h; rfl
  | .str, _, h => by simp only [fitL] at h; obtain ⟨n, rfl, _⟩ := h; rfl
  | .sl _ _, _, h => by simp only [fitL] at h; obtain ⟨n, rfl, _⟩ := h; rfl
theorem fitLs_append : ∀ {ls ms : List LS} {ts us : List T}, fitLs ls ts → fitLs ms us → fitLs (ls ++ ms) (ts ++ us)
  | [], _, ts, us, h, h' => by simp only [fitLs] at h; subst h; exact h'
  | l :: ls, ms, ts, us, h, h' => by
    simp only [fitLs] at h
    obtain ⟨t, ts', rfl, h1, h2⟩ := h
    simp only [List.cons_append, fitLs]
    exact ⟨t, ts' ++ us, rfl, h1, fitLs_append h2 h'⟩
theorem fitLs_len : ∀ {ls : List LS} {ts : List T}, fitLs ls ts → ts.length = ls.length
  | [], ts, h => by simp only [fitLs] at h; subst h; rfl
  | l :: ls, ts, h => by
    simp only [fitLs] at h
    obtain ⟨t, ts', rfl, _, h2⟩ := h
    simp [fitLs_len h2]
theorem RS.append {w : World} {A : Nat → Prop} : ∀ {ts us : List T} {cs ds : List Value}, RS w A ts cs → RS w A us ds → RS w A (ts ++ us) (cs ++ ds)
  | [], us, cs, ds, h, h' => by simp only [RS] at h; subst h; exact h'
  | t :: ts, us, cs, ds, h, h' => by
    simp only [RS] at h
    obtain ⟨c, cs', rfl, h1, h2, h3⟩ := h
    simp only [List.cons_append, RS]
    exact ⟨c, cs' ++ ds, rfl, h1, h2, RS.append h3 h'⟩
theorem RE.snoc {w : World} {A : Nat → Prop} {sz : Nat} : ∀ {xs : List T} {es c : List Value} {x : T}, RE w A sz xs es → c.length = sz → RL w A x c → RE w A sz (xs ++ [x]) (es ++ c)
  | [], es, c, x, h, hc, hx => by
    simp only [RE] at h; subst h
    simp only [List.nil_append, RE]
    exact ⟨c, [], by simp, hc, hx, rfl⟩
  | t :: xs, es, c, x, h, hc, hx => by
    simp only [RE] at h
    obtain ⟨c1, cs', rfl, h1, h2, h3⟩ := h
    simp only [List.cons_append, RE]
    exact ⟨c1, cs' ++ c, by simp, h1, h2, RE.snoc h3 hc hx⟩

section
variable {H : Type} {enc : TypeId × Value → H} {P : Program} {w : World} {base : Nat} {sp : Nat → Bool} {held : Bool}
/-- What a type's cells read as. -/
def ReadsAs (enc : TypeId × Value → H) (P : Program) (w : World) (base : Nat) (sp : Nat → Bool) (held : Bool) (t : TypeId) (ls : List LS) : Prop :=
  ∀ fuel cs x, DataW.trod enc P w base sp held fuel t cs = some x → ∃ ts, fitLs ls ts ∧ RS w (fun b => b < w.heap.size) ts cs
theorem read_fields {g : TypeId → Option (List LS)} (hg : ∀ t ls, g t = some ls → ReadsAs enc P w base sp held t ls) {cs : List Value} {m : Nat} :
    ∀ (fs : List Field) (o : Nat) (ls : List LS), lsFs P g fs o = some ls → (∀ f ∈ fs, ∃ x, DataW.trod enc P w base sp held m f.type ((cs.drop f.offset).take (P.cellsOf f.type)) = some x) →
      ∃ ts, fitLs ls ts ∧ RS w (fun b => b < w.heap.size) ts ((cs.drop o).take ls.length)
  | [], o, ls, h, _ => by
    simp only [lsFs, Option.some.injEq] at h
    subst h
    exact ⟨[], rfl, by simp [RS]⟩
  | d :: ds, o, ls, h, hx => by
    simp only [lsFs] at h
    split at h
    · rename_i l r h1 h2
      split at h
      · rename_i hc
        obtain ⟨rfl, hl⟩ := hc
        simp only [Option.some.injEq] at h
        subst h
        obtain ⟨x, hd⟩ := hx d (by simp)
        obtain ⟨ts, t1, t2⟩ := hg _ _ h1 _ _ _ hd
        obtain ⟨us, u1, u2⟩ := read_fields hg ds _ r h2 (fun f hf => hx f (by simp [hf]))
        refine ⟨ts ++ us, fitLs_append t1 u1, ?_⟩
        rw [List.length_append, hl, List.take_add, List.drop_drop]
        exact RS.append t2 u2
      · cases h
    · cases h
theorem read_array {e : TypeId} {ls : List LS} (hg : ReadsAs enc P w base sp held e ls) (hl : ls.length = P.cellsOf e) {cs : List Value} {m : Nat} :
    ∀ (k o : Nat), (∀ i, i < k → ∃ x, DataW.trod enc P w base sp held m e ((cs.drop ((o + i) * P.cellsOf e)).take (P.cellsOf e)) = some x) →
      ∃ ts, fitLs (List.replicate k ls).flatten ts ∧ RS w (fun b => b < w.heap.size) ts ((cs.drop (o * P.cellsOf e)).take (k * P.cellsOf e))
  | 0, o, _ => ⟨[], rfl, by simp [RS]⟩
  | k + 1, o, hx => by
    obtain ⟨x, hd⟩ := hx 0 (by omega)
    rw [Nat.add_zero] at hd
    obtain ⟨ts, t1, t2⟩ := hg _ _ _ hd
    obtain ⟨us, u1, u2⟩ := read_array hg hl k (o + 1) (fun i hi => by
      have := hx (i + 1) (by omega)
      rwa [show o + (i + 1) = o + 1 + i by omega] at this)
    refine ⟨ts ++ us, ?_, ?_⟩
    · rw [List.replicate_succ, List.flatten_cons]; exact fitLs_append t1 u1
    · rw [Nat.add_mul, Nat.one_mul, Nat.add_comm (k * _), List.take_add, List.drop_drop]
      have : o * P.cellsOf e + P.cellsOf e = (o + 1) * P.cellsOf e := by rw [Nat.add_mul, Nat.one_mul]
      rw [this]
      exact RS.append t2 u2
theorem read_sound : ∀ (n : Nat) (t : TypeId) (ls : List LS), lsOf P n t = some ls → ReadsAs enc P w base sp held t ls := by
  intro n
  induction n with
  | zero => intro t ls h; simp [lsOf] at h
  | succ n ih =>
    intro t ls h fuel cs x hx
    simp only [lsOf] at h
    split at h
    · rename_i k hu
      simp only [Option.some.injEq] at h; subst h
      obtain ⟨m, rfl, _, hw⟩ := DataW.trod_int hu hx
      exact ⟨[.int k m], ⟨_, _, rfl, ⟨m, rfl, hw⟩, rfl⟩, by simp [RS, RL, T.isLeaf]⟩
    · rename_i hu
      simp only [Option.some.injEq] at h; subst h
      obtain ⟨b, rfl, _⟩ := DataW.trod_bool hu hx
      exact ⟨[.bool b], ⟨_, _, rfl, ⟨b, rfl⟩, rfl⟩, by simp [RS, RL, T.isLeaf]⟩
    · rename_i hu
      simp only [Option.some.injEq] at h; subst h
      obtain ⟨s, rfl, _, hs⟩ := DataW.trod_string hu hx
      exact ⟨[.str s], ⟨_, _, rfl, ⟨s, rfl, hs⟩, rfl⟩, by simp [RS, RL, T.isLeaf]⟩
    · rename_i e hu
      split at h
      · rename_i ls' he
        split at h
        · rename_i hc
          obtain ⟨hl, hpos, hrow⟩ := hc
          simp only [Option.some.injEq] at h; subst h
          rcases Go.Deep.open_slice hu hx with ⟨rfl, _⟩ | ⟨a, len, cap, m, k, D, Pl, rfl, hb, hlc, hcm, hmm, rfl, hel⟩
          · refine ⟨[.sl ls'.length []], ⟨_, _, rfl, ⟨[], rfl, by simp, by simp⟩, rfl⟩, ?_⟩
            simp only [RS, RL]
            exact ⟨_, _, rfl, rfl, ⟨none, 0, rfl, by simp, .inl trivial⟩, rfl⟩
          · have hlm : len ≤ m := by rw [hmm]; split <;> omega
            have key : ∀ q, q ≤ len → ∃ (xs : List T) (es : List Value), xs.length = q ∧ es.length = q * ls'.length ∧ (∀ x ∈ xs, (isRowTy P e = true → x.isAgg) ∧ (isRowTy P e = false → x.isLeaf = true) ∧ fitLs ls' x.leaves) ∧
                RE w (fun b => b < w.heap.size) ls'.length xs es ∧ (∀ j u, es[j]? = some u → w.cell? ⟨a.block, a.off + j, none⟩ = some u) ∧ (0 < q → a.spot = none ∧ a.block < w.heap.size) := by
              intro q
              induction q with
              | zero => intro _; exact ⟨[], [], rfl, by simp, by simp, by simp [RE], by simp, by omega⟩
              | succ q ihq =>
                intro hq
                obtain ⟨xs, es, x1, x2, x3, x4, x5, x6⟩ := ihq (by omega)
                obtain ⟨cs', c1, c2⟩ := hel q (by omega)
                obtain ⟨_, c3, c4⟩ := World.cells?_some c1
                obtain ⟨ts, t1, t2⟩ := ih _ _ he _ _ _ c2
                have hsp : a.spot = none ∧ a.block < w.heap.size := by
                  by_cases hq0 : q = 0
                  · subst hq0
                    have := c4 0 (by omega)
                    rw [Nat.zero_mul] at this
                    have e0 : (a.add 0).add 0 = a := by simp [Addr.add]
                    rw [e0] at this
                    have hlt : 0 < cs'.length := by omega
                    rw [List.getElem?_eq_getElem hlt] at this
                    unfold World.cell? at this
                    split at this
                    · rename_i cc ce cx hh
                      split at this
                      · cases this
                      · rename_i hns
                        refine ⟨by simpa using hns, (Array.getElem?_eq_some_iff.1 hh).1⟩
                    · cases this
                  · exact x6 (by omega)
                have hadr : ∀ i, i < ls'.length → (a.add (q * P.cellsOf e)).add i = ⟨a.block, a.off + (q * ls'.length + i), none⟩ := by
                  intro i _
                  obtain ⟨ab, ao, as⟩ := a
                  have : as = none := hsp.1
                  subst this
                  rw [hl]
                  simp only [Addr.add]
                  split
                  · rename_i e1
                    split
                    · rename_i e2; simp [e1, e2]
                    · simp [e1]
                  · split
                    · rename_i e2; simp [e2]
                    · simp; omega
                have hts : ts.length = ls'.length := fitLs_len t1
                have hcs : cs'.length = ls'.length := by omega
                refine ⟨xs ++ [if isRowTy P e then .agg ts else ts.headD default], es ++ cs', by simp [x1], by rw [List.length_append, x2, hcs, Nat.add_mul, Nat.one_mul], ?_, ?_, ?_, fun _ => hsp⟩
                · intro y hy
                  rcases List.mem_append.1 hy with hy | hy
                  · exact x3 y hy
                  · obtain rfl := List.mem_singleton.1 hy
                    cases hr : isRowTy P e with
                    | true => exact ⟨fun _ => trivial, fun h => by simp at h, t1⟩
                    | false =>
                      have h1 := hrow hr
                      match ls', h1, ts, t1 with
                      | [l], _, ts, t1 =>
                        simp only [fitLs] at t1
                        obtain ⟨t, ts', rfl, h2, rfl⟩ := t1
                        have hlf := fitL_leaf h2
                        refine ⟨fun h => by simp at h, fun _ => hlf, ?_⟩
                        have : (T.leaves t) = [t] := by cases t <;> simp_all [T.leaves, T.isLeaf]
                        simp only [Bool.false_eq_true, if_false, List.headD_cons, this]
                        exact ⟨t, [], rfl, h2, rfl⟩
                · refine RE.snoc x4 hcs ?_
                  cases hr : isRowTy P e with
                  | true => simp only [if_true, RL]; exact t2
                  | false =>
                    have h1 := hrow hr
                    simp only [Bool.false_eq_true, if_false]
                    match ts, hts, t2 with
                    | [t], _, t2 =>
                      simp only [RS] at t2
                      obtain ⟨c, cs'', rfl, _, h3, rfl⟩ := t2
                      exact h3
                    | [], hts, _ => simp at hts; omega
                    | _ :: _ :: _, hts, _ => simp at hts; omega
                · intro j u hj
                  by_cases hjl : j < es.length
                  · rw [List.getElem?_append_left hjl] at hj
                    exact x5 j u hj
                  · rw [List.getElem?_append_right (by omega)] at hj
                    have hji : j - es.length < ls'.length := by
                      have := (List.getElem?_eq_some_iff.1 hj).1
                      omega
                    have := c4 (j - es.length) (by omega)
                    rw [hadr _ hji, hj] at this
                    rw [← this]
                    congr 2
                    omega
            obtain ⟨xs, es, x1, x2, x3, x4, x5, x6⟩ := key len (Nat.le_refl _)
            refine ⟨[.sl ls'.length xs], ⟨_, _, rfl, ⟨xs, rfl, by omega, x3⟩, rfl⟩, ?_⟩
            simp only [RS, RL]
            refine ⟨_, _, rfl, rfl, ⟨some a, cap, by rw [x1], by omega, ?_⟩, rfl⟩
            by_cases h0 : len = 0
            · left; exact List.length_eq_zero_iff.1 (by omega)
            · right
              obtain ⟨y1, y2⟩ := x6 (by omega)
              obtain ⟨ab, ao, as⟩ := a
              simp only at y1
              subst y1
              exact ⟨ab, ao, es, rfl, y2, x5, x4⟩
        · cases h
      · cases h
    · rename_i fs hu
      split at h
      · rename_i ls' he
        split at h
        · rename_i hc
          simp only [Option.some.injEq] at h; subst h
          obtain ⟨xs, m, rfl, rfl, hlen, hxl, hf⟩ := DataW.trod_struct hu hx
          obtain ⟨ts, t1, t2⟩ := read_fields (cs := cs) (m := m) ih fs.toList 0 _ he (by
            intro f hfm
            obtain ⟨i, hi, hi'⟩ := List.mem_iff_getElem.1 hfm
            have hfi : fs[i]? = some f := by rw [← Array.getElem?_toList, List.getElem?_eq_getElem hi, hi']
            have := hf i f hfi
            rw [List.getElem?_eq_getElem (by simp at hi; omega)] at this
            exact ⟨_, this⟩)
          refine ⟨ts, t1, ?_⟩
          rw [List.drop_zero, hc, ← hlen, List.take_length] at t2
          exact t2
        · cases h
      · cases h
    · rename_i m e hu
      split at h
      · rename_i ls' he
        split at h
        · rename_i hc
          simp only [Option.some.injEq] at h; subst h
          obtain ⟨xs, q, rfl, rfl, hlen, hxl, hf⟩ := DataW.trod_array hu hx
          obtain ⟨ts, t1, t2⟩ := read_array (cs := cs) (m := q) (ih _ _ he) hc.1 m 0 (by
            intro i hi
            have := hf i hi
            rw [List.getElem?_eq_getElem (by omega)] at this
            rw [Nat.zero_add]
            exact ⟨_, this⟩)
          refine ⟨ts, t1, ?_⟩
          rw [Nat.zero_mul, List.drop_zero, ← hc.1, hc.2, ← hlen, List.take_length] at t2
          exact t2
        · cases h
      · cases h
    · cases h
/-- An argument of one cell. -/
theorem read_cell {t : TypeId} {l : LS} {n : Nat} (h : lsOf P n t = some [l]) (hr : isRowTy P t = false) {v : Value} {d : DataW H} {ps : List MemPlace} (hv : ∃ r b0, Value.okWide P w r b0 t v) (hd : DataW.Trod enc P w base sp held t v d ps) :
    ∃ u, fitL l u ∧ R0 w (fun b => b < w.heap.size) u v := by
  obtain ⟨fuel, hf⟩ := hd
  obtain ⟨ts, t1, t2⟩ := read_sound n t _ h _ _ _ hf
  simp only [fitLs] at t1
  obtain ⟨u, ts', rfl, h1, rfl⟩ := t1
  refine ⟨u, h1, ?_⟩
  simp only [RS] at t2
  obtain ⟨c, cs', hc, _, h3, rfl⟩ := t2
  have hlf := fitL_leaf h1
  obtain ⟨r, b0, hv⟩ := hv
  have hcell : v.cells.toList = [v] := by
    cases v with
    | agg cs =>
      unfold Value.okWide at hv
      unfold isRowTy at hr
      split at hv
      · rename_i hu; rw [hu] at hr; cases hr
      · rename_i hu; rw [hu] at hr; cases hr
      · unfold Cell.okWide at hv
        split at hv
        all_goals first | (rename_i he; cases he) | skip
        all_goals simp_all [Cell.ok]
    | _ => simp [Value.cells]
  rw [hcell] at hc
  simp only [List.cons.injEq, and_true] at hc
  subst hc
  cases u with
  | agg ts => simp [T.isLeaf] at hlf
  | _ => exact h3
/-- An argument that is a struct or an array. -/
theorem read_row {t : TypeId} {ls : List LS} {n : Nat} (h : lsOf P n t = some ls) (hr : isRowTy P t = true) {v : Value} {d : DataW H} {ps : List MemPlace} (hv : ∃ r b0, Value.okWide P w r b0 t v) (hd : DataW.Trod enc P w base sp held t v d ps) :
    ∃ us, fitLs ls us ∧ R0 w (fun b => b < w.heap.size) (.agg us) v := by
  obtain ⟨fuel, hf⟩ := hd
  obtain ⟨ts, t1, t2⟩ := read_sound n t _ h _ _ _ hf
  obtain ⟨r, b0, hv⟩ := hv
  obtain ⟨cs, rfl⟩ : ∃ cs, v = .agg cs := by
    unfold Value.okWide at hv
    unfold isRowTy at hr
    split at hv
    · obtain ⟨cs, h1, _⟩ := hv; exact ⟨cs, h1⟩
    · obtain ⟨cs, h1, _⟩ := hv; exact ⟨cs, h1⟩
    · rename_i h1 h2
      split at hr
      · rename_i hu; exact (h1 _ hu).elim
      · rename_i hu; exact (h2 _ _ hu).elim
      · cases hr
  exact ⟨ts, t1, ⟨cs, rfl, by simpa [Value.cells] using t2⟩⟩
end
end Go.Proofs.Ytaefhdklkbohmaa
/- The words by which the states are told. Generic. -/
namespace Go.Proofs.Ytaefhdklkbohmaa
open Go Go.RowKit
attribute [go_sem] argE Int.toNat_natCast Nat.mul_one vcD0 vcD makers kill tchB nameB List.contains_cons List.contains_nil stoW okSto T.putPart T.putAt K.isSh Nat.lt_irrefl List.getD_cons_zero List.getD_cons_succ vcR effK gval Env.fresh Env.purge Env.purges
attribute [go_sem] kilW EOp.makes pev evG evT evTs evW Env.get W.okVal W.okGd W.isRoot wrapG Env.sets Env.set Env.del AExit.then AExit.inBlock List.all_cons List.all_nil decide_true decide_false Bool.and_self Option.isSome_none Option.isSome_some true_and
attribute [go_sem] and_true forall_const Bool.not_false Bool.not_true Bool.false_eq_true false_implies implies_true Env.free W.names W.namesL mksW bldW partW nameOk frzW List.replicate_succ List.replicate_zero T.leaves T.solid T.isLeaf List.map_cons List.map_nil List.take_succ_cons List.take_zero List.drop_succ_cons
attribute [go_sem] List.drop_zero List.cons_append List.nil_append List.take_nil List.drop_nil List.length_cons List.length_nil allT Option.map_some rowT chunk mkElem List.headD_cons Bool.or_false Bool.or_true Bool.false_or Bool.true_or Bool.true_and Bool.and_true Bool.false_and Bool.and_false Nat.zero_add Nat.add_zero true_implies Nat.le_refl
attribute [go_sem] T.isInt T.toInt T.isBool T.toBool T.isStr T.toStr T.isSl T.elems T.isAgg T.isAny T.comps T.isTup intOp shfOp idxT loadW loadT toAddr nodeAt rootAt elemAt lenW aggW okP kindAt
attribute [go_sem] subT putT K.kid K.kids T.kid beq_true beq_false cond_true cond_false Bool.cond_decide decide_eq_true_eq decide_eq_false_iff_not eq_self and_self not_true_eq_false not_false_eq_true ne_eq Env.keep true_or or_true imp_self Bool.not_eq_true' Bool.if_true_left Bool.decide_or Bool.or_eq_true
attribute [go_sem] Bool.or_eq_false_iff appW appDstW appSrcW K.plain K.plains shs List.nodup_cons List.nodup_nil List.mem_cons List.not_mem_nil or_self and_false or_false false_or bound Nat.sub_zero beq_self_eq_true bne_self_eq_false Bool.true_eq_false K.okKid T.setKid T.setLeaf evS evSs
attribute [go_sem] List.set_cons_zero List.set_cons_succ
end Go.Proofs.Ytaefhdklkbohmaa
