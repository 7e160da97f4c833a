/- A part of the proof: A1, A2, A3, A4, A5, A6, B1, B2, B3, B4, B5, B6, B7, B8, B9, B10, B11, B12, B13, B14, B15, C1, C2, C3, C4, C5, C6, C7, C8, C9. No condition. -/
import Derived.Orders
import Derived.Below
import Derived.Laws.AppendOwn
import Derived.Laws.Rows
import Derived.Deep.MidRow
import Derived.Laws.Tables
import Derived.ChangeKeysEq
import Derived.Laws.StructEq
import Derived.Great.BuildSlice
import Derived.Conc.MuLone
set_option linter.unusedSimpArgs false
set_option linter.unusedVariables false
set_option linter.unusedSectionVars false
/- Pure trees of data and what it is that a value of the machine reads as such a tree. Generic: no program in sight. -/
namespace Go.Proofs.Ytaefhdklkbohmaa
open Go Go.RowKit

/-- Data, elements inline. A struct or an array is the list of its leaves. 'sl': a slice (nil or not), 'nil': the nil slice, known to be one. 'ptr': a pointer to memory that nobody changes. -/
inductive T where
  | int (k : IntKind) (n : Int)
  | bool (b : Bool)
  | str (s : ByteArray)
  | agg (ts : List T)
  | tup (ts : List T)
  | nil
  | sl (sz : Nat) (xs : List T)
  | ptr (sz : Nat) (e : T)
  | fn (f : FuncId)
  | raw (v : Value)
  | any
  deriving Inhabited

def T.leaves : T → List T
  | .agg ts => ts
  | t => [t]
def T.elems : T → List T
  | .sl _ xs => xs
  | _ => []
def T.isAny : T → Bool
  | .any => true
  | _ => false
def T.isLeaf : T → Bool
  | .agg _ => false
  | .tup _ => false
  | _ => true
def T.toInt : T → Int
  | .int _ n => n
  | _ => 0
def T.toBool : T → Bool
  | .bool b => b
  | _ => false
def T.toStr : T → ByteArray
  | .str s => s
  | _ => ⟨#[]⟩
def T.comps : T → List T
  | .tup ts => ts
  | _ => []
def T.isInt (k : IntKind) : T → Prop
  | .int k' _ => k' = k
  | _ => False
def T.isBool : T → Prop
  | .bool _ => True
  | _ => False
def T.isStr : T → Prop
  | .str _ => True
  | _ => False
def T.isAgg : T → Prop
  | .agg _ => True
  | _ => False
def T.isSl (sz : Nat) : T → Prop
  | .sl z _ => z = sz
  | .nil => True
  | _ => False
def T.isTup : T → Prop
  | .tup _ => True
  | _ => False
theorem T.isInt_eq {k : IntKind} {t : T} (h : t.isInt k) : t = .int k t.toInt := by
  cases t <;> simp_all [T.isInt, T.toInt]
theorem T.isBool_eq {t : T} (h : t.isBool) : t = .bool t.toBool := by
  cases t <;> simp_all [T.isBool, T.toBool]
theorem T.isStr_eq {t : T} (h : t.isStr) : t = .str t.toStr := by
  cases t <;> simp_all [T.isStr, T.toStr]
theorem T.isAgg_eq {t : T} (h : t.isAgg) : t = .agg t.leaves := by
  cases t <;> simp_all [T.isAgg, T.leaves]
theorem T.isTup_eq {t : T} (h : t.isTup) : t = .tup t.comps := by
  cases t <;> simp_all [T.isTup, T.comps]

/-- The cells from an address on hold these values. -/
def Cells (w : World) (b o : Nat) (cs : List Value) : Prop := ∀ j u, cs[j]? = some u → w.cell? ⟨b, o + j, none⟩ = some u

mutual
/-- A tree, by its cells. 'A': the blocks that it may touch. -/
def RL (w : World) (A : Nat → Prop) : T → List Value → Prop
  | .int k n, cs => cs = [.int k n]
  | .bool b, cs => cs = [.bool b]
  | .str s, cs => cs = [.string s]
  | .agg ts, cs => RS w A ts cs
  | .tup _, _ => False
  | .nil, cs => cs = [.slice none 0 0]
  | .sl sz xs, cs => ∃ p cap, cs = [.slice p xs.length cap] ∧ xs.length ≤ cap ∧
      (xs = [] ∨ ∃ b o es, p = some ⟨b, o, none⟩ ∧ A b ∧ Cells w b o es ∧ RE w A sz xs es)
  | .ptr sz e, cs => ∃ b o es, cs = [.pointer (some ⟨b, o, none⟩)] ∧ A b ∧ Cells w b o es ∧ es.length = sz ∧ RL w A e es
  | .fn f, cs => cs = [.func (.func f) #[] #[]]
  | .raw v, cs => cs = [v]
  | .any, cs => ∃ c, cs = [c]
/-- A struct's leaves. -/
def RS (w : World) (A : Nat → Prop) : List T → List Value → Prop
  | [], cs => cs = []
  | t :: ts, cs => ∃ c cs', cs = c :: cs' ∧ t.isLeaf = true ∧ RL w A t [c] ∧ RS w A ts cs'
/-- A slice's elements, each of 'sz' cells. -/
def RE (w : World) (A : Nat → Prop) (sz : Nat) : List T → List Value → Prop
  | [], cs => cs = []
  | t :: ts, cs => ∃ c1 cs', cs = c1 ++ cs' ∧ c1.length = sz ∧ RL w A t c1 ∧ RE w A sz ts cs'
end
/-- A tree and a value in a slot (no tuple). -/
def R0 (w : World) (A : Nat → Prop) : T → Value → Prop
  | .agg ts, c => ∃ cs, c = .agg cs ∧ RS w A ts cs.toList
  | t, c => RL w A t [c]
def R0s (w : World) (A : Nat → Prop) : List T → List Value → Prop
  | [], cs => cs = []
  | t :: ts, cs => ∃ c cs', cs = c :: cs' ∧ R0 w A t c ∧ R0s w A ts cs'
/-- A tree and a value in a slot. -/
def RT (w : World) (A : Nat → Prop) : T → Value → Prop
  | .tup ts, c => ∃ cs : List Value, c = .tuple cs.toArray ∧ R0s w A ts cs
  | t, c => R0 w A t c

section
variable {w w' : World} {A A' : Nat → Prop}
theorem Cells.mono {b o : Nat} {cs : List Value} (h : Cells w b o cs) (hb : w'.heap[b]? = w.heap[b]?) : Cells w' b o cs := by
  intro j u hj
  rw [World.cell?_of_block (w := w) hb]
  exact h j u hj
mutual
theorem RL.mono (hA : ∀ b, A b → A' b ∧ w'.heap[b]? = w.heap[b]?) : ∀ (t : T) (cs : List Value), RL w A t cs → RL w' A' t cs
  | .int .., _, h => by simpa [RL] using h
  | .bool .., _, h => by simpa [RL] using h
  | .str .., _, h => by simpa [RL] using h
  | .agg ts, cs, h => by
    simp only [RL] at h ⊢
    exact RS.mono hA ts cs h
  | .tup _, _, h => by simp [RL] at h
  | .nil, _, h => by simpa [RL] using h
  | .sl sz xs, cs, h => by
    simp only [RL] at h ⊢
    obtain ⟨p, cap, rfl, hl, h⟩ := h
    refine ⟨p, cap, rfl, hl, ?_⟩
    rcases h with h | ⟨b, o, es, rfl, hb, hc, he⟩
    · exact .inl h
    · exact .inr ⟨b, o, es, rfl, (hA b hb).1, hc.mono (hA b hb).2, RE.mono hA sz xs es he⟩
  | .ptr sz e, cs, h => by
    simp only [RL] at h ⊢
    obtain ⟨b, o, es, rfl, hb, hc, hl, he⟩ := h
    exact ⟨b, o, es, rfl, (hA b hb).1, hc.mono (hA b hb).2, hl, RL.mono hA e es he⟩
  | .fn _, _, h => by simpa [RL] using h
  | .raw _, _, h => by simpa [RL] using h
  | .any, _, h => by simpa [RL] using h
theorem RS.mono (hA : ∀ b, A b → A' b ∧ w'.heap[b]? = w.heap[b]?) : ∀ (ts : List T) (cs : List Value), RS w A ts cs → RS w' A' ts cs
  | [], _, h => by simpa [RS] using h
  | t :: ts, cs, h => by
    simp only [RS] at h ⊢
    obtain ⟨c, cs', rfl, h0, h1, h2⟩ := h
    exact ⟨c, cs', rfl, h0, RL.mono hA t [c] h1, RS.mono hA ts cs' h2⟩
theorem RE.mono (hA : ∀ b, A b → A' b ∧ w'.heap[b]? = w.heap[b]?) (sz : Nat) : ∀ (ts : List T) (cs : List Value), RE w A sz ts cs → RE w' A' sz ts cs
  | [], _, h => by simpa [RE] using h
  | t :: ts, cs, h => by
    simp only [RE] at h ⊢
    obtain ⟨c1, cs', rfl, hl, h1, h2⟩ := h
    exact ⟨c1, cs', rfl, hl, RL.mono hA t c1 h1, RE.mono hA sz ts cs' h2⟩
end
theorem R0.mono (hA : ∀ b, A b → A' b ∧ w'.heap[b]? = w.heap[b]?) : ∀ (t : T) (c : Value), R0 w A t c → R0 w' A' t c := by
  intro t c h
  cases t with
  | agg ts =>
    obtain ⟨cs, rfl, h⟩ := h
    exact ⟨cs, rfl, RS.mono hA _ _ h⟩
  | _ => simp only [R0] at h ⊢; exact RL.mono hA _ _ h
theorem R0s.mono (hA : ∀ b, A b → A' b ∧ w'.heap[b]? = w.heap[b]?) : ∀ (ts : List T) (cs : List Value), R0s w A ts cs → R0s w' A' ts cs
  | [], _, h => h
  | t :: ts, cs, h => by
    obtain ⟨c, cs', rfl, h1, h2⟩ := h
    exact ⟨c, cs', rfl, R0.mono hA _ _ h1, R0s.mono hA _ _ h2⟩
theorem RT.mono (hA : ∀ b, A b → A' b ∧ w'.heap[b]? = w.heap[b]?) : ∀ (t : T) (c : Value), RT w A t c → RT w' A' t c := by
  intro t c h
  cases t with
  | tup ts =>
    obtain ⟨cs, rfl, h⟩ := h
    exact ⟨cs, rfl, R0s.mono hA _ _ h⟩
  | _ => simp only [RT] at h ⊢; exact R0.mono hA _ _ h
end
end Go.Proofs.Ytaefhdklkbohmaa
/- What is owned: kinds of ownership, trees that are owned, their blocks. Generic. -/
namespace Go.Proofs.Ytaefhdklkbohmaa
open Go Go.RowKit

/-- 'sh': not owned. 'sl', 'box': a slice, a variable in memory that is owned, with the kinds of an element's leaves. 'agg', 'tup': a struct's value, several results. -/
inductive K where
  | sh
  | sl (ks : List K)
  | box (ks : List K)
  | agg (ks : List K)
  | tup (ks : List K)
  deriving Inhabited

/-- Element by element. -/
def Each (R : List T → List Value → List Nat → Prop) (sz : Nat) : List T → List Value → List Nat → Prop
  | [], cs, F => cs = [] ∧ F = []
  | x :: xs, cs, F => ∃ c1 c2 F1 F2, cs = c1 ++ c2 ∧ c1.length = sz ∧ F = F1 ++ F2 ∧ R x.leaves c1 F1 ∧ Each R sz xs c2 F2

mutual
def RO (w : World) (A : Nat → Prop) : K → T → Value → List Nat → Prop
  | .sh, t, c, F => F = [] ∧ R0 w A t c
  | .sl ks, t, c, F => (t = .any ∧ F = []) ∨ ∃ xs, t = .sl ks.length xs ∧ ((xs = [] ∧ F = [] ∧ c = .slice none 0 0) ∨
      ∃ b o cap cur e Fs, c = .slice (some ⟨b, o, none⟩) xs.length cap ∧ xs.length ≤ cap ∧ cap ≤ maxLen ∧ w.heap[b]? = some (.cells cur e (0, 0)) ∧ o + cap * ks.length = cur.size ∧
        Each (fun ts cs F => ROs w A ks ts cs F) ks.length xs ((cur.toList.drop o).take (xs.length * ks.length)) Fs ∧ F = b :: Fs)
  | .box ks, t, c, F => (t = .any ∧ F = []) ∨ ∃ b cur e Fs, c = .pointer (some ⟨b, 0, none⟩) ∧ w.heap[b]? = some (.cells cur e (0, 0)) ∧ ROs w A ks t.leaves cur.toList Fs ∧ F = b :: Fs ∧ (∀ us, t ≠ .tup us)
  | .agg ks, t, c, F => (t = .any ∧ F = []) ∨ ∃ ts cs, t = .agg ts ∧ c = .agg cs ∧ ROs w A ks ts cs.toList F
  | .tup ks, t, c, F => (t = .any ∧ F = []) ∨ ∃ (ts : List T) (cs : List Value), t = .tup ts ∧ c = .tuple cs.toArray ∧ ROt w A ks ts cs F
/-- A struct's leaves. -/
def ROs (w : World) (A : Nat → Prop) : List K → List T → List Value → List Nat → Prop
  | [], ts, cs, F => ts = [] ∧ cs = [] ∧ F = []
  | k :: ks, ts, cs, F => ∃ t ts' c cs' F1 F2, ts = t :: ts' ∧ cs = c :: cs' ∧ F = F1 ++ F2 ∧ t.isLeaf = true ∧ RO w A k t c F1 ∧ ROs w A ks ts' cs' F2
/-- Several results. -/
def ROt (w : World) (A : Nat → Prop) : List K → List T → List Value → List Nat → Prop
  | [], ts, cs, F => ts = [] ∧ cs = [] ∧ F = []
  | k :: ks, ts, cs, F => ∃ t ts' c cs' F1 F2, ts = t :: ts' ∧ cs = c :: cs' ∧ F = F1 ++ F2 ∧ (∀ us, t ≠ .tup us) ∧ RO w A k t c F1 ∧ ROt w A ks ts' cs' F2
end

theorem Each.imp {R R' : List T → List Value → List Nat → Prop} {sz : Nat} : ∀ {xs : List T} {cs : List Value} {F : List Nat}, (∀ ts cs F', (∀ b ∈ F', b ∈ F) → R ts cs F' → R' ts cs F') → Each R sz xs cs F → Each R' sz xs cs F
  | [], _, _, _, h => h
  | x :: xs, _, _, hR, h => by
    obtain ⟨c1, c2, F1, F2, rfl, hl, rfl, h1, h2⟩ := h
    exact ⟨c1, c2, F1, F2, rfl, hl, rfl, hR _ _ _ (fun b hb => List.mem_append_left _ hb) h1, Each.imp (fun ts cs F' hF => hR ts cs F' (fun b hb => List.mem_append_right _ (hF b hb))) h2⟩

section
variable {w w' : World} {A A' : Nat → Prop}
mutual
theorem RO.mono (hA : ∀ b, A b → A' b ∧ w'.heap[b]? = w.heap[b]?) : ∀ (k : K) (t : T) (c : Value) (F : List Nat), (∀ b ∈ F, w'.heap[b]? = w.heap[b]?) → RO w A k t c F → RO w' A' k t c F
  | .sh, t, c, F, _, h => by
    simp only [RO] at h ⊢
    exact ⟨h.1, R0.mono hA _ _ h.2⟩
  | .sl ks, t, c, F, hF, h => by
    simp only [RO] at h ⊢
    rcases h with h | ⟨xs, rfl, h⟩
    · exact .inl h
    refine .inr ⟨xs, rfl, ?_⟩
    rcases h with h | ⟨b, o, cap, cur, e, Fs, rfl, h1, h2, h3, h4, h5, rfl⟩
    · exact .inl h
    · refine .inr ⟨b, o, cap, cur, e, Fs, rfl, h1, h2, ?_, h4, ?_, rfl⟩
      · rw [hF b (by simp)]; exact h3
      · exact Each.imp (fun ts cs F' hF' h => ROs.mono hA ks ts cs F' (fun b hb => hF b (List.mem_cons_of_mem _ (hF' b hb))) h) h5
  | .box ks, t, c, F, hF, h => by
    simp only [RO] at h ⊢
    rcases h with h | ⟨b, cur, e, Fs, rfl, h3, h5, rfl, h6⟩
    · exact .inl h
    refine .inr ⟨b, cur, e, Fs, rfl, ?_, ?_, rfl, h6⟩
    · rw [hF b (by simp)]; exact h3
    · exact ROs.mono hA ks _ _ Fs (fun b hb => hF b (List.mem_cons_of_mem _ hb)) h5
  | .agg ks, t, c, F, hF, h => by
    simp only [RO] at h ⊢
    rcases h with h | ⟨ts, cs, rfl, rfl, h⟩
    · exact .inl h
    exact .inr ⟨ts, cs, rfl, rfl, ROs.mono hA ks _ _ F hF h⟩
  | .tup ks, t, c, F, hF, h => by
    simp only [RO] at h ⊢
    rcases h with h | ⟨ts, cs, rfl, rfl, h⟩
    · exact .inl h
    exact .inr ⟨ts, cs, rfl, rfl, ROt.mono hA ks _ _ F hF h⟩
theorem ROs.mono (hA : ∀ b, A b → A' b ∧ w'.heap[b]? = w.heap[b]?) : ∀ (ks : List K) (ts : List T) (cs : List Value) (F : List Nat), (∀ b ∈ F, w'.heap[b]? = w.heap[b]?) → ROs w A ks ts cs F → ROs w' A' ks ts cs F
  | [], _, _, _, _, h => by simpa [ROs] using h
  | k :: ks, ts, cs, F, hF, h => by
    simp only [ROs] at h ⊢
    obtain ⟨t, ts', c, cs', F1, F2, rfl, rfl, rfl, hl, h1, h2⟩ := h
    exact ⟨t, ts', c, cs', F1, F2, rfl, rfl, rfl, hl, RO.mono hA k t c F1 (fun b hb => hF b (List.mem_append_left _ hb)) h1, ROs.mono hA ks ts' cs' F2 (fun b hb => hF b (List.mem_append_right _ hb)) h2⟩
theorem ROt.mono (hA : ∀ b, A b → A' b ∧ w'.heap[b]? = w.heap[b]?) : ∀ (ks : List K) (ts : List T) (cs : List Value) (F : List Nat), (∀ b ∈ F, w'.heap[b]? = w.heap[b]?) → ROt w A ks ts cs F → ROt w' A' ks ts cs F
  | [], _, _, _, _, h => by simpa [ROt] using h
  | k :: ks, ts, cs, F, hF, h => by
    simp only [ROt] at h ⊢
    obtain ⟨t, ts', c, cs', F1, F2, rfl, rfl, rfl, hn, h1, h2⟩ := h
    exact ⟨t, ts', c, cs', F1, F2, rfl, rfl, rfl, hn, RO.mono hA k t c F1 (fun b hb => hF b (List.mem_append_left _ hb)) h1, ROt.mono hA ks ts' cs' F2 (fun b hb => hF b (List.mem_append_right _ hb)) h2⟩
end
end

/-! ### What is owned, read -/
theorem R0_leaf {w : World} {A : Nat → Prop} {t : T} {c : Value} (h : t.isLeaf = true) : R0 w A t c ↔ RL w A t [c] := by
  cases t <;> simp_all [T.isLeaf, R0]
theorem RT_leaf {w : World} {A : Nat → Prop} {t : T} {c : Value} (h : t.isLeaf = true) : RT w A t c ↔ RL w A t [c] := by
  cases t <;> simp_all [T.isLeaf, R0, RT]
theorem RL_leaves {w : World} {A : Nat → Prop} {t : T} {cs : List Value} (h : ∀ us, t ≠ .tup us) (hs : RS w A t.leaves cs) : RL w A t cs := by
  cases t with
  | tup us => exact absurd rfl (h us)
  | agg ts => simpa [RL, T.leaves] using hs
  | _ =>
    simp only [T.leaves, RS] at hs
    obtain ⟨c, cs', rfl, _, h1, rfl⟩ := hs
    exact h1
theorem RS_leaves {w : World} {A : Nat → Prop} {t : T} {cs : List Value} (h : RL w A t cs) : RS w A t.leaves cs := by
  cases t with
  | agg ts => simpa [RL, T.leaves] using h
  | tup us => simp [RL] at h
  | sl z xs =>
    have h' := h
    simp only [RL] at h'
    obtain ⟨p, cap, rfl, _⟩ := h'
    simp only [T.leaves, RS]
    exact ⟨_, [], rfl, rfl, h, rfl⟩
  | ptr z e =>
    have h' := h
    simp only [RL] at h'
    obtain ⟨b, o, es, rfl, _⟩ := h'
    simp only [T.leaves, RS]
    exact ⟨_, [], rfl, rfl, h, rfl⟩
  | any =>
    have h' := h
    simp only [RL] at h'
    obtain ⟨c, rfl⟩ := h'
    simp only [T.leaves, RS]
    exact ⟨_, [], rfl, rfl, h, rfl⟩
  | _ =>
    have h' := h
    simp only [RL] at h'
    subst h'
    simp only [T.leaves, RS]
    exact ⟨_, [], rfl, rfl, h, rfl⟩
theorem RS.len {w : World} {A : Nat → Prop} : ∀ {ts : List T} {cs : List Value}, RS w A ts cs → ts.length = cs.length
  | [], _, h => by simp only [RS] at h; simp [h]
  | t :: ts, _, h => by
    simp only [RS] at h
    obtain ⟨c, cs', rfl, _, _, h2⟩ := h
    simp [RS.len h2]
theorem RS.drop {w : World} {A : Nat → Prop} : ∀ (f : Nat) {ts : List T} {cs : List Value}, RS w A ts cs → RS w A (ts.drop f) (cs.drop f)
  | 0, _, _, h => by simpa using h
  | f + 1, [], _, h => by simp only [RS] at h; simp [h, RS]
  | f + 1, t :: ts, _, h => by
    simp only [RS] at h
    obtain ⟨c, cs', rfl, _, _, h2⟩ := h
    simpa using RS.drop f h2
theorem RS.take {w : World} {A : Nat → Prop} : ∀ (f : Nat) {ts : List T} {cs : List Value}, RS w A ts cs → RS w A (ts.take f) (cs.take f)
  | 0, _, _, _ => by simp [RS]
  | f + 1, [], _, h => by simp only [RS] at h; simp [h, RS]
  | f + 1, t :: ts, _, h => by
    simp only [RS] at h
    obtain ⟨c, cs', rfl, h0, h1, h2⟩ := h
    simp only [List.take_succ_cons, RS]
    exact ⟨c, _, rfl, h0, h1, RS.take f h2⟩
theorem RS.at {w : World} {A : Nat → Prop} : ∀ (f : Nat) {ts : List T} {cs : List Value}, RS w A ts cs → f < ts.length → ∃ v, cs[f]? = some v ∧ (ts.getD f default).isLeaf = true ∧ RL w A (ts.getD f default) [v]
  | _, [], _, _, hf => by simp at hf
  | 0, t :: ts, _, h, _ => by
    simp only [RS] at h
    obtain ⟨c, cs', rfl, h0, h1, h2⟩ := h
    exact ⟨c, by simp, by simpa using h0, by simpa using h1⟩
  | f + 1, t :: ts, _, h, hf => by
    simp only [RS] at h
    obtain ⟨c, cs', rfl, h0, h1, h2⟩ := h
    simpa using RS.at f h2 (by simpa using hf)
theorem Each.len {R : List T → List Value → List Nat → Prop} {sz : Nat} : ∀ {xs : List T} {cs : List Value} {F : List Nat}, Each R sz xs cs F → cs.length = xs.length * sz
  | [], _, _, h => by simp [h.1]
  | x :: xs, _, _, h => by
    obtain ⟨c1, c2, F1, F2, rfl, hl, rfl, h1, h2⟩ := h
    simp [h2.len, hl, Nat.add_mul]
    omega
theorem cells_of_block {w : World} {b o n : Nat} {cur : Array Value} {e : TypeId} {fr : Nat × Nat} (h : w.heap[b]? = some (.cells cur e fr)) : Cells w b o ((cur.toList.drop o).take n) := by
  intro j u hj
  rw [cell_of_row w b _ cur e fr h]
  rw [List.getElem?_take] at hj
  split at hj
  · rw [List.getElem?_drop] at hj
    rw [← hj]; simp
  · cases hj

/-- What an owned tree looks like to one who only reads it. -/
def K.look : K → T → T
  | .box ks, t => .ptr ks.length t
  | _, t => t
end Go.Proofs.Ytaefhdklkbohmaa
/- What is owned, read; places in it. Generic. -/
namespace Go.Proofs.Ytaefhdklkbohmaa
open Go Go.RowKit

mutual
/-- No variable's address inside. -/
def K.plain : K → Bool
  | .sh => true
  | .sl ks => K.plains ks
  | .box _ => false
  | .agg ks => K.plains ks
  | .tup ks => K.plains ks
def K.plains : List K → Bool
  | [] => true
  | k :: ks => k.plain && K.plains ks
end

theorem R0s_leaf {w : World} {A : Nat → Prop} {t : T} {c : Value} (h : RT w A t c) (ht : ∀ us, t ≠ .tup us) : R0 w A t c := by
  cases t <;> simp_all [RT]

section
variable {w : World} {A A' : Nat → Prop}
theorem RE_of_each {R : List T → List Value → List Nat → Prop} {sz : Nat} (hR : ∀ ts cs F, R ts cs F → RS w A' ts cs) : ∀ {xs : List T} {cs : List Value} {F : List Nat}, (∀ x ∈ xs, ∀ us, x ≠ .tup us) → Each R sz xs cs F → RE w A' sz xs cs
  | [], _, _, _, h => by simpa [RE] using h.1
  | x :: xs, _, _, hx, h => by
    obtain ⟨c1, c2, F1, F2, rfl, hl, rfl, h1, h2⟩ := h
    simp only [RE]
    exact ⟨c1, c2, rfl, hl, RL_leaves (hx x (by simp)) (hR _ _ _ h1), RE_of_each hR (fun y hy => hx y (by simp [hy])) h2⟩
end
theorem Each.noTup {R : List T → List Value → List Nat → Prop} {sz : Nat} (hR : ∀ ts cs F, R ts cs F → ∀ u ∈ ts, u.isLeaf = true) : ∀ {xs : List T} {cs : List Value} {F : List Nat}, Each R sz xs cs F → ∀ x ∈ xs, ∀ us, x ≠ .tup us
  | [], _, _, _, x, hx => by simp at hx
  | y :: xs, _, _, h, x, hx => by
    obtain ⟨c1, c2, F1, F2, rfl, hl, rfl, h1, h2⟩ := h
    rcases List.mem_cons.1 hx with rfl | hx
    · rintro us rfl
      have := hR _ _ _ h1 (.tup us) (by simp [T.leaves])
      simp [T.isLeaf] at this
    · exact Each.noTup hR h2 x hx

section
variable {w : World} {A A' : Nat → Prop}
theorem ROs.leafs : ∀ (ks : List K) (ts : List T) (cs : List Value) (F : List Nat), ROs w A ks ts cs F → (∀ u ∈ ts, u.isLeaf = true) ∧ ts.length = ks.length ∧ cs.length = ks.length
  | [], ts, cs, F, h => by
    simp only [ROs] at h
    simp [h.1, h.2.1]
  | k :: ks, ts, cs, F, h => by
    simp only [ROs] at h
    obtain ⟨t, ts', c, cs', F1, F2, rfl, rfl, rfl, hl, h1, h2⟩ := h
    obtain ⟨h3, h4, h5⟩ := ROs.leafs ks ts' cs' F2 h2
    refine ⟨?_, by simp [h4], by simp [h5]⟩
    intro u hu
    rcases List.mem_cons.1 hu with rfl | hu
    · exact hl
    · exact h3 u hu

mutual
theorem RO.read (hA : ∀ b, A b → A' b) : ∀ (k : K) (t : T) (c : Value) (F : List Nat), k.plain = true → (∀ b ∈ F, A' b) → RO w A k t c F → RT w A' t c
  | .sh, t, c, F, _, _, h => by
    simp only [RO] at h
    have h2 := R0.mono (w' := w) (A' := A') (fun b hb => ⟨hA b hb, rfl⟩) _ _ h.2
    cases t with
    | tup us => simp [R0, RL] at h2
    | _ => simpa only [RT] using h2
  | .sl ks, t, c, F, hp, hF, h => by
    simp only [RO] at h
    simp only [K.plain] at hp
    rcases h with ⟨rfl, _⟩ | ⟨xs, rfl, h⟩
    · simp [RT, R0, RL]
    simp only [RT, R0, RL]
    rcases h with ⟨rfl, _, rfl⟩ | ⟨b, o, cap, cur, e, Fs, rfl, h1, h2, h3, h4, h5, rfl⟩
    · exact ⟨none, 0, rfl, Nat.le_refl _, .inl rfl⟩
    · refine ⟨_, cap, rfl, h1, .inr ⟨b, o, _, rfl, hF b (by simp), cells_of_block h3, RE_of_each (R := fun ts cs F' => ROs w A ks ts cs F' ∧ ∀ b ∈ F', A' b) ?_ ?_ (Each.imp ?_ h5)⟩⟩
      · intro ts cs F' h'
        exact ROs.read hA ks ts cs F' hp h'.2 h'.1
      · exact Each.noTup (fun ts cs F h => (ROs.leafs ks ts cs F h).1) h5
      · exact fun ts cs F' hF' h' => ⟨h', fun b hb => hF b (List.mem_cons_of_mem _ (hF' b hb))⟩
  | .box ks, t, c, F, hp, hF, h => by simp [K.plain] at hp
  | .agg ks, t, c, F, hp, hF, h => by
    simp only [RO] at h
    simp only [K.plain] at hp
    rcases h with ⟨rfl, _⟩ | ⟨ts, cs, rfl, rfl, h⟩
    · simp [RT, R0, RL]
    simp only [RT, R0]
    exact ⟨cs, rfl, ROs.read hA ks _ _ F hp hF h⟩
  | .tup ks, t, c, F, hp, hF, h => by
    simp only [RO] at h
    simp only [K.plain] at hp
    rcases h with ⟨rfl, _⟩ | ⟨ts, cs, rfl, rfl, h⟩
    · simp [RT, R0, RL]
    simp only [RT]
    exact ⟨cs, rfl, ROt.read hA ks _ _ F hp hF h⟩
theorem ROs.read (hA : ∀ b, A b → A' b) : ∀ (ks : List K) (ts : List T) (cs : List Value) (F : List Nat), K.plains ks = true → (∀ b ∈ F, A' b) → ROs w A ks ts cs F → RS w A' ts cs
  | [], _, _, _, _, _, h => by
    simp only [ROs] at h
    simp [h.1, h.2.1, RS]
  | k :: ks, ts, cs, F, hp, hF, h => by
    simp only [ROs] at h
    simp only [K.plains, Bool.and_eq_true] at hp
    obtain ⟨t, ts', c, cs', F1, F2, rfl, rfl, rfl, hl, h1, h2⟩ := h
    simp only [RS]
    refine ⟨c, cs', rfl, hl, (RT_leaf hl).1 (RO.read hA k t c F1 hp.1 (fun b hb => hF b (List.mem_append_left _ hb)) h1), ROs.read hA ks ts' cs' F2 hp.2 (fun b hb => hF b (List.mem_append_right _ hb)) h2⟩
theorem ROt.read (hA : ∀ b, A b → A' b) : ∀ (ks : List K) (ts : List T) (cs : List Value) (F : List Nat), K.plains ks = true → (∀ b ∈ F, A' b) → ROt w A ks ts cs F → R0s w A' ts cs
  | [], _, _, _, _, _, h => by
    simp only [ROt] at h
    simp [h.1, h.2.1, R0s]
  | k :: ks, ts, cs, F, hp, hF, h => by
    simp only [ROt] at h
    simp only [K.plains, Bool.and_eq_true] at hp
    obtain ⟨t, ts', c, cs', F1, F2, rfl, rfl, rfl, hn, h1, h2⟩ := h
    have h3 := RO.read hA k t c F1 hp.1 (fun b hb => hF b (List.mem_append_left _ hb)) h1
    refine ⟨c, cs', rfl, R0s_leaf h3 hn, ROt.read hA ks ts' cs' F2 hp.2 (fun b hb => hF b (List.mem_append_right _ hb)) h2⟩
end
end
end Go.Proofs.Ytaefhdklkbohmaa
/- Places in what is owned. Generic. -/
namespace Go.Proofs.Ytaefhdklkbohmaa
open Go Go.RowKit

def K.kids : K → List K
  | .sl ks => ks
  | .box ks => ks
  | .agg ks => ks
  | .tup ks => ks
  | .sh => []
def K.kid (k : K) (f : Nat) : K := k.kids.getD f .sh
def T.kid (k : K) (t : T) (i f : Nat) : T :=
  match k with
  | .sl _ => (t.elems.getD i default).leaves.getD f default
  | .tup _ => t.comps.getD f default
  | _ => t.leaves.getD f default
def T.setLeaf (t : T) (f : Nat) (v : T) : T :=
  match t with
  | .agg ts => .agg (ts.set f v)
  | _ => v
def T.setKid (k : K) (t : T) (i f : Nat) (v : T) : T :=
  match k with
  | .sl ks => .sl ks.length (t.elems.set i ((t.elems.getD i default).setLeaf f v))
  | .tup _ => .tup (t.comps.set f v)
  | _ => t.setLeaf f v
def K.okKid (k : K) (t : T) (i f : Nat) : Prop :=
  f < k.kids.length ∧ match k with
    | .sl _ => i < t.elems.length
    | _ => t.isAny = false
def kidV (w : World) (k : K) (c : Value) (i f : Nat) : Option Value :=
  match k with
  | .sl ks => match c with
    | .slice (some ⟨b, o, none⟩) _ _ => w.cell? ⟨b, o + (i * ks.length + f), none⟩
    | _ => none
  | .box _ => match c with
    | .pointer (some ⟨b, _, none⟩) => w.cell? ⟨b, f, none⟩
    | _ => none
  | .agg _ => match c with
    | .agg cs => cs[f]?
    | _ => none
  | .tup _ => match c with
    | .tuple cs => cs[f]?
    | _ => none
  | .sh => none
/-- What may lie in a container of the kind: in several results anything but several results, else leaves. -/
def K.fits (k : K) (t : T) : Prop :=
  match k with
  | .tup _ => ∀ us, t ≠ .tup us
  | _ => t.isLeaf = true

theorem Each.at {R : List T → List Value → List Nat → Prop} {sz : Nat} : ∀ {xs : List T} {cs : List Value} {F : List Nat} (_ : Each R sz xs cs F) (i : Nat) (_ : i < xs.length),
    ∃ c1 c2 c3 Fa F1 Fb, cs = c1 ++ c2 ++ c3 ∧ c1.length = i * sz ∧ c2.length = sz ∧ F = Fa ++ F1 ++ Fb ∧ R (xs.getD i default).leaves c2 F1 ∧
      ∀ (R' : List T → List Value → List Nat → Prop) (x' : T) (c2' : List Value) (F1' : List Nat), c2'.length = sz → (∀ ts cs F', (∀ b ∈ F', b ∈ Fa ++ Fb) → R ts cs F' → R' ts cs F') →
        R' x'.leaves c2' F1' → Each R' sz (xs.set i x') (c1 ++ c2' ++ c3) (Fa ++ F1' ++ Fb)
  | [], _, _, _, i, hi => by simp at hi
  | x :: xs, _, _, h, 0, _ => by
    obtain ⟨c1, c2, F1, F2, rfl, hl, rfl, h1, h2⟩ := h
    refine ⟨[], c1, c2, [], F1, F2, by simp, by simp, hl, by simp, by simpa using h1, ?_⟩
    intro R' x' c2' F1' hl' hR hx
    simp only [List.set_cons_zero, List.nil_append]
    exact ⟨c2', c2, F1', F2, rfl, hl', rfl, hx, Each.imp (fun ts cs F' hF h => hR ts cs F' (by simpa using hF) h) h2⟩
  | x :: xs, _, _, h, i + 1, hi => by
    obtain ⟨c1, c2, F1, F2, rfl, hl, rfl, h1, h2⟩ := h
    obtain ⟨d1, d2, d3, Fa, G, Fb, rfl, e1, e2, rfl, e3, e4⟩ := Each.at h2 i (by simpa using hi)
    refine ⟨c1 ++ d1, d2, d3, F1 ++ Fa, G, Fb, by simp, by simp [e1, hl, Nat.add_mul]; omega, e2, by simp, by simpa using e3, ?_⟩
    intro R' x' c2' F1' hl' hR hx
    simp only [List.set_cons_succ]
    refine ⟨c1, d1 ++ c2' ++ d3, F1, Fa ++ F1' ++ Fb, by simp, hl, by simp, ?_, e4 R' x' c2' F1' hl' ?_ hx⟩
    · exact hR _ _ _ (fun b hb => by simp [hb]) h1
    · exact fun ts cs F' hF h => hR ts cs F' (fun b hb => by have := hF b hb; simp at this ⊢; rcases this with h | h <;> simp [h]) h

section
variable {w : World} {A : Nat → Prop}
theorem ROs.at : ∀ (ks : List K) (ts : List T) (cs : List Value) (F : List Nat) (_ : ROs w A ks ts cs F) (f : Nat) (_ : f < ks.length),
    ∃ c Fa F1 Fb, cs[f]? = some c ∧ F = Fa ++ F1 ++ Fb ∧ (ts.getD f default).isLeaf = true ∧ RO w A (ks.getD f .sh) (ts.getD f default) c F1 ∧
      ∀ (w' : World) (A' : Nat → Prop) (t' : T) (c' : Value) (F1' : List Nat), (∀ b, A b → A' b ∧ w'.heap[b]? = w.heap[b]?) → (∀ b ∈ Fa ++ Fb, w'.heap[b]? = w.heap[b]?) → t'.isLeaf = true →
        RO w' A' (ks.getD f .sh) t' c' F1' → ROs w' A' ks (ts.set f t') (cs.set f c') (Fa ++ F1' ++ Fb)
  | [], _, _, _, _, f, hf => by simp at hf
  | k :: ks, ts, cs, F, h, 0, _ => by
    simp only [ROs] at h
    obtain ⟨t, ts', c, cs', F1, F2, rfl, rfl, rfl, hl, h1, h2⟩ := h
    refine ⟨c, [], F1, F2, by simp, by simp, by simpa using hl, by simpa using h1, ?_⟩
    intro w' A' t' c' F1' hA hF hl' h'
    simp only [List.set_cons_zero, ROs]
    exact ⟨t', ts', c', cs', F1', F2, rfl, rfl, by simp, hl', by simpa using h', ROs.mono hA ks ts' cs' F2 (fun b hb => hF b (by simp [hb])) h2⟩
  | k :: ks, ts, cs, F, h, f + 1, hf => by
    simp only [ROs] at h
    obtain ⟨t, ts', c, cs', F1, F2, rfl, rfl, rfl, hl, h1, h2⟩ := h
    obtain ⟨d, Fa, G, Fb, e1, rfl, e2, e3, e4⟩ := ROs.at ks ts' cs' F2 h2 f (by simpa using hf)
    refine ⟨d, F1 ++ Fa, G, Fb, by simpa using e1, by simp, by simpa using e2, by simpa using e3, ?_⟩
    intro w' A' t' c' F1' hA hF hl' h'
    simp only [List.set_cons_succ, ROs]
    exact ⟨t, ts'.set f t', c, cs'.set f c', F1, Fa ++ F1' ++ Fb, rfl, rfl, by simp, hl, RO.mono hA k t c F1 (fun b hb => hF b (by simp [hb])) h1,
      e4 w' A' t' c' F1' hA (fun b hb => hF b (by simp at hb ⊢; rcases hb with h | h <;> simp [h])) hl' (by simpa using h')⟩
theorem ROt.at : ∀ (ks : List K) (ts : List T) (cs : List Value) (F : List Nat) (_ : ROt w A ks ts cs F) (f : Nat) (_ : f < ks.length),
    ∃ c Fa F1 Fb, cs[f]? = some c ∧ F = Fa ++ F1 ++ Fb ∧ (∀ us, ts.getD f default ≠ .tup us) ∧ RO w A (ks.getD f .sh) (ts.getD f default) c F1 ∧
      ∀ (w' : World) (A' : Nat → Prop) (t' : T) (c' : Value) (F1' : List Nat), (∀ b, A b → A' b ∧ w'.heap[b]? = w.heap[b]?) → (∀ b ∈ Fa ++ Fb, w'.heap[b]? = w.heap[b]?) → (∀ us, t' ≠ .tup us) →
        RO w' A' (ks.getD f .sh) t' c' F1' → ROt w' A' ks (ts.set f t') (cs.set f c') (Fa ++ F1' ++ Fb)
  | [], _, _, _, _, f, hf => by simp at hf
  | k :: ks, ts, cs, F, h, 0, _ => by
    simp only [ROt] at h
    obtain ⟨t, ts', c, cs', F1, F2, rfl, rfl, rfl, hl, h1, h2⟩ := h
    refine ⟨c, [], F1, F2, by simp, by simp, by simpa using hl, by simpa using h1, ?_⟩
    intro w' A' t' c' F1' hA hF hl' h'
    simp only [List.set_cons_zero, ROt]
    exact ⟨t', ts', c', cs', F1', F2, rfl, rfl, by simp, hl', by simpa using h', ROt.mono hA ks ts' cs' F2 (fun b hb => hF b (by simp [hb])) h2⟩
  | k :: ks, ts, cs, F, h, f + 1, hf => by
    simp only [ROt] at h
    obtain ⟨t, ts', c, cs', F1, F2, rfl, rfl, rfl, hl, h1, h2⟩ := h
    obtain ⟨d, Fa, G, Fb, e1, rfl, e2, e3, e4⟩ := ROt.at ks ts' cs' F2 h2 f (by simpa using hf)
    refine ⟨d, F1 ++ Fa, G, Fb, by simpa using e1, by simp, by simpa using e2, by simpa using e3, ?_⟩
    intro w' A' t' c' F1' hA hF hl' h'
    simp only [List.set_cons_succ, ROt]
    exact ⟨t, ts'.set f t', c, cs'.set f c', F1, Fa ++ F1' ++ Fb, rfl, rfl, by simp, hl, RO.mono hA k t c F1 (fun b hb => hF b (by simp [hb])) h1,
      e4 w' A' t' c' F1' hA (fun b hb => hF b (by simp at hb ⊢; rcases hb with h | h <;> simp [h])) hl' (by simpa using h')⟩
end

theorem set_same {α : Type} (xs : List α) (f : Nat) (c : α) (h : xs[f]? = some c) : xs.set f c = xs := by
  apply List.ext_getElem?
  intro i
  rw [List.getElem?_set]
  split
  · rename_i e
    subst e
    split
    · exact h.symm
    · rename_i h'
      rw [List.getElem?_eq_none (by omega)]
  · rfl

theorem leaf_leaves {v : T} (hv : v.isLeaf = true) : v.leaves = [v] := by cases v <;> simp_all [T.isLeaf, T.leaves]
theorem setLeaf_leaves (t : T) (f : Nat) (v : T) (hf : f < t.leaves.length) (hv : v.isLeaf = true) : (t.setLeaf f v).leaves = t.leaves.set f v := by
  cases t with
  | agg ts => rfl
  | _ =>
    simp only [T.leaves, List.length_singleton] at hf
    obtain rfl : f = 0 := by omega
    show v.leaves = _
    rw [leaf_leaves hv]
    rfl
theorem setLeaf_noTup (t : T) (f : Nat) (v : T) (hv : v.isLeaf = true) : ∀ us, t.setLeaf f v ≠ .tup us := by
  intro us h
  cases t with
  | agg ts => simp [T.setLeaf] at h
  | _ => simp only [T.setLeaf] at h; subst h; simp [T.isLeaf] at hv

/-- One step down: what lies there, and how it is put back while the blocks of all else stay as they are. -/
theorem RO.step {w : World} {A : Nat → Prop} {k : K} {t : T} {c : Value} {F : List Nat} (h : RO w A k t c F) (i f : Nat) (hk : k.okKid t i f) :
    ∃ c1 Fa F1 Fb, kidV w k c i f = some c1 ∧ F = Fa ++ F1 ++ Fb ∧ k.fits (T.kid k t i f) ∧ RO w A (k.kid f) (T.kid k t i f) c1 F1 ∧
      ∀ (w' : World) (A' : Nat → Prop) (t' : T) (F1' : List Nat), (∀ b, A b → A' b ∧ w'.heap[b]? = w.heap[b]?) → (∀ b ∈ Fa ++ Fb, w'.heap[b]? = w.heap[b]?) → k.fits t' →
        RO w' A' (k.kid f) t' c1 F1' → RO w' A' k (T.setKid k t i f t') c (Fa ++ F1' ++ Fb) ∧ kidV w' k c i f = some c1 := by
  cases k with
  | sh => simp [K.okKid, K.kids] at hk
  | agg ks =>
    simp only [RO] at h
    simp only [K.okKid, K.kids] at hk
    rcases h with ⟨rfl, _⟩ | ⟨ts, cs, rfl, rfl, h⟩
    · simp [T.isAny] at hk
    obtain ⟨c1, Fa, F1, Fb, e1, rfl, e2, e3, e4⟩ := ROs.at ks ts cs.toList F h f hk.1
    have e1' : cs[f]? = some c1 := by simpa using e1
    refine ⟨c1, Fa, F1, Fb, by simpa [kidV] using e1', rfl, by simpa [K.fits, T.kid, T.leaves] using e2, by simpa [K.kid, K.kids, T.kid, T.leaves] using e3, ?_⟩
    intro w' A' t' F1' hA hF hl h'
    refine ⟨?_, by simpa [kidV] using e1'⟩
    simp only [RO, T.setKid, T.setLeaf]
    refine .inr ⟨_, cs, rfl, rfl, ?_⟩
    have := e4 w' A' t' c1 F1' hA hF hl (by simpa [K.kid, K.kids] using h')
    rwa [set_same _ _ _ e1] at this
  | tup ks =>
    simp only [RO] at h
    simp only [K.okKid, K.kids] at hk
    rcases h with ⟨rfl, _⟩ | ⟨ts, cs, rfl, rfl, h⟩
    · simp [T.isAny] at hk
    obtain ⟨c1, Fa, F1, Fb, e1, rfl, e2, e3, e4⟩ := ROt.at ks ts cs F h f hk.1
    have e1' : cs.toArray[f]? = some c1 := by simpa using e1
    refine ⟨c1, Fa, F1, Fb, by simpa [kidV] using e1, rfl, by simpa [K.fits, T.kid, T.comps] using e2, by simpa [K.kid, K.kids, T.kid, T.comps] using e3, ?_⟩
    intro w' A' t' F1' hA hF hl h'
    refine ⟨?_, by simpa [kidV] using e1⟩
    simp only [RO, T.setKid, T.comps]
    refine .inr ⟨_, cs, rfl, rfl, ?_⟩
    have := e4 w' A' t' c1 F1' hA hF hl (by simpa [K.kid, K.kids] using h')
    rwa [set_same _ _ _ e1] at this
  | box ks =>
    simp only [RO] at h
    simp only [K.okKid, K.kids] at hk
    rcases h with ⟨rfl, _⟩ | ⟨b, cur, e, Fs, rfl, h1, h2, rfl, h3⟩
    · simp [T.isAny] at hk
    obtain ⟨c1, Fa, F1, Fb, e1, rfl, e2, e3, e4⟩ := ROs.at ks _ _ Fs h2 f hk.1
    have e1' : cur[f]? = some c1 := by simpa using e1
    refine ⟨c1, b :: Fa, F1, Fb, ?_, by simp, by simpa [K.fits, T.kid] using e2, by simpa [K.kid, K.kids, T.kid] using e3, ?_⟩
    · simp only [kidV]; rw [cell_of_row w b f cur e (0, 0) h1]; exact e1'
    intro w' A' t' F1' hA hF hl h'
    have hb : w'.heap[b]? = w.heap[b]? := hF b (by simp)
    have h4 := e4 w' A' t' c1 F1' hA (fun x hx => hF x (by simp at hx ⊢; rcases hx with h | h <;> simp [h])) hl (by simpa [K.kid, K.kids] using h')
    rw [set_same _ _ _ e1] at h4
    refine ⟨?_, ?_⟩
    · simp only [RO]
      refine .inr ⟨b, cur, e, Fa ++ F1' ++ Fb, rfl, by rw [hb]; exact h1, ?_, by simp, ?_⟩
      · have hlen := (ROs.leafs ks _ _ _ h2).2.1
        simp only [T.setKid]
        rw [setLeaf_leaves t f t' (by omega) hl]; exact h4
      · simp only [T.setKid]; exact setLeaf_noTup t f t' hl
    · simp only [kidV]; rw [World.cell?_of_block (w := w) hb, cell_of_row w b f cur e (0, 0) h1]; exact e1'
  | sl ks =>
    simp only [RO] at h
    rcases h with ⟨rfl, _⟩ | ⟨xs, rfl, h⟩
    · simp [K.okKid, T.elems] at hk
    simp only [K.okKid, K.kids, T.elems] at hk
    rcases h with ⟨rfl, _⟩ | ⟨b, o, cap, cur, e, Fs, rfl, h1, h2, h3, h4, h5, rfl⟩
    · simp at hk
    obtain ⟨d1, d2, d3, Ga, G, Gb, g1, g2, g3, rfl, g4, g5⟩ := Each.at h5 i hk.2
    obtain ⟨c1, Fa, F1, Fb, e1, rfl, e2, e3, e4⟩ := ROs.at ks _ _ G g4 f hk.1
    have hcell : w.cell? ⟨b, o + (i * ks.length + f), none⟩ = some c1 := by
      refine cells_of_block (n := xs.length * ks.length) h3 (i * ks.length + f) c1 ?_
      rw [g1, List.append_assoc, List.getElem?_append_right (by omega), g2, Nat.add_sub_cancel_left, List.getElem?_append_left (by omega)]
      exact e1
    refine ⟨c1, b :: (Ga ++ Fa), F1, Fb ++ Gb, by simpa only [kidV] using hcell, by simp, by simpa [K.fits, T.kid, T.elems] using e2, by simpa [K.kid, K.kids, T.kid, T.elems] using e3, ?_⟩
    intro w' A' t' F1' hA hF hl h'
    have hb : w'.heap[b]? = w.heap[b]? := hF b (by simp)
    have h6 := e4 w' A' t' c1 F1' hA (fun x hx => hF x (by simp at hx ⊢; rcases hx with h | h <;> simp [h])) hl (by simpa [K.kid, K.kids] using h')
    rw [set_same _ _ _ e1] at h6
    refine ⟨?_, ?_⟩
    · simp only [RO, T.setKid, T.elems]
      have hlen := (ROs.leafs ks _ _ _ g4).2.1
      have hx := setLeaf_leaves (xs.getD i default) f t' (by omega) hl
      refine .inr ⟨_, rfl, .inr ⟨b, o, cap, cur, e, Ga ++ (Fa ++ F1' ++ Fb) ++ Gb, by simp, by simpa using h1, h2, by rw [hb]; exact h3, h4, ?_, by simp⟩⟩
      rw [List.length_set, g1]
      refine g5 _ _ d2 _ g3 (fun ts cs F' hF' h => ROs.mono hA ks ts cs F' (fun x hx => hF x ?_) h) (by rw [hx]; exact h6)
      have := hF' x hx
      simp at this ⊢
      rcases this with h | h <;> simp [h]
    · simp only [kidV]; rw [World.cell?_of_block (w := w) hb]; exact hcell
end Go.Proofs.Ytaefhdklkbohmaa
/- Ways into what is owned. Generic. -/
namespace Go.Proofs.Ytaefhdklkbohmaa
open Go Go.RowKit

abbrev Way := List (Nat × Nat)
def kindAt : K → Way → K
  | k, [] => k
  | k, (_, f) :: p => kindAt (k.kid f) p
def subT : K → T → Way → T
  | _, t, [] => t
  | k, t, (i, f) :: p => subT (k.kid f) (T.kid k t i f) p
def putT : K → T → Way → T → T
  | _, _, [], v => v
  | k, t, (i, f) :: p, v => T.setKid k t i f (putT (k.kid f) (T.kid k t i f) p v)
def okP : K → T → Way → Prop
  | _, _, [] => True
  | k, t, (i, f) :: p => k.okKid t i f ∧ okP (k.kid f) (T.kid k t i f) p
def loc (w : World) : K → Value → Way → Option Value
  | _, c, [] => some c
  | k, c, (i, f) :: p => (kidV w k c i f).bind fun c' => loc w (k.kid f) c' p
/-- May it lie at the end of the way? -/
def fitsAt : K → Way → T → Prop
  | _, [], _ => True
  | k, [_], v => k.fits v
  | k, (_, f) :: q :: p, v => fitsAt (k.kid f) (q :: p) v

theorem fits_setKid {w : World} {A : Nat → Prop} {k k' : K} {t t' : T} {c : Value} {F : List Nat} {i f : Nat} (hf : k.fits t) (h : RO w A k' t c F) (hk : k'.okKid t i f) (ht : k'.fits t') : k.fits (T.setKid k' t i f t') := by
  cases k' with
  | sh => simp [K.okKid, K.kids] at hk
  | sl ks => cases k <;> simp [K.fits, T.setKid, T.isLeaf]
  | tup ks =>
    simp only [RO] at h
    rcases h with ⟨rfl, _⟩ | ⟨ts, cs, rfl, _⟩
    · simp [K.okKid, T.isAny] at hk
    cases k <;> simp_all [K.fits, T.isLeaf]
  | agg ks =>
    simp only [RO] at h
    rcases h with ⟨rfl, _⟩ | ⟨ts, cs, rfl, _⟩
    · simp [K.okKid, T.isAny] at hk
    cases k <;> simp_all [K.fits, T.isLeaf, T.setKid, T.setLeaf]
  | box ks =>
    simp only [K.fits] at ht
    have h1 := setLeaf_noTup t f t' ht
    cases k with
    | tup ks' => simpa [K.fits, T.setKid] using h1
    | _ =>
      simp only [K.fits, T.setKid] at hf ⊢
      cases t <;> simp_all [T.setLeaf, T.isLeaf]

theorem fits_putT {w : World} {A : Nat → Prop} {t' : T} : ∀ (p : Way) {k k' : K} {t : T} {c : Value} {F : List Nat}, k.fits t → RO w A k' t c F → okP k' t p → (p = [] → k.fits t') → fitsAt k' p t' → k.fits (putT k' t p t')
  | [], _, _, _, _, _, _, _, _, h0, _ => h0 rfl
  | (i, f) :: p, k, k', t, c, F, hf, h, hp, _, hl => by
    obtain ⟨hk, hp⟩ := hp
    obtain ⟨c1, Fa, F1, Fb, _, _, e2, e3, _⟩ := h.step i f hk
    refine fits_setKid hf h hk (fits_putT p e2 e3 hp ?_ ?_)
    · rintro rfl; exact hl
    · cases p with
      | nil => trivial
      | cons q p => exact hl

theorem RO.zoom {w : World} {A : Nat → Prop} : ∀ (p : Way) {k : K} {t : T} {c : Value} {F : List Nat} (_ : RO w A k t c F) (_ : okP k t p),
    ∃ c1 Fa F1 Fb, loc w k c p = some c1 ∧ F = Fa ++ F1 ++ Fb ∧ fitsAt k p (subT k t p) ∧ RO w A (kindAt k p) (subT k t p) c1 F1 ∧
      ∀ (w' : World) (A' : Nat → Prop) (t' : T) (F1' : List Nat), (∀ b, A b → A' b ∧ w'.heap[b]? = w.heap[b]?) → (∀ b ∈ Fa ++ Fb, w'.heap[b]? = w.heap[b]?) → fitsAt k p t' →
        RO w' A' (kindAt k p) t' c1 F1' → RO w' A' k (putT k t p t') c (Fa ++ F1' ++ Fb) ∧ loc w' k c p = some c1
  | [], k, t, c, F, h, _ => ⟨c, [], F, [], rfl, by simp, trivial, h, fun w' A' t' F1' _ _ _ h' => by simpa [putT, loc, kindAt] using h'⟩
  | (i, f) :: p, k, t, c, F, h, hp => by
    obtain ⟨hk, hp⟩ := hp
    obtain ⟨c1, Fa, F1, Fb, e1, rfl, e2, e3, e4⟩ := h.step i f hk
    obtain ⟨c2, Ga, G1, Gb, g1, rfl, g2, g3, g4⟩ := RO.zoom p e3 hp
    refine ⟨c2, Fa ++ Ga, G1, Gb ++ Fb, by simp [loc, e1, g1], by simp, ?_, g3, ?_⟩
    · cases p with
      | nil => exact e2
      | cons q p => exact g2
    intro w' A' t' F1' hA hF hl h'
    have hfit : fitsAt (k.kid f) p t' := by
      cases p with
      | nil => trivial
      | cons q p => exact hl
    obtain ⟨r1, r2⟩ := g4 w' A' t' F1' hA (fun b hb => hF b (by simp at hb ⊢; rcases hb with h | h <;> simp [h])) hfit h'
    have hfit2 : k.fits (putT (k.kid f) (T.kid k t i f) p t') := by
      refine fits_putT p e2 e3 hp ?_ hfit
      rintro rfl; exact hl
    obtain ⟨s1, s2⟩ := e4 w' A' _ _ hA (fun b hb => hF b (by simp at hb ⊢; rcases hb with h | h <;> simp [h])) hfit2 r1
    refine ⟨?_, by simp [loc, s2, r2]⟩
    simpa [putT] using s1
end Go.Proofs.Ytaefhdklkbohmaa
/- Ways stay where they lead while something else is written. Generic. -/
namespace Go.Proofs.Ytaefhdklkbohmaa
open Go Go.RowKit

def K.isOwn : K → Bool
  | .sh => false
  | _ => true
def samePlace (k : K) (i f j g : Nat) : Prop :=
  match k with
  | .sl _ => i = j ∧ f = g
  | _ => f = g
instance (k : K) (i f j g : Nat) : Decidable (samePlace k i f j g) := by unfold samePlace; split <;> infer_instance

theorem RO.leavesLen {w : World} {A : Nat → Prop} {k : K} {t : T} {c : Value} {F : List Nat} (h : RO w A k t c F) (i f : Nat) (hk : k.okKid t i f) :
    match k with
    | .sl ks => ((t.elems.getD i default).leaves.length = ks.length)
    | .tup ks => t.comps.length = ks.length
    | _ => t.leaves.length = k.kids.length := by
  cases k with
  | sh => simp [K.okKid, K.kids] at hk
  | sl ks =>
    simp only [RO] at h
    rcases h with ⟨rfl, _⟩ | ⟨xs, rfl, ⟨rfl, _⟩ | ⟨b, o, cap, cur, e, Fs, rfl, h1, h2, h3, h4, h5, rfl⟩⟩
    · simp [K.okKid, T.elems] at hk
    · simp [K.okKid, T.elems] at hk
    · simp only [K.okKid, T.elems] at hk
      obtain ⟨d1, d2, d3, Ga, G, Gb, g1, g2, g3, _, g4, _⟩ := Each.at h5 i hk.2
      exact (ROs.leafs ks _ _ _ g4).2.1
  | box ks =>
    simp only [RO] at h
    rcases h with ⟨rfl, _⟩ | ⟨b, cur, e, Fs, rfl, h1, h2, rfl, h3⟩
    · simp [K.okKid, T.isAny] at hk
    · exact (ROs.leafs ks _ _ _ h2).2.1
  | agg ks =>
    simp only [RO] at h
    rcases h with ⟨rfl, _⟩ | ⟨ts, cs, rfl, rfl, h⟩
    · simp [K.okKid, T.isAny] at hk
    · exact (ROs.leafs ks _ _ _ h).2.1
  | tup ks =>
    simp only [RO] at h
    rcases h with ⟨rfl, _⟩ | ⟨ts, cs, rfl, rfl, h⟩
    · simp [K.okKid, T.isAny] at hk
    · simp only [T.comps]
      clear hk
      induction ks generalizing ts cs F with
      | nil => simp only [ROt] at h; simp [h.1]
      | cons k ks ih =>
        simp only [ROt] at h
        obtain ⟨t, ts', c, cs', F1, F2, rfl, rfl, rfl, hl, h1, h2⟩ := h
        simp [ih ts' cs' h2]

theorem setLeaf_leaves' (t : T) (f : Nat) (v : T) (hf : f < t.leaves.length) (hv : v.isLeaf = true) (g : Nat) : (t.setLeaf f v).leaves.getD g default = if g = f then v else t.leaves.getD g default := by
  rw [setLeaf_leaves t f v hf hv]
  simp only [List.getD_eq_getElem?_getD, List.getElem?_set]
  by_cases e : f = g
  · subst e; simp [hf]
  · simp [e, Ne.symm e]

theorem elems_sl (z : Nat) (xs : List T) : T.elems (.sl z xs) = xs := rfl
theorem comps_tup (ts : List T) : T.comps (.tup ts) = ts := rfl
theorem getD_set_same {α : Type} (xs : List α) (i : Nat) (x d : α) (h : i < xs.length) : (xs.set i x).getD i d = x := by
  simp [List.getD_eq_getElem?_getD, h]
theorem getD_set_ne {α : Type} (xs : List α) (i j : Nat) (x d : α) (h : i ≠ j) : (xs.set i x).getD j d = xs.getD j d := by
  simp [List.getD_eq_getElem?_getD, h]

theorem kid_setKid {w : World} {A : Nat → Prop} {k : K} {t : T} {c : Value} {F : List Nat} (h : RO w A k t c F) (i f : Nat) (hk : k.okKid t i f) (v : T) (hv : k.fits v) (j g : Nat) (hj : k.okKid (T.setKid k t i f v) j g) :
    k.okKid t j g ∧ (samePlace k i f j g → T.kid k (T.setKid k t i f v) j g = v) ∧ (¬ samePlace k i f j g → T.kid k (T.setKid k t i f v) j g = T.kid k t j g) := by
  have hl := h.leavesLen i f hk
  cases k with
  | sh => simp [K.okKid, K.kids] at hk
  | sl ks =>
    simp only [K.okKid, K.kids, T.setKid, elems_sl, List.length_set] at hk hj hl
    refine ⟨hj, ?_, ?_⟩
    · rintro ⟨rfl, rfl⟩
      simp only [T.kid, T.setKid, elems_sl]
      rw [getD_set_same _ _ _ _ hk.2, setLeaf_leaves' _ _ _ (by omega) hv, if_pos rfl]
    · intro hne
      simp only [T.kid, T.setKid, elems_sl]
      by_cases e : i = j
      · subst e
        rw [getD_set_same _ _ _ _ hk.2, setLeaf_leaves' _ _ _ (by omega) hv, if_neg]
        rintro rfl; exact hne ⟨rfl, rfl⟩
      · rw [getD_set_ne _ _ _ _ _ e]
  | box ks =>
    simp only [K.okKid, K.kids] at hk hj hl
    refine ⟨⟨hj.1, hk.2⟩, ?_, ?_⟩
    · rintro rfl
      simp only [T.kid, T.setKid]
      rw [setLeaf_leaves' _ _ _ (by omega) hv, if_pos rfl]
    · intro hne
      simp only [T.kid, T.setKid]
      rw [setLeaf_leaves' _ _ _ (by omega) hv, if_neg]
      rintro rfl; exact hne rfl
  | agg ks =>
    simp only [K.okKid, K.kids] at hk hj hl
    refine ⟨⟨hj.1, hk.2⟩, ?_, ?_⟩
    · rintro rfl
      simp only [T.kid, T.setKid]
      rw [setLeaf_leaves' _ _ _ (by omega) hv, if_pos rfl]
    · intro hne
      simp only [T.kid, T.setKid]
      rw [setLeaf_leaves' _ _ _ (by omega) hv, if_neg]
      rintro rfl; exact hne rfl
  | tup ks =>
    simp only [K.okKid, K.kids] at hk hj hl
    refine ⟨⟨hj.1, hk.2⟩, ?_, ?_⟩
    · rintro rfl
      simp only [T.kid, T.setKid, comps_tup]
      rw [getD_set_same _ _ _ _ (by omega)]
    · intro hne
      simp only [T.kid, T.setKid, comps_tup]
      rw [getD_set_ne]
      rintro rfl; exact hne rfl

theorem kidV_same {w : World} {k : K} {c : Value} {i f j g : Nat} (h : samePlace k i f j g) : kidV w k c j g = kidV w k c i f ∧ k.kid g = k.kid f := by
  cases k with
  | sl ks => obtain ⟨rfl, rfl⟩ := h; exact ⟨rfl, rfl⟩
  | _ => obtain rfl : f = g := h; exact ⟨rfl, rfl⟩

theorem kindAt_sh : ∀ (p : Way), kindAt .sh p = .sh
  | [] => rfl
  | (i, f) :: p => by simp only [kindAt, K.kid, K.kids, List.getD_nil]; exact kindAt_sh p

/-- A way is where it was while its tree's blocks stay. -/
theorem loc_keep {w w' : World} {A : Nat → Prop} {k : K} {t : T} {c : Value} {F : List Nat} (p : Way) (h : RO w A k t c F) (hp : okP k t p) (hA : ∀ b, A b → w'.heap[b]? = w.heap[b]?) (hF : ∀ b ∈ F, w'.heap[b]? = w.heap[b]?) :
    ∃ c1, loc w k c p = some c1 ∧ loc w' k c p = some c1 := by
  obtain ⟨c1, Fa, F1, Fb, e1, rfl, e2, e3, e4⟩ := RO.zoom p h hp
  obtain ⟨_, e6⟩ := e4 w' A _ F1 (fun b hb => ⟨hb, hA b hb⟩) (fun b hb => hF b (by simp at hb ⊢; rcases hb with h | h <;> simp [h])) e2 (RO.mono (fun b hb => ⟨hb, hA b hb⟩) _ _ _ _ (fun b hb => hF b (by simp [hb])) e3)
  exact ⟨c1, e1, e6⟩

/-- No claim on a part: its blocks are given up. -/
theorem RO.forget {w : World} {A : Nat → Prop} (k : K) (c : Value) : RO w A k .any c [] := by
  cases k <;> simp [RO, R0, RL]

theorem fits_any (k : K) : k.fits .any := by cases k <;> simp [K.fits, T.isLeaf]

theorem okKid_any {w : World} {A : Nat → Prop} {k : K} {t : T} {c : Value} {F : List Nat} (h : RO w A k t c F) (i f : Nat) (hk : k.okKid t i f) (v : T) (j g : Nat) (hj : k.okKid (T.setKid k t i f v) j g) (hs : ¬ samePlace k i f j g) :
    k.okKid (T.setKid k t i f .any) j g := by
  have hl := h.leavesLen i f hk
  cases k with
  | sh => simp [K.okKid, K.kids] at hk
  | sl ks => simpa only [K.okKid, K.kids, T.setKid, elems_sl, List.length_set] using hj
  | tup ks => exact ⟨hj.1, rfl⟩
  | box ks =>
    refine ⟨hj.1, ?_⟩
    simp only [K.okKid, K.kids] at hj hk hl
    simp only [T.setKid]
    cases t with
    | agg ts => rfl
    | _ => simp only [T.leaves, List.length_singleton] at hl; exact absurd (show f = g by omega) hs
  | agg ks =>
    refine ⟨hj.1, ?_⟩
    simp only [K.okKid, K.kids] at hj hk hl
    simp only [T.setKid]
    cases t with
    | agg ts => rfl
    | _ => simp only [T.leaves, List.length_singleton] at hl; exact absurd (show f = g by omega) hs

/-- A node is written: what it is behind that, where the ways lead then. -/
theorem RO.zoom2 {w : World} {A : Nat → Prop} : ∀ (q : Way) {k : K} {t : T} {c : Value} {F : List Nat} (_ : RO w A k t c F) (_ : okP k t q),
    ∃ c1 Fa F1 Fb, loc w k c q = some c1 ∧ F = Fa ++ F1 ++ Fb ∧ fitsAt k q (subT k t q) ∧ RO w A (kindAt k q) (subT k t q) c1 F1 ∧
      ∀ (w' : World) (A' : Nat → Prop) (t' : T) (F1' : List Nat), (∀ b, A b → A' b ∧ w'.heap[b]? = w.heap[b]?) → (∀ b ∈ Fa ++ Fb, w'.heap[b]? = w.heap[b]?) → fitsAt k q t' →
        RO w' A' (kindAt k q) t' c1 F1' → RO w' A' k (putT k t q t') c (Fa ++ F1' ++ Fb) ∧ loc w' k c q = some c1 ∧
          ((∀ p, okP (kindAt k q) t' p → (kindAt (kindAt k q) p).isOwn = true → okP (kindAt k q) (subT k t q) p ∧ loc w' (kindAt k q) c1 p = loc w (kindAt k q) c1 p) →
            ∀ p, okP k (putT k t q t') p → (kindAt k p).isOwn = true → okP k t p ∧ loc w' k c p = loc w k c p)
  | [], k, t, c, F, h, _ => ⟨c, [], F, [], rfl, by simp, trivial, h, fun w' A' t' F1' _ _ _ h' => ⟨by simpa [putT, kindAt] using h', rfl, fun H p hp ho => H p hp ho⟩⟩
  | (i, f) :: q, k, t, c, F, h, hq => by
    obtain ⟨hk, hq⟩ := hq
    obtain ⟨c2, Fa, F2, Fb, e1, rfl, e2, e3, e4⟩ := h.step i f hk
    obtain ⟨c1, Ga, F1, Gb, g1, rfl, g2, g3, g4⟩ := RO.zoom2 q e3 hq
    refine ⟨c1, Fa ++ Ga, F1, Gb ++ Fb, by simp [loc, e1, g1], by simp, ?_, g3, ?_⟩
    · cases q with
      | nil => exact e2
      | cons q p => exact g2
    intro w' A' t' F1' hA hF hl h'
    have hfit : fitsAt (k.kid f) q t' := by
      cases q with
      | nil => trivial
      | cons q p => exact hl
    obtain ⟨r1, r2, r3⟩ := g4 w' A' t' F1' hA (fun b hb => hF b (by simp at hb ⊢; rcases hb with h | h <;> simp [h])) hfit h'
    have hfit2 : k.fits (putT (k.kid f) (T.kid k t i f) q t') := by
      refine fits_putT q e2 e3 hq ?_ hfit
      rintro rfl; exact hl
    have hFab : ∀ b ∈ Fa ++ Fb, w'.heap[b]? = w.heap[b]? := fun b hb => hF b (by simp at hb ⊢; rcases hb with h | h <;> simp [h])
    obtain ⟨s1, s2⟩ := e4 w' A' _ _ hA hFab hfit2 r1
    refine ⟨by simpa [putT] using s1, by simp [loc, s2, r2], ?_⟩
    intro H p hp ho
    cases p with
    | nil => exact ⟨trivial, rfl⟩
    | cons x p =>
      obtain ⟨j, g⟩ := x
      obtain ⟨hj, hp⟩ := hp
      simp only [putT] at hj hp
      obtain ⟨t1, t2, t3⟩ := kid_setKid h i f hk _ hfit2 j g hj
      by_cases hs : samePlace k i f j g
      · obtain ⟨u1, u2⟩ := kidV_same (w := w) (c := c) hs
        obtain ⟨u3, _⟩ := kidV_same (w := w') (c := c) hs
        rw [t2 hs, u2] at hp
        have ho' : (kindAt (k.kid f) p).isOwn = true := by simpa [kindAt, u2] using ho
        obtain ⟨v1, v2⟩ := r3 H p hp ho'
        have hkid : T.kid k t j g = T.kid k t i f := by
          cases k with
          | sl ks => obtain ⟨rfl, rfl⟩ := hs; rfl
          | _ => obtain rfl : f = g := hs; rfl
        refine ⟨⟨t1, by rw [hkid, u2]; exact v1⟩, ?_⟩
        simp only [loc, u1, u3, u2, e1, s2, Option.bind_some]
        exact v2
      · have hj2 := okKid_any h i f hk _ j g hj hs
        obtain ⟨a1, a2⟩ := e4 w A .any [] (fun b hb => ⟨hb, rfl⟩) (fun _ _ => rfl) (fits_any k) (RO.forget _ _)
        obtain ⟨_, _, t4⟩ := kid_setKid h i f hk .any (fits_any k) j g hj2
        obtain ⟨c3, Xa, X1, Xb, b1, b2, b3, b4, b5⟩ := a1.step j g hj2
        rw [t4 hs] at b3 b4
        rw [t3 hs] at hp
        have hX : ∀ b ∈ Xa ++ X1 ++ Xb, w'.heap[b]? = w.heap[b]? := by
          rw [← b2]; intro b hb; exact hFab b (by simpa using hb)
        obtain ⟨_, b6⟩ := b5 w' A' _ X1 hA (fun b hb => hX b (by simp at hb ⊢; rcases hb with h | h <;> simp [h])) b3 (RO.mono hA _ _ _ _ (fun b hb => hX b (by simp [hb])) b4)
        obtain ⟨c4, l1, l2⟩ := loc_keep (w' := w') p b4 hp (fun b hb => (hA b hb).2) (fun b hb => hX b (by simp [hb]))
        refine ⟨⟨t1, hp⟩, ?_⟩
        simp only [loc, b1, b6, Option.bind_some, l1, l2]
end Go.Proofs.Ytaefhdklkbohmaa
/- Slots, and what it is that a frame and a world are told by. Generic. -/
namespace Go.Proofs.Ytaefhdklkbohmaa
open Go Go.RowKit

/-- What a slot is told by: data; a tree that the slot owns; a name for what another slot owns (the whole node at a way; a part of a slice; the address of a leaf of an element); the address of a leaf of an element that nobody owns; a struct's leaves; what holds under a condition; what others own and nobody here may write; nothing. -/
inductive W where
  | t (t : T)
  | own (k : K) (t : T)
  | ref (r : Nat) (p : Way)
  | sub (r : Nat) (p : Way) (lo n : Nat)
  | adr (r : Nat) (p : Way) (i f : Nat)
  | at (sz : Nat) (e : T) (f : Nat)
  | agg (ws : List W)
  | gd (g : Bool) (w : W)
  | gone (h : Nat → Option Obj) (G : List Nat)
  | dead
  deriving Inhabited

abbrev Env := List (Nat × W)
def Env.get : Env → Nat → W
  | [], _ => .dead
  | (s, x) :: σ, r => if r = s then x else Env.get σ r

/-- The root that a slot is, if it is one. -/
inductive Root (σ : Nat → W) (r : Nat) (k : K) (t : T) : Prop where
  | own (h : σ r = .own k t)
  | gd (h : σ r = .gd true (.own k t))

def subV (sz : Nat) (c1 : Value) (lo n : Nat) (c : Value) : Prop :=
  ∃ P n1 cap, c1 = .slice P n1 cap ∧ n1 ≤ cap ∧ lo + n ≤ n1 ∧ ∃ P', c = .slice P' n (cap - lo) ∧ (lo < cap → P' = P.map (·.add (lo * sz)))
def adrV (k : K) (c1 : Value) (i f : Nat) (c : Value) : Prop :=
  match k, c1 with
  | .sl ks, .slice (some ⟨b, o, none⟩) _ _ => c = .pointer (some ⟨b, o + (i * ks.length + f), none⟩)
  | .box _, .pointer (some ⟨b, _, none⟩) => c = .pointer (some ⟨b, f, none⟩)
  | _, _ => False

/-- What is told of a leaf that a slot's struct has, or of a slot that owns nothing. 'tm': the slots' values. -/
def WV (w : World) (A : Nat → Prop) (σ : Nat → W) (tm : Nat → Value) : W → Value → Prop
  | .t t, c => RT w A t c
  | .ref r p, c => ∀ k t, Root σ r k t → okP k t p → (kindAt k p).isOwn = true → loc w k (tm r) p = some c
  | .sub r p lo n, c => ∀ k t, Root σ r k t → okP k t p → (kindAt k p).isOwn = true → ∃ c1, loc w k (tm r) p = some c1 ∧ subV (kindAt k p).kids.length c1 lo n c
  | .adr r p i f, c => ∀ k t, Root σ r k t → okP k t p → (kindAt k p).isOwn = true → ∃ c1, loc w k (tm r) p = some c1 ∧ adrV (kindAt k p) c1 i f c
  | .at sz e f, c => ∃ b o es, c = .pointer (some ⟨b, o + f, none⟩) ∧ A b ∧ Cells w b o es ∧ es.length = sz ∧ RL w A e es
  | _, _ => True
def WVs (w : World) (A : Nat → Prop) (σ : Nat → W) (tm : Nat → Value) : List W → List Value → Prop
  | [], cs => cs = []
  | x :: xs, cs => ∃ c cs', cs = c :: cs' ∧ WV w A σ tm x c ∧ WVs w A σ tm xs cs'
def WW (w : World) (A : Nat → Prop) (σ : Nat → W) (tm : Nat → Value) (F : List Nat) : W → Value → Prop
  | .own k t, c => RO w A k t c F
  | .agg ws, c => F = [] ∧ ∃ cs, c = .agg cs ∧ WVs w A σ tm ws cs.toList
  | .gone h G, _ => F = G ∧ ∀ b ∈ F, w.heap[b]? = h b
  | .gd g x, c => (g = false → F = [] ∧ c = undef) ∧ (g = true → match x with
    | .own k t => RO w A k t c F
    | .agg ws => F = [] ∧ ∃ cs, c = .agg cs ∧ WVs w A σ tm ws cs.toList
    | x => F = [] ∧ WV w A σ tm x c)
  | x, c => F = [] ∧ WV w A σ tm x c

/-- The blocks that are there and that no slot owns. -/
def Free (w : World) (fp : Nat → List Nat) (b : Nat) : Prop := b < w.heap.size ∧ ∀ s, b ∉ fp s
def Act.at (a : Act) (s : Nat) : Value := a.tmps.getD s undef

/-- The frame and the world are told by 'σ'. 'w0': the world when the call began; 'I': the old blocks that the call may write. -/
structure Rel (w0 : World) (I : Nat → Prop) (N : Nat) (σ : Nat → W) (fp : Nat → List Nat) (a : Act) (w : World) : Prop where
  size : a.tmps.size = N
  defers : a.defers = []
  slots : ∀ s, WW w (Free w fp) σ (Act.at a) (fp s) (σ s) (Act.at a s)
  nodup : ∀ s, (fp s).Nodup
  disj : ∀ s s' b, b ∈ fp s → b ∈ fp s' → s = s'
  there : ∀ s b, b ∈ fp s → b < w.heap.size ∧ (w0.heap.size ≤ b ∨ I b)
  os : w.os = w0.os
  tape : w.tape = w0.tape
  output : w.output = w0.output
  grown : w0.heap.size ≤ w.heap.size
  kept : ∀ b, b < w0.heap.size → ¬ I b → w.heap[b]? = w0.heap[b]?

def upd {α : Type} (f : Nat → α) (d : Nat) (x : α) : Nat → α := fun s => if s = d then x else f s
theorem upd_same {α : Type} (f : Nat → α) (d : Nat) (x : α) : upd f d x d = x := by simp [upd]
theorem upd_ne {α : Type} (f : Nat → α) (d : Nat) (x : α) {s : Nat} (h : s ≠ d) : upd f d x s = f s := by simp [upd, h]

theorem at_put (a : Act) (d : Nat) (v : Value) (h : d < a.tmps.size) : Act.at (a.put (some d) v) = upd (Act.at a) d v := by
  funext s
  simp only [Act.at, Act.put, upd, Array.getD_eq_getD_getElem?, Array.getElem?_setIfInBounds]
  by_cases e : s = d
  · subst e; simp [h]
  · simp [e, Ne.symm e]
theorem put_size (a : Act) (d : Nat) (v : Value) : (a.put (some d) v).tmps.size = a.tmps.size := by simp [Act.put]
theorem put_defers (a : Act) (d : Nat) (v : Value) : (a.put (some d) v).defers = a.defers := by simp [Act.put]
theorem put_none (a : Act) (v : Value) : a.put none v = a := rfl

mutual
/-- Does it name the root? -/
def W.names (d : Nat) : W → Bool
  | .ref r _ => r == d
  | .sub r _ _ _ => r == d
  | .adr r _ _ _ => r == d
  | .gd _ x => x.names d
  | .agg ws => W.namesL d ws
  | _ => false
def W.namesL (d : Nat) : List W → Bool
  | [] => false
  | x :: xs => x.names d || W.namesL d xs
end
/-- The root's ways lead where they led. -/
def Stay (w : World) (σ : Nat → W) (tm : Nat → Value) (w' : World) (σ' : Nat → W) (tm' : Nat → Value) (r : Nat) : Prop :=
  ∀ k t', Root σ' r k t' → ∃ t, Root σ r k t ∧ ∀ p, okP k t' p → (kindAt k p).isOwn = true → okP k t p ∧ loc w' k (tm' r) p = loc w k (tm r) p

section
variable {w w' : World} {A A' : Nat → Prop} {σ σ' : Nat → W} {tm tm' : Nat → Value}
theorem WV.stay (hA : ∀ b, A b → A' b ∧ w'.heap[b]? = w.heap[b]?) (x : W) (c : Value) (hs : ∀ r, x.names r = true → Stay w σ tm w' σ' tm' r) (h : WV w A σ tm x c) : WV w' A' σ' tm' x c := by
  cases x with
  | t t => exact RT.mono hA t c h
  | ref r p =>
    intro k t' hr ho hk
    obtain ⟨t, hr', hp⟩ := hs r (by simp [W.names]) k t' hr
    obtain ⟨h1, h2⟩ := hp p ho hk
    rw [h2]; exact h k t hr' h1 hk
  | sub r p lo n =>
    intro k t' hr ho hk
    obtain ⟨t, hr', hp⟩ := hs r (by simp [W.names]) k t' hr
    obtain ⟨h1, h2⟩ := hp p ho hk
    rw [h2]; exact h k t hr' h1 hk
  | adr r p i f =>
    intro k t' hr ho hk
    obtain ⟨t, hr', hp⟩ := hs r (by simp [W.names]) k t' hr
    obtain ⟨h1, h2⟩ := hp p ho hk
    rw [h2]; exact h k t hr' h1 hk
  | «at» sz e f =>
    obtain ⟨b, o, es, rfl, hb, hc, hl, he⟩ := h
    exact ⟨b, o, es, rfl, (hA b hb).1, hc.mono (hA b hb).2, hl, RL.mono hA e es he⟩
  | _ => trivial
theorem WVs.stay (hA : ∀ b, A b → A' b ∧ w'.heap[b]? = w.heap[b]?) : ∀ (xs : List W) (cs : List Value) (_ : ∀ r, W.namesL r xs = true → Stay w σ tm w' σ' tm' r) (_ : WVs w A σ tm xs cs), WVs w' A' σ' tm' xs cs
  | [], _, _, h => h
  | x :: xs, cs, hs, h => by
    obtain ⟨c, cs', rfl, h1, h2⟩ := h
    exact ⟨c, cs', rfl, WV.stay hA x c (fun r hr => hs r (by simp [W.namesL, hr])) h1, WVs.stay hA xs cs' (fun r hr => hs r (by simp [W.namesL, hr])) h2⟩
theorem WW.stay {F : List Nat} (hA : ∀ b, A b → A' b ∧ w'.heap[b]? = w.heap[b]?) (hF : ∀ b ∈ F, w'.heap[b]? = w.heap[b]?) (x : W) (c : Value) (hs : ∀ r, x.names r = true → Stay w σ tm w' σ' tm' r) (h : WW w A σ tm F x c) : WW w' A' σ' tm' F x c := by
  have key : ∀ y : W, (∀ r, y.names r = true → Stay w σ tm w' σ' tm' r) → (match y with
    | .own k t => RO w A k t c F
    | .agg ws => F = [] ∧ ∃ cs, c = .agg cs ∧ WVs w A σ tm ws cs.toList
    | x => F = [] ∧ WV w A σ tm x c) → (match y with
    | .own k t => RO w' A' k t c F
    | .agg ws => F = [] ∧ ∃ cs, c = .agg cs ∧ WVs w' A' σ' tm' ws cs.toList
    | x => F = [] ∧ WV w' A' σ' tm' x c) := by
    intro y hy h
    cases y with
    | own k t => exact RO.mono hA k t c F hF h
    | agg ws =>
      obtain ⟨h0, cs, rfl, h1⟩ := h
      exact ⟨h0, cs, rfl, WVs.stay hA ws _ (fun r hr => hy r (by simpa [W.names] using hr)) h1⟩
    | _ => exact ⟨h.1, WV.stay hA _ c hy h.2⟩
  cases x with
  | gd g y => exact ⟨h.1, fun hg => key y (fun r hr => hs r (by simpa [W.names] using hr)) (h.2 hg)⟩
  | own k t => exact key (.own k t) hs h
  | agg ws => exact key (.agg ws) hs h
  | gone g G => exact ⟨h.1, fun b hb => (hF b hb).trans (h.2 b hb)⟩
  | _ => exact ⟨h.1, WV.stay hA _ c hs h.2⟩
end

/-- One step of the whole state: each slot is as it was, or told anew. -/
theorem Rel.next {w0 : World} {I : Nat → Prop} {N : Nat} {σ σ' : Nat → W} {fp fp' : Nat → List Nat} {a a' : Act} {w w' : World} (h : Rel w0 I N σ fp a w)
    (hsize : a'.tmps.size = N) (hdef : a'.defers = [])
    (hos : w'.os = w.os) (htape : w'.tape = w.tape) (hout : w'.output = w.output) (hgrown : w.heap.size ≤ w'.heap.size)
    (hfree : ∀ b, Free w fp b → Free w' fp' b ∧ w'.heap[b]? = w.heap[b]?)
    (hslots : ∀ s, (σ' s = σ s ∧ fp' s = fp s ∧ Act.at a' s = Act.at a s ∧ (∀ b ∈ fp s, w'.heap[b]? = w.heap[b]?) ∧ ∀ r, (σ s).names r = true → Stay w σ (Act.at a) w' σ' (Act.at a') r) ∨
      WW w' (Free w' fp') σ' (Act.at a') (fp' s) (σ' s) (Act.at a' s))
    (hnodup : ∀ s, (fp' s).Nodup) (hdisj : ∀ s s' b, b ∈ fp' s → b ∈ fp' s' → s = s')
    (hthere : ∀ s b, b ∈ fp' s → b < w'.heap.size ∧ (w0.heap.size ≤ b ∨ I b)) : Rel w0 I N σ' fp' a' w' where
  size := hsize
  defers := hdef
  slots := by
    intro s
    rcases hslots s with ⟨h1, h2, h3, h4, h5⟩ | h1
    · rw [h1, h2, h3]
      exact WW.stay hfree h4 _ _ h5 (h.slots s)
    · exact h1
  nodup := hnodup
  disj := hdisj
  there := hthere
  os := hos.trans h.os
  tape := htape.trans h.tape
  output := hout.trans h.output
  grown := Nat.le_trans h.grown hgrown
  kept := by
    intro b hb hI
    have hf : Free w fp b := ⟨by have := h.grown; omega, fun s hs => by
      rcases (h.there s b hs).2 with h1 | h1
      · omega
      · exact hI h1⟩
    rw [(hfree b hf).2]
    exact h.kept b hb hI
end Go.Proofs.Ytaefhdklkbohmaa
/- Steps of the state: a value put into a slot; a tree read; a tree moved. Generic. -/
namespace Go.Proofs.Ytaefhdklkbohmaa
open Go Go.RowKit

/-- Nothing that was there has changed. -/
structure Ext (w w' : World) : Prop where
  os : w'.os = w.os
  tape : w'.tape = w.tape
  output : w'.output = w.output
  size : w.heap.size ≤ w'.heap.size
  block : ∀ b, b < w.heap.size → w'.heap[b]? = w.heap[b]?
theorem Ext.refl (w : World) : Ext w w := ⟨rfl, rfl, rfl, Nat.le_refl _, fun _ _ => rfl⟩
theorem Ext.trans {a b c : World} (h : Ext a b) (k : Ext b c) : Ext a c :=
  ⟨k.os.trans h.os, k.tape.trans h.tape, k.output.trans h.output, Nat.le_trans h.size k.size, fun i hi => (k.block i (Nat.lt_of_lt_of_le hi h.size)).trans (h.block i hi)⟩
theorem Ext.alloc (w : World) (o : Obj) : Ext w (w.alloc o) := ⟨rfl, rfl, rfl, by simp, fun k hk => heap_alloc_old w o k hk⟩
theorem Ext.drew (w : World) (n : Nat) : Ext w { w with drawn := n } := ⟨rfl, rfl, rfl, Nat.le_refl _, fun _ _ => rfl⟩

def W.isRoot : W → Bool
  | .own _ _ => true
  | .gd _ (.own _ _) => true
  | _ => false
theorem Root.isRoot {σ : Nat → W} {r : Nat} {k : K} {t : T} (h : Root σ r k t) : (σ r).isRoot = true := by
  cases h with
  | own h => rw [h]; rfl
  | gd h => rw [h]; rfl

section
variable {w0 : World} {I : Nat → Prop} {N : Nat} {σ : Nat → W} {fp : Nat → List Nat} {a : Act} {w : World}
theorem Rel.root (h : Rel w0 I N σ fp a w) {r : Nat} {k : K} {t : T} (hr : Root σ r k t) : RO w (Free w fp) k t (Act.at a r) (fp r) := by
  have h1 := h.slots r
  cases hr with
  | own hr => rw [hr] at h1; exact h1
  | gd hr => rw [hr] at h1; exact h1.2 rfl

/-- A root that is not written, in a world in which nothing old has changed. -/
theorem Rel.stay_ext (h : Rel w0 I N σ fp a w) {w' : World} (hext : Ext w w') {σ' : Nat → W} {tm' : Nat → Value} {r : Nat} (h1 : σ' r = σ r) (h2 : tm' r = Act.at a r) : Stay w σ (Act.at a) w' σ' tm' r := by
  intro k t hr
  have hr' : Root σ r k t := by
    cases hr with
    | own e => exact .own (h1 ▸ e)
    | gd e => exact .gd (h1 ▸ e)
  refine ⟨t, hr', fun p hp _ => ⟨hp, ?_⟩⟩
  obtain ⟨c1, e1, e2⟩ := loc_keep (w' := w') p (h.root hr') hp (fun b hb => hext.block b hb.1) (fun b hb => hext.block b (h.there r b hb).1)
  rw [h2, e1, e2]

theorem Rel.put (h : Rel w0 I N σ fp a w) {d : Nat} (hd : d < N) (c : Value) (x : W) (F : List Nat) {w' : World} (hext : Ext w w')
    (hx : WW w' (Free w' (upd fp d F)) (upd σ d x) (upd (Act.at a) d c) F x c) (hn : F.Nodup) (hF : ∀ b ∈ F, w.heap.size ≤ b ∧ b < w'.heap.size)
    (hno : x.isRoot = false ∨ ∀ s, s ≠ d → (σ s).names d = false) : Rel w0 I N (upd σ d x) (upd fp d F) (a.put (some d) c) w' := by
  have hd' : d < a.tmps.size := by rw [h.size]; exact hd
  have hold : ∀ s b, b ∈ upd fp d F s → (s ≠ d ∧ b ∈ fp s) ∨ (s = d ∧ b ∈ F) := by
    intro s b hb
    by_cases e : s = d
    · subst e; rw [upd_same] at hb; exact .inr ⟨rfl, hb⟩
    · rw [upd_ne _ _ _ e] at hb; exact .inl ⟨e, hb⟩
  refine h.next (by rw [put_size]; exact h.size) (by rw [put_defers]; exact h.defers) hext.os hext.tape hext.output hext.size ?_ ?_ ?_ ?_ ?_
  · intro b hb
    refine ⟨⟨Nat.lt_of_lt_of_le hb.1 hext.size, fun s hs => ?_⟩, hext.block b hb.1⟩
    rcases hold s b hs with ⟨_, h1⟩ | ⟨_, h1⟩
    · exact hb.2 s h1
    · have := hF b h1; have := hb.1; omega
  · intro s
    rw [at_put a d c hd']
    by_cases e : s = d
    · subst e
      rw [upd_same, upd_same, upd_same]; exact .inr hx
    · refine .inl ⟨upd_ne _ _ _ e, upd_ne _ _ _ e, upd_ne _ _ _ e, fun b hb => hext.block b (h.there s b hb).1, fun r hr => ?_⟩
      by_cases e' : r = d
      · subst e'
        intro k t hr'
        rcases hno with hno | hno
        · have := hr'.isRoot; rw [upd_same, hno] at this; cases this
        · rw [hno s e] at hr; cases hr
      · exact h.stay_ext hext (upd_ne _ _ _ e') (upd_ne _ _ _ e')
  · intro s
    by_cases e : s = d
    · subst e; rw [upd_same]; exact hn
    · rw [upd_ne _ _ _ e]; exact h.nodup s
  · intro s s' b hs hs'
    rcases hold s b hs with ⟨h1, h2⟩ | ⟨h1, h2⟩ <;> rcases hold s' b hs' with ⟨h3, h4⟩ | ⟨h3, h4⟩
    · exact h.disj s s' b h2 h4
    · have := hF b h4; have := (h.there s b h2).1; omega
    · have := hF b h2; have := (h.there s' b h4).1; omega
    · rw [h1, h3]
  · intro s b hs
    rcases hold s b hs with ⟨_, h2⟩ | ⟨_, h2⟩
    · exact ⟨Nat.lt_of_lt_of_le (h.there s b h2).1 hext.size, (h.there s b h2).2⟩
    · have := hF b h2; exact ⟨this.2, .inl (by have := h.grown; omega)⟩

/-- A value that owns nothing. -/
theorem Rel.pure (h : Rel w0 I N σ fp a w) {d : Nat} (hd : d < N) (c : Value) (x : W) (hr : x.isRoot = false) (hx : WW w (Free w fp) σ (Act.at a) [] x c) {w' : World} (hext : Ext w w') :
    Rel w0 I N (upd σ d x) (upd fp d []) (a.put (some d) c) w' := by
  refine h.put hd c x [] hext ?_ List.nodup_nil (by simp) (.inl hr)
  have hA : ∀ b, Free w fp b → Free w' (upd fp d []) b ∧ w'.heap[b]? = w.heap[b]? := by
    intro b hb
    refine ⟨⟨Nat.lt_of_lt_of_le hb.1 hext.size, fun s hs => ?_⟩, hext.block b hb.1⟩
    by_cases e : s = d
    · rw [e, upd_same] at hs; cases hs
    · rw [upd_ne _ _ _ e] at hs; exact hb.2 s hs
  refine WW.stay hA (by simp) x c (fun r _ => ?_) hx
  by_cases e' : r = d
  · intro k t hr'
    have := hr'.isRoot; rw [e', upd_same, hr] at this; cases this
  · exact h.stay_ext hext (upd_ne _ _ _ e') (upd_ne _ _ _ e')
/-- The order is drawn. -/
theorem Rel.ext (h : Rel w0 I N σ fp a w) {w' : World} (hext : Ext w w') : Rel w0 I N σ fp a w' :=
  h.next h.size h.defers hext.os hext.tape hext.output hext.size (fun b hb => ⟨⟨Nat.lt_of_lt_of_le hb.1 hext.size, hb.2⟩, hext.block b hb.1⟩)
    (fun s => .inl ⟨rfl, rfl, rfl, fun b hb => hext.block b (h.there s b hb).1, fun r _ => h.stay_ext hext rfl rfl⟩) h.nodup h.disj
    (fun s b hb => ⟨Nat.lt_of_lt_of_le (h.there s b hb).1 hext.size, (h.there s b hb).2⟩)
end
end Go.Proofs.Ytaefhdklkbohmaa
/- Operations, short; what those that only compute give, and under which condition. Generic. -/
namespace Go.Proofs.Ytaefhdklkbohmaa
open Go Go.RowKit

inductive Opd where
  | tmp (s : Nat)
  | const (t : T)
  deriving Inhabited

/-- Leaves that '==' compares. -/
inductive LK where
  | int (k : IntKind)
  | bool
  | str
  deriving DecidableEq, Inhabited

inductive AOp where
  | mv (x : Opd)
  | bin (op : BinOp) (k : IntKind) (x y : Opd)
  | shf (op : BinOp) (k yk : IntKind) (x y : Opd)
  | beq (neg : Bool) (x y : Opd)
  | sbin (op : BinOp) (x y : Opd)
  | aeq (neg : Bool) (ks : List LK) (x y : Opd)
  | snil (neg : Bool) (x : Opd)
  | pick (c a b : Opd)
  | not (x : Opd)
  | neg (k : IntKind) (x : Opd)
  | cpl (k : IntKind) (x : Opd)
  | conv (k sk : IntKind) (x : Opd)
  | fld (off n : Nat) (ag : Bool) (x : Opd)
  | fadr (off : Nat) (x : Opd)
  | iadr (sz : Nat) (k : IntKind) (x i : Opd)
  | aadr (sz n : Nat) (k : IntKind) (x i : Opd)
  | load (n : Nat) (ag : Bool) (x : Opd)
  | idxA (sz n : Nat) (ag : Bool) (k : IntKind) (x i : Opd)
  | idxS (k : IntKind) (x i : Opd)
  | slc (sz : Nat) (x : Opd) (lo hi : Option (IntKind × Opd))
  | slcS (x : Opd) (lo hi : Option (IntKind × Opd))
  | len (sz : Nat) (x : Opd)
  | lenS (x : Opd)
  | bld (zero : List T) (parts : List (Nat × Nat × Opd))
  | ext (x : Opd) (i : Nat)
  | nilc (x : Opd)
  deriving Inhabited

/-- A slot as it is told. -/
def evW (τ : Nat → W) : Opd → W
  | .tmp s => τ s
  | .const t => .t t
/-- An operand, under a guard: the condition under which it is there; what it is. What a slot owns is named. -/
def evG (g : Bool) (τ : Nat → W) : Opd → Prop × W
  | .const t => (True, .t t)
  | .tmp s => match τ s with
    | .own _ _ => (True, .ref s [])
    | .gd g' y => (match y with
      | .own _ _ => (g = true → g' = true, .ref s [])
      | .gd _ _ => (False, .dead)
      | .gone _ _ => (False, .dead)
      | y => (g = true → g' = true, y))
    | .gone _ _ => (False, .dead)
    | x => (True, x)
/-- Data. -/
def evT (g : Bool) (τ : Nat → W) (x : Opd) : Prop × T :=
  match evG g τ x with
  | (c, .t t) => (c, t)
  | _ => (False, .any)
def rootAt (g : Bool) (τ : Nat → W) (r : Nat) : Prop × K × T :=
  match τ r with
  | .own k t => (True, k, t)
  | .gd g' (.own k t) => (g = true → g' = true, k, t)
  | _ => (False, .sh, .any)
/-- A node: condition, kind, tree. -/
def nodeAt (g : Bool) (τ : Nat → W) (r : Nat) (p : Way) : Prop × K × T :=
  let n := rootAt g τ r
  (n.1 ∧ okP n.2.1 n.2.2 p, kindAt n.2.1 p, subT n.2.1 n.2.2 p)

def intOp (op : BinOp) (k : IntKind) (x y : Int) : Prop × T :=
  match op with
  | .add => (True, .int k (k.wrap (x + y)))
  | .sub => (True, .int k (k.wrap (x - y)))
  | .mul => (True, .int k (k.wrap (x * y)))
  | .quo => (y ≠ 0, .int k (k.wrap (x.tdiv y)))
  | .rem => (y ≠ 0, .int k (x.tmod y))
  | .and => (True, .int k (k.wrap ((BitVec.ofInt k.bits x &&& BitVec.ofInt k.bits y).toNat : Int)))
  | .or => (True, .int k (k.wrap ((BitVec.ofInt k.bits x ||| BitVec.ofInt k.bits y).toNat : Int)))
  | .xor => (True, .int k (k.wrap ((BitVec.ofInt k.bits x ^^^ BitVec.ofInt k.bits y).toNat : Int)))
  | .andNot => (True, .int k (k.wrap ((BitVec.ofInt k.bits x &&& ~~~ BitVec.ofInt k.bits y).toNat : Int)))
  | .eql => (True, .bool (x == y))
  | .neq => (True, .bool (x != y))
  | .lss => (True, .bool (decide (x < y)))
  | .leq => (True, .bool (decide (x ≤ y)))
  | .gtr => (True, .bool (decide (x > y)))
  | .geq => (True, .bool (decide (x ≥ y)))
  | _ => (False, .any)
def shfOp (op : BinOp) (k : IntKind) (x y : Int) : Prop × T :=
  match op with
  | .shl => (0 ≤ y, .int k (k.wrap (x * 2 ^ min y.toNat k.bits)))
  | .shr => (0 ≤ y, .int k (x.fdiv (2 ^ min y.toNat k.bits)))
  | _ => (False, .any)
def strOp (op : BinOp) (x y : ByteArray) : Prop × T :=
  match op with
  | .add => (((x.size + y.size : Nat) : Int) ≤ IntKind.i64.max, .str (x ++ y))
  | .eql => (True, .bool (x.toList == y.toList))
  | .neq => (True, .bool (!(x.toList == y.toList)))
  | .lss => (True, .bool (Op.bytesLess x.toList y.toList))
  | .leq => (True, .bool (Op.bytesLess x.toList y.toList || x.toList == y.toList))
  | .gtr => (True, .bool (!(Op.bytesLess x.toList y.toList || x.toList == y.toList)))
  | .geq => (True, .bool (!(Op.bytesLess x.toList y.toList)))
  | _ => (False, .any)
def LK.fits : LK → T → Prop
  | .int k, t => t.isInt k
  | .bool, t => t.isBool
  | .str, t => t.isStr
def LK.same : LK → T → T → Bool
  | .int _, x, y => x.toInt == y.toInt
  | .bool, x, y => x.toBool == y.toBool
  | .str, x, y => x.toStr == y.toStr
def LK.fitsAll : List LK → List T → Prop
  | [], ts => ts = []
  | _ :: _, [] => False
  | k :: ks, t :: ts => k.fits t ∧ LK.fitsAll ks ts
def LK.sameAll : List LK → List T → List T → Bool
  | k :: ks, x :: xs, y :: ys => k.same x y && LK.sameAll ks xs ys
  | _, _, _ => true
/-- Leaves of a struct, by their kinds: data, or names of what is owned. -/
def leafW (r : Nat) (p : Way) (i : Nat) : List K → List T → Nat → List W
  | [], _, _ => []
  | k :: ks, ts, f => (match k with | .sh => .t (ts.headD default) | _ => .ref r (p ++ [(i, f)])) :: leafW r p i ks ts.tail (f + 1)
def K.isSh : K → Bool
  | .sh => true
  | _ => false
/-- n leaves from f on. -/
def loadT (sz n f : Nat) (ag : Bool) (e : T) : Prop × T :=
  match ag with
  | false => (f < sz ∧ n = 1, e.leaves.getD f default)
  | true => if f = 0 ∧ n = sz then (e.isAgg, e) else (f + n ≤ sz, .agg ((e.leaves.drop f).take n))
/-- A pointer as an address. -/
def toAddr (g : Bool) (τ : Nat → W) (x : W) : Prop × W :=
  match x with
  | .ref r p => match nodeAt g τ r p with
    | (c, .box _, t) => (c ∧ t.isAny = false, .adr r p 0 0)
    | _ => (False, .dead)
  | .t (.ptr sz e) => (True, .at sz e 0)
  | .adr r p i f => match nodeAt g τ r p with
    | (c, .box _, _) => (c, .adr r p i f)
    | (c, .sl _, _) => (c, .adr r p i f)
    | _ => (False, .dead)
  | .at sz e f => (True, .at sz e f)
  | _ => (False, .dead)
/-- The container that an address leads into: its leaf kinds, the element, the condition. -/
def elemAt (g : Bool) (τ : Nat → W) (r : Nat) (p : Way) (i : Nat) : Prop × List K × T :=
  match nodeAt g τ r p with
  | (c, .sl ks, t) => (c ∧ i < t.elems.length, ks, t.elems.getD i default)
  | (c, .box ks, t) => (c ∧ t.isAny = false, ks, t)
  | _ => (False, [], .any)
def loadW (g : Bool) (τ : Nat → W) (n : Nat) (ag : Bool) (x : W) : Prop × W :=
  match toAddr g τ x with
  | (d, .at sz e f) => (d ∧ (loadT sz n f ag e).1, .t (loadT sz n f ag e).2)
  | (d, .adr r p i f) => match elemAt g τ r p i with
    | (c, ks, e) => match ag with
      | false => match ks.getD f .sh with
        | .sh => (d ∧ c ∧ f < ks.length ∧ n = 1, .t (e.leaves.getD f default))
        | _ => (d ∧ c ∧ f < ks.length ∧ n = 1, .ref r (p ++ [(i, f)]))
      | true => if ((ks.drop f).take n).all K.isSh = true then (d ∧ c ∧ (loadT ks.length n f true e).1, .t (loadT ks.length n f true e).2)
        else (d ∧ c ∧ f + n ≤ ks.length, .agg (leafW r p i ((ks.drop f).take n) ((e.leaves.drop f).take n) f))
  | _ => (False, .dead)
def idxT (k : IntKind) (t : T) : Prop × Nat := (t.isInt k ∧ 0 ≤ t.toInt, t.toInt.toNat)
def bound (g : Bool) (τ : Nat → W) (d : Nat) : Option (IntKind × Opd) → Prop × Nat
  | none => (True, d)
  | some (k, x) => match evT g τ x with
    | (c, t) => (c ∧ t.isInt k ∧ 0 ≤ t.toInt, t.toInt.toNat)
/-- Length of a slice's value. -/
def lenW (g : Bool) (τ : Nat → W) (sz : Nat) (x : W) : Prop × Nat :=
  match x with
  | .t t => (t.isSl sz, t.elems.length)
  | .ref r p => match nodeAt g τ r p with
    | (c, .sl ks, t) => (c ∧ ks.length = sz ∧ t.isAny = false, t.elems.length)
    | _ => (False, 0)
  | .sub r p lo n => match nodeAt g τ r p with
    | (c, .sl ks, t) => (c ∧ ks.length = sz ∧ t.isAny = false ∧ lo + n ≤ t.elems.length, n)
    | _ => (False, 0)
  | _ => (False, 0)
/-- A leaf that fills one cell, or a struct. -/
def T.solid : T → Bool
  | .any => false
  | .tup _ => false
  | .raw (.agg _) => false
  | .raw (.tuple _) => false
  | _ => true
def partW (ws : List W) : Nat × Nat × W → Prop × List W
  | (off, n, .t t) => (t.solid = true ∧ t.leaves.length = n ∧ off + n ≤ ws.length, ws.take off ++ t.leaves.map W.t ++ ws.drop (off + n))
  | (off, n, .agg us) => (us.length = n ∧ off + n ≤ ws.length, ws.take off ++ us ++ ws.drop (off + n))
  | (off, n, .ref r p) => (n = 1 ∧ off + 1 ≤ ws.length, ws.take off ++ [.ref r p] ++ ws.drop (off + 1))
  | (off, n, .sub r p lo m) => (n = 1 ∧ off + 1 ≤ ws.length, ws.take off ++ [.sub r p lo m] ++ ws.drop (off + 1))
  | _ => (False, [])
def allT : List W → Option (List T)
  | [] => some []
  | .t t :: ws => (allT ws).map (t :: ·)
  | _ => none
theorem allT_append (a b : List W) : allT (a ++ b) = (allT a).bind fun x => (allT b).map (x ++ ·) := by
  induction a with
  | nil => simp [allT]
  | cons x a ih =>
    cases x <;> simp [allT, ih]
    cases allT a <;> simp
    cases allT b <;> simp
theorem allT_map (l : List T) : allT (l.map W.t) = some l := by
  induction l with
  | nil => rfl
  | cons x l ih => simp [allT, ih]
def aggW (ws : List W) : Prop × W :=
  match allT ws with
  | some ts => (ts.all T.isLeaf = true, .t (.agg ts))
  | none => (True, .agg ws)
/-- A name of what is there: a slice's, a pointer's. -/
def nameOk (g : Bool) (τ : Nat → W) : W → Prop
  | .ref r p => match nodeAt g τ r p with
    | (c, .sl _, t) => c ∧ t.isAny = false
    | (c, .box _, t) => c ∧ t.isAny = false
    | _ => False
  | .sub r p _ _ => match nodeAt g τ r p with
    | (c, .sl _, t) => c ∧ t.isAny = false
    | _ => False
  | _ => True
def bldW (g : Bool) (τ : Nat → W) (ws : List W) : List (Nat × Nat × Opd) → Prop × List W
  | [] => (True, ws)
  | (off, n, x) :: ps =>
    let v := evG g τ x
    let a := partW ws (off, n, v.2)
    let b := bldW g τ a.2 ps
    (v.1 ∧ nameOk g τ v.2 ∧ a.1 ∧ b.1, b.2)

/-- What an operation that only computes gives, and under which condition. -/
def pev (g : Bool) (τ : Nat → W) : AOp → Prop × W
  | .mv x => evG g τ x
  | .bin op k x y => match evT g τ x, evT g τ y with
    | (c, t), (d, u) => (c ∧ d ∧ t.isInt k ∧ u.isInt k ∧ (intOp op k t.toInt u.toInt).1, .t (intOp op k t.toInt u.toInt).2)
  | .shf op k yk x y => match evT g τ x, evT g τ y with
    | (c, t), (d, u) => (c ∧ d ∧ t.isInt k ∧ u.isInt yk ∧ (shfOp op k t.toInt u.toInt).1, .t (shfOp op k t.toInt u.toInt).2)
  | .beq ne x y => match evT g τ x, evT g τ y with
    | (c, t), (d, u) => (c ∧ d ∧ t.isBool ∧ u.isBool, .t (.bool (if ne then !(t.toBool == u.toBool) else t.toBool == u.toBool)))
  | .sbin op x y => match evT g τ x, evT g τ y with
    | (c, t), (d, u) => (c ∧ d ∧ t.isStr ∧ u.isStr ∧ (strOp op t.toStr u.toStr).1, .t (strOp op t.toStr u.toStr).2)
  | .aeq ne ks x y => match evT g τ x, evT g τ y with
    | (c, t), (d, u) => (c ∧ d ∧ t.isAgg ∧ u.isAgg ∧ LK.fitsAll ks t.leaves ∧ LK.fitsAll ks u.leaves, .t (.bool (if ne then !(LK.sameAll ks t.leaves u.leaves) else LK.sameAll ks t.leaves u.leaves)))
  | .snil ne x => match evT g τ x with
    | (c, .nil) => (c, .t (.bool (!ne)))
    | (c, .sl _ xs) => (c ∧ xs ≠ [], .t (.bool ne))
    | _ => (False, .dead)
  | .pick c a b => match evT g τ c, evW τ a, evW τ b with
    | (cc, tc), .t ta, .t tb => (cc ∧ tc.isBool ∧ ta.isBool ∧ tb.isBool, .t (.bool (bif tc.toBool then ta.toBool else tb.toBool)))
    | (cc, tc), .gd ga (.t ta), .t tb => (cc ∧ tc.isBool ∧ (g = true → tc.toBool = true → ga = true) ∧ ta.isBool ∧ tb.isBool, .t (.bool (bif tc.toBool then ta.toBool else tb.toBool)))
    | (cc, tc), .t ta, .gd gb (.t tb) => (cc ∧ tc.isBool ∧ (g = true → tc.toBool = false → gb = true) ∧ ta.isBool ∧ tb.isBool, .t (.bool (bif tc.toBool then ta.toBool else tb.toBool)))
    | (cc, tc), .gd ga (.t ta), .gd gb (.t tb) => (cc ∧ tc.isBool ∧ (g = true → tc.toBool = true → ga = true) ∧ (g = true → tc.toBool = false → gb = true) ∧ ta.isBool ∧ tb.isBool, .t (.bool (bif tc.toBool then ta.toBool else tb.toBool)))
    | _, _, _ => (False, .dead)
  | .not x => match evT g τ x with
    | (c, t) => (c ∧ t.isBool, .t (.bool (!t.toBool)))
  | .neg k x => match evT g τ x with
    | (c, t) => (c ∧ t.isInt k, .t (.int k (k.wrap (0 - t.toInt))))
  | .cpl k x => match evT g τ x with
    | (c, t) => (c ∧ t.isInt k, .t (intOp .xor k (if k.signed then -1 else k.max) t.toInt).2)
  | .conv k sk x => match evT g τ x with
    | (c, t) => (c ∧ t.isInt sk, .t (.int k (k.wrap t.toInt)))
  | .fld off n ag x => match evG g τ x with
    | (c, .t t) => (c ∧ t.isAgg ∧ (loadT t.leaves.length n off ag t).1, .t (loadT t.leaves.length n off ag t).2)
    | _ => (False, .dead)
  | .fadr off x => match evG g τ x with
    | (c, x) => match toAddr g τ x with
      | (d, .adr r p i f) => (c ∧ d, .adr r p i (f + off))
      | (d, .at sz e f) => (c ∧ d, .at sz e (f + off))
      | _ => (False, .dead)
  | .iadr sz k x i => match evG g τ x, evT g τ i with
    | (c, .t t), (d, u) => (c ∧ d ∧ t.isSl sz ∧ (idxT k u).1 ∧ (idxT k u).2 < t.elems.length, .at sz (t.elems.getD (idxT k u).2 default) 0)
    | (c, .ref r p), (d, u) => (c ∧ d ∧ (lenW g τ sz (.ref r p)).1 ∧ (idxT k u).1 ∧ (idxT k u).2 < (lenW g τ sz (.ref r p)).2, .adr r p (idxT k u).2 0)
    | (c, .sub r p lo n), (d, u) => (c ∧ d ∧ (lenW g τ sz (.ref r p)).1 ∧ lo + n ≤ (lenW g τ sz (.ref r p)).2 ∧ (idxT k u).1 ∧ (idxT k u).2 < n, .adr r p (lo + (idxT k u).2) 0)
    | _, _ => (False, .dead)
  | .aadr sz n k x i => match evG g τ x, evT g τ i with
    | (c, x), (d, u) => match toAddr g τ x with
      | (b, .adr r p j f) => (c ∧ b ∧ d ∧ (idxT k u).1 ∧ (idxT k u).2 < n, .adr r p j (f + (idxT k u).2 * sz))
      | (b, .at z e f) => (c ∧ b ∧ d ∧ (idxT k u).1 ∧ (idxT k u).2 < n, .at z e (f + (idxT k u).2 * sz))
      | _ => (False, .dead)
  | .load n ag x => match evG g τ x with
    | (c, x) => (c ∧ (loadW g τ n ag x).1, (loadW g τ n ag x).2)
  | .idxA sz n ag k x i => match evT g τ x, evT g τ i with
    | (c, t), (d, u) => (c ∧ d ∧ t.isAgg ∧ (idxT k u).1 ∧ (idxT k u).2 < n ∧ t.leaves.length = n * sz ∧ (ag = false → sz = 1), .t (if ag then .agg ((t.leaves.drop ((idxT k u).2 * sz)).take sz) else t.leaves.getD ((idxT k u).2 * sz) default))
  | .idxS k x i => match evT g τ x, evT g τ i with
    | (c, t), (d, u) => (c ∧ d ∧ t.isStr ∧ (idxT k u).1 ∧ (idxT k u).2 < t.toStr.size, .t (.int .u8 ((t.toStr.data.toList.getD (idxT k u).2 0).toNat : Int)))
  | .slc sz x lo hi => match evG g τ x with
    | (c, x) =>
      let n := lenW g τ sz x
      let l := bound g τ 0 lo
      let h := bound g τ n.2 hi
      (c ∧ n.1 ∧ l.1 ∧ h.1 ∧ l.2 ≤ h.2 ∧ h.2 ≤ n.2, match x with
        | .t t => .t (.sl sz ((t.elems.drop l.2).take (h.2 - l.2)))
        | .ref r p => .sub r p l.2 (h.2 - l.2)
        | .sub r p lo _ => .sub r p (lo + l.2) (h.2 - l.2)
        | _ => .dead)
  | .slcS x lo hi => match evT g τ x with
    | (c, t) =>
      let l := bound g τ 0 lo
      let h := bound g τ t.toStr.size hi
      (c ∧ t.isStr ∧ l.1 ∧ h.1 ∧ l.2 ≤ h.2 ∧ h.2 ≤ t.toStr.size, .t (.str (t.toStr.extract l.2 h.2)))
  | .len sz x => match evG g τ x with
    | (c, x) => (c ∧ (lenW g τ sz x).1, .t (.int .i64 ((lenW g τ sz x).2 : Int)))
  | .lenS x => match evT g τ x with
    | (c, t) => (c ∧ t.isStr, .t (.int .i64 (t.toStr.size : Int)))
  | .bld zero ps => let b := bldW g τ (zero.map W.t) ps; (b.1 ∧ (aggW b.2).1, (aggW b.2).2)
  | .ext x i => match evG g τ x with
    | (c, .ref r p) => match nodeAt g τ r p with
      | (d, .tup ks, t) => match ks.getD i .sh with
        | .sh => (c ∧ d ∧ t.isAny = false ∧ i < ks.length, .t (t.comps.getD i default))
        | _ => (c ∧ d ∧ t.isAny = false ∧ i < ks.length, .ref r (p ++ [(0, i)]))
      | _ => (False, .dead)
    | (c, .t t) => (c ∧ t.isTup ∧ i < t.comps.length, .t (t.comps.getD i default))
    | _ => (False, .dead)
  | .nilc x => match evG g τ x with
    | (c, .ref r p) => match nodeAt g τ r p with
      | (d, .box _, t) => (c ∧ d ∧ t.isAny = false, .ref r p)
      | _ => (False, .dead)
    | (c, .t (.ptr sz e)) => (c, .t (.ptr sz e))
    | (c, .t (.fn f)) => (c, .t (.fn f))
    | _ => (False, .dead)
end Go.Proofs.Ytaefhdklkbohmaa
/- Operands: what they are told by holds. Generic. -/
namespace Go.Proofs.Ytaefhdklkbohmaa
open Go Go.RowKit

def matV : Value → T → Bool
  | .int k n, .int k' m => k == k' && n == m
  | .bool a, .bool b => a == b
  | .string s, .str s' => s.data == s'.data
  | .slice none 0 0, .nil => true
  | .slice none 0 0, .sl _ [] => true
  | .nilIface, .raw .nilIface => true
  | .pointer none, .raw (.pointer none) => true
  | .nilFunc, .raw .nilFunc => true
  | .map none, .raw (.map none) => true
  | _, _ => false
def matO : Operand → Opd → Bool
  | .tmp t, .tmp s => t == s
  | .const v, .const t => matV v t
  | .func f, .const (.fn g) => f == g
  | _, _ => false

theorem matV_sound {w : World} {A : Nat → Prop} {v : Value} {t : T} (h : matV v t = true) : RT w A t v := by
  unfold matV at h
  split at h <;> try (simp at h; done)
  · simp at h; simp [RT, R0, RL, h]
  · simp at h; simp [RT, R0, RL, h]
  · rename_i s s'
    have : s = s' := by
      cases s; cases s'; simp at h; simp [h]
    simp [RT, R0, RL, this]
  · simp [RT, R0, RL]
  · simp [RT, R0, RL]
  · simp [RT, R0, RL]
  · simp [RT, R0, RL]
  · simp [RT, R0, RL]
  · simp [RT, R0, RL]

/-- Part of what is known. -/
def Sub (τ σ : Nat → W) : Prop := ∀ s, τ s = .dead ∨ τ s = σ s

section
variable {w0 : World} {I : Nat → Prop} {N : Nat} {σ τ : Nat → W} {fp : Nat → List Nat} {a : Act} {w : World}

theorem loc_nil (w : World) (k : K) (c : Value) : loc w k c [] = some c := rfl

/-- An operand holds what it is told by. -/
theorem evG_sound (h : Rel w0 I N σ fp a w) (hs : Sub τ σ) {X : Operand} {x : Opd} (hm : matO X x = true) (hc : (evG true τ x).1) :
    (evG true τ x).2.isRoot = false ∧ WW w (Free w fp) σ (Act.at a) [] (evG true τ x).2 (a.eval X) := by
  cases x with
  | const t =>
    have : RT w (Free w fp) t (a.eval X) := by
      cases X with
      | const v => exact matV_sound hm
      | func f =>
        cases t <;> simp [matO] at hm
        subst hm
        simp [RT, R0, RL, Act.eval]
      | _ => simp [matO] at hm
    exact ⟨rfl, rfl, this⟩
  | tmp s =>
    have hX : a.eval X = Act.at a s := by
      cases X <;> simp [matO] at hm
      subst hm; rfl
    rw [hX]
    have h1 := h.slots s
    simp only [evG] at hc ⊢
    rcases hs s with e | e
    · rw [e]; exact ⟨rfl, rfl, trivial⟩
    · rw [e] at hc ⊢
      generalize σ s = x at *
      cases x with
      | own k t =>
        exact ⟨rfl, rfl, fun k' t' _ _ _ => by rw [loc_nil]⟩
      | gd g y =>
        cases y with
        | own k t =>
          exact ⟨rfl, rfl, fun k' t' _ _ _ => by rw [loc_nil]⟩
        | gd g' y' => exact hc.elim
        | agg ws =>
          obtain ⟨_, h3⟩ := h1.2 (by simpa using hc)
          exact ⟨rfl, rfl, h3⟩
        | gone h => exact hc.elim
        | _ => exact ⟨rfl, rfl, (h1.2 (by simpa using hc)).2⟩
      | agg ws => exact ⟨rfl, rfl, h1.2⟩
      | gone h => exact hc.elim
      | _ => exact ⟨rfl, rfl, h1.2⟩

theorem evT_sound (h : Rel w0 I N σ fp a w) (hs : Sub τ σ) {X : Operand} {x : Opd} (hm : matO X x = true) (hc : (evT true τ x).1) :
    RT w (Free w fp) (evT true τ x).2 (a.eval X) := by
  unfold evT at hc ⊢
  split at hc
  · rename_i c t e
    have hc' : (evG true τ x).1 := by rw [e]; exact hc
    have := (evG_sound h hs hm hc').2
    rw [e] at this
    exact this.2
  · exact hc.elim

theorem rootAt_sound (hs : Sub τ σ) {r : Nat} (hc : (rootAt true τ r).1) : Root σ r (rootAt true τ r).2.1 (rootAt true τ r).2.2 := by
  unfold rootAt at hc ⊢
  rcases hs r with e | e
  · rw [e] at hc; exact hc.elim
  · generalize hx : τ r = x at hc ⊢
    rw [hx] at e
    cases x with
    | own k t => exact .own e.symm
    | gd g y =>
      cases y with
      | own k t =>
        have : g = true := hc rfl
        subst this
        exact .gd e.symm
      | _ => exact hc.elim
    | _ => exact hc.elim
end
end Go.Proofs.Ytaefhdklkbohmaa
/- Operations that only compute: scalars. Generic. -/
namespace Go.Proofs.Ytaefhdklkbohmaa
open Go Go.RowKit

section
variable {P : Program} {w : World} {A : Nat → Prop}
theorem RT_int {t : T} {k : IntKind} {c : Value} (h : RT w A t c) (hk : t.isInt k) : c = .int k t.toInt := by
  rw [T.isInt_eq hk] at h; simpa [RT, R0, RL] using h
theorem RT_bool {t : T} {c : Value} (h : RT w A t c) (hk : t.isBool) : c = .bool t.toBool := by
  rw [T.isBool_eq hk] at h; simpa [RT, R0, RL] using h
theorem RT_str {t : T} {c : Value} (h : RT w A t c) (hk : t.isStr) : c = .string t.toStr := by
  rw [T.isStr_eq hk] at h; simpa [RT, R0, RL] using h
theorem RT_mkInt (k : IntKind) (n : Int) : RT w A (.int k n) (.int k n) := by simp [RT, R0, RL]
theorem RT_mkBool (b : Bool) : RT w A (.bool b) (.bool b) := by simp [RT, R0, RL]
theorem RT_mkStr (s : ByteArray) : RT w A (.str s) (.string s) := by simp [RT, R0, RL]

theorem run_v {s : Sem Value} {w w' : World} {c : Value} (h : s.run P w = .ok c w') : (do pure (Next.value (← s)) : Sem Next).run P w = .ok (.value c) w' := by
  simp [Sem.run_bind, h, Result.andThen, Sem.run, pure]

def BinOp.isShift : BinOp → Bool
  | .shl => true
  | .shr => true
  | _ => false

theorem run_bin (op : BinOp) (k : IntKind) (ty : TypeId) (X Y : Operand) (x y : Int) (hs : BinOp.isShift op = false) (hc : (intOp op k x y).1) :
    ∃ c, (do eqGuard op ty X Y (.int k x) (.int k y); binOp op ty (.int k x) (.int k y) : Sem Value).run P w = .ok c w ∧ RT w A (intOp op k x y).2 c := by
  cases op <;> simp only [intOp] at hc ⊢ <;>
    first
    | (simp [BinOp.isShift] at hs; done)
    | (refine ⟨_, ?_, RT_mkInt _ _⟩; simp [eqGuard, binOp, Op.intArith, Op.intBits, Op.intDiv, Sem.run_bind, Sem.run, pure, Result.andThen, hc]; done)
    | (refine ⟨_, ?_, RT_mkBool _⟩; simp [eqGuard, binOp, Op.intCmp, Sem.run_bind, Sem.run, pure, Result.andThen]; done)
    | skip
theorem run_shf (op : BinOp) (k yk : IntKind) (ty : TypeId) (X Y : Operand) (x y : Int) (hc : (shfOp op k x y).1) :
    ∃ c, (do eqGuard op ty X Y (.int k x) (.int yk y); binOp op ty (.int k x) (.int yk y) : Sem Value).run P w = .ok c w ∧ RT w A (shfOp op k x y).2 c := by
  cases op <;> simp only [shfOp] at hc ⊢ <;>
    first
    | exact hc.elim
    | (refine ⟨_, ?_, RT_mkInt _ _⟩; simp [eqGuard, binOp, Op.shift, Sem.run_bind, Sem.run, pure, Result.andThen, show ¬ y < 0 by omega]; done)
theorem run_equal_bool (ty : TypeId) (x y : Bool) (hu : P.underlying ty = some .bool) : (Op.equal ty (.bool x) (.bool y)).run P w = .ok (x == y) w := by
  show (Op.equalIn (9999 + 1) ty (.bool x) (.bool y)).run P w = _
  rw [Op.equalIn]
  simp [run_underlying hu, Sem.run_bind, Sem.run, pure, Result.andThen]
theorem run_beq (ne : Bool) (ty : TypeId) (X Y : Operand) (x y : Bool) (hu : P.underlying ty = some .bool) :
    (do eqGuard (if ne then .neq else .eql) ty X Y (.bool x) (.bool y); binOp (if ne then .neq else .eql) ty (.bool x) (.bool y) : Sem Value).run P w = .ok (.bool (if ne then !(x == y) else x == y)) w := by
  have h := run_equal_bool (w := w) ty x y hu
  cases ne <;> simp [eqGuard, binOp, Sem.run_bind, h, Sem.run, pure, Result.andThen]
theorem run_sbin (op : BinOp) (ty : TypeId) (X Y : Operand) (x y : ByteArray) (hc : (strOp op x y).1) :
    ∃ c, (do eqGuard op ty X Y (.string x) (.string y); binOp op ty (.string x) (.string y) : Sem Value).run P w = .ok c w ∧ RT w A (strOp op x y).2 c := by
  cases op <;> simp only [strOp] at hc ⊢ <;>
    first
    | exact hc.elim
    | (refine ⟨_, ?_, RT_mkBool _⟩; simp [eqGuard, binOp, Op.stringOp, Sem.run_bind, Sem.run, pure, Result.andThen]; done)
    | skip
  have h : ¬ (((x.size + y.size : Nat) : Int) > IntKind.i64.max) := by omega
  refine ⟨_, ?_, RT_mkStr _⟩
  simp only [eqGuard, binOp, Op.stringOp, if_neg h]
  simp [Sem.run_bind, Sem.run, pure, Result.andThen]
theorem run_not (x : Bool) : (Op.unary .not (.bool x)).run P w = .ok (.bool (!x)) w := by simp [Op.unary, Sem.run, pure]
theorem run_neg (k : IntKind) (x : Int) : (Op.unary .neg (.int k x)).run P w = .ok (.int k (k.wrap (0 - x))) w := by simp [Op.unary, Op.intArith, Sem.run, pure]
theorem run_cpl (k : IntKind) (x : Int) : ∃ c, (Op.unary .xor (.int k x)).run P w = .ok c w ∧ RT w A (intOp .xor k (if k.signed then -1 else k.max) x).2 c := by
  refine ⟨_, ?_, RT_mkInt _ _⟩
  simp [Op.unary, Op.intBits, Sem.run, pure]
theorem run_conv (src dst : TypeId) (k sk : IntKind) (n : Int) {u : TypeDesc} (hs : P.underlying src = some u) (hd : P.underlying dst = some (.int k)) :
    (convert src dst (.int sk n)).run P w = .ok (.int k (k.wrap n)) w := by
  cases u <;> simp [convert, run_underlying hs, run_underlying hd, Conv.intToInt, Sem.run_bind, Sem.run, pure, Result.andThen]
theorem run_idxS (ty : TypeId) (k : IntKind) (s : ByteArray) (i : Int) (hu : P.underlying ty = some .string) (h0 : 0 ≤ i) (h1 : i.toNat < s.size) :
    (Instr.index ty (.string s) (.int k i)).run P w = .ok (.int .u8 ((s.data.toList.getD i.toNat 0).toNat : Int)) w := by
  have h2 : s[i.toNat]? = some (s.data.toList.getD i.toNat 0) := by
    rw [getElem?_pos s i.toNat h1]
    simp [List.getD_eq_getElem?_getD]
    rw [getElem?_pos s.data i.toNat h1]
    rfl
  simp [Instr.index, asIntOf, run_underlying hu, Sem.run_bind, Sem.run, pure, Result.andThen, h0, h2]
theorem run_lenS (ty : TypeId) (s : ByteArray) (rt : TypeId) (hu : P.underlying ty = some .string) : (Builtin.len_ #[ty] rt #[.string s]).run P w = .ok (.int .i64 (s.size : Int)) w := by
  simp [Builtin.len_, run_underlying hu, Sem.run_bind, Sem.run, pure, Result.andThen, goInt]
end
end Go.Proofs.Ytaefhdklkbohmaa
/- Operations that only compute: addresses. Generic. -/
namespace Go.Proofs.Ytaefhdklkbohmaa
open Go Go.RowKit

theorem Root.unique {σ : Nat → W} {r : Nat} {k k' : K} {t t' : T} (h : Root σ r k t) (h' : Root σ r k' t') : k = k' ∧ t = t' := by
  cases h with
  | own h => cases h' with
    | own h' => rw [h] at h'; cases h'; exact ⟨rfl, rfl⟩
    | gd h' => rw [h] at h'; cases h'
  | gd h => cases h' with
    | own h' => rw [h] at h'; cases h'
    | gd h' => rw [h] at h'; cases h'; exact ⟨rfl, rfl⟩
theorem add_lit (b o n : Nat) : (⟨b, o, none⟩ : Addr).add n = ⟨b, o + n, none⟩ := by
  unfold Addr.add; split <;> simp_all

section
variable {P : Program} {w0 : World} {I : Nat → Prop} {N : Nat} {σ τ : Nat → W} {fp : Nat → List Nat} {a : Act} {w : World}

/-- A node of what is owned. -/
theorem node_sound (h : Rel w0 I N σ fp a w) (hs : Sub τ σ) {r : Nat} {p : Way} (hc : (nodeAt true τ r p).1) :
    ∃ k t c1 F1, Root σ r k t ∧ okP k t p ∧ kindAt k p = (nodeAt true τ r p).2.1 ∧ subT k t p = (nodeAt true τ r p).2.2 ∧ loc w k (Act.at a r) p = some c1 ∧ RO w (Free w fp) (kindAt k p) (subT k t p) c1 F1 ∧ ∀ b ∈ F1, b ∈ fp r := by
  obtain ⟨hc1, hc2⟩ := hc
  have hr := rootAt_sound hs hc1
  obtain ⟨c1, Fa, F1, Fb, e1, e2, _, e3, _⟩ := RO.zoom2 p (h.root hr) hc2
  exact ⟨_, _, c1, F1, hr, hc2, rfl, rfl, e1, e3, fun b hb => by rw [e2]; simp [hb]⟩

theorem RE_at {A : Nat → Prop} {sz : Nat} : ∀ {xs : List T} {es : List Value} (_ : RE w A sz xs es) (i : Nat) (_ : i < xs.length), ∃ c1 c2 c3, es = c1 ++ c2 ++ c3 ∧ c1.length = i * sz ∧ c2.length = sz ∧ RL w A (xs.getD i default) c2
  | [], _, _, i, hi => by simp at hi
  | x :: xs, es, h, 0, _ => by
    simp only [RE] at h
    obtain ⟨c1, cs', rfl, hl, h1, h2⟩ := h
    exact ⟨[], c1, cs', by simp, by simp, hl, by simpa using h1⟩
  | x :: xs, es, h, i + 1, hi => by
    simp only [RE] at h
    obtain ⟨c1, cs', rfl, hl, h1, h2⟩ := h
    obtain ⟨d1, d2, d3, rfl, e1, e2, e3⟩ := RE_at h2 i (by simpa using hi)
    exact ⟨c1 ++ d1, d2, d3, by simp, by simp [hl, e1, Nat.add_mul]; omega, e2, by simpa using e3⟩
theorem Cells.part {b o : Nat} {c1 c2 c3 : List Value} (h : Cells w b o (c1 ++ c2 ++ c3)) : Cells w b (o + c1.length) c2 := by
  intro j u hj
  rw [Nat.add_assoc]
  refine h (c1.length + j) u ?_
  rw [List.append_assoc, List.getElem?_append_right (by omega), Nat.add_sub_cancel_left]
  rw [List.getElem?_append_left]
  · exact hj
  · exact (List.getElem?_eq_some_iff.1 hj).1

theorem run_indexAt (ty e : TypeId) (i : TypeInfo) (hu : P.underlying ty = some (.slice e)) (hi : P.info? e = some i) (b o n cap : Nat) (k : IntKind) (x : Int) (h0 : 0 ≤ x) (h1 : x.toNat < n) :
    (Instr.indexAt ty (.slice (some ⟨b, o, none⟩) n cap) (.int k x)).run P w = .ok (.pointer (some ⟨b, o + x.toNat * i.size, none⟩)) w := by
  have h2 : 0 ≤ x ∧ x < (n : Int) := ⟨h0, by omega⟩
  simp [Instr.indexAt, asIntOf, run_underlying hu, Sem.run_bind, Sem.run, pure, Result.andThen, h2, sizeOf, typeInfo, hi, program, add_lit]

/-- The address of a slice's element. -/
theorem iadr_sound (h : Rel w0 I N σ fp a w) (hs : Sub τ σ) {X Y : Operand} {x y : Opd} {sz : Nat} {k : IntKind} (hX : matO X x = true) (hY : matO Y y = true)
    (ty e : TypeId) (i : TypeInfo) (hu : P.underlying ty = some (.slice e)) (hi : P.info? e = some i) (hsz : i.size = sz) (hc : (pev true τ (.iadr sz k x y)).1) :
    ∃ c, (Instr.indexAt ty (a.eval X) (a.eval Y)).run P w = .ok c w ∧ (pev true τ (.iadr sz k x y)).2.isRoot = false ∧ WW w (Free w fp) σ (Act.at a) [] (pev true τ (.iadr sz k x y)).2 c := by
  simp only [pev] at hc ⊢
  generalize hx : evG true τ x = ex at hc ⊢
  generalize hy : evT true τ y = ey at hc ⊢
  obtain ⟨cx, vx⟩ := ex
  obtain ⟨cy, ty'⟩ := ey
  have key : cx → (evG true τ x).2.isRoot = false ∧ WW w (Free w fp) σ (Act.at a) [] vx (a.eval X) := fun hcx => by
    have := evG_sound h hs hX (by rw [hx]; exact hcx)
    rwa [hx] at this ⊢
  have keyY : cy → RT w (Free w fp) ty' (a.eval Y) := fun hcy => by
    have := evT_sound h hs hY (by rw [hy]; exact hcy)
    rwa [hy] at this
  cases vx with
  | t t =>
    simp only [idxT] at hc ⊢
    obtain ⟨h1, h2, h3, ⟨h4, h5⟩, h6⟩ := hc
    obtain ⟨_, _, h7⟩ := key h1
    have h8 := RT_int (keyY h2) h4
    cases t with
    | sl z xs =>
      simp only [T.isSl] at h3
      subst h3
      simp only [T.elems] at h6 ⊢
      simp only [WV, RT, R0, RL] at h7
      obtain ⟨p, cap, h9, h10, h11⟩ := h7
      simp only [List.cons.injEq, and_true] at h9
      rcases h11 with rfl | ⟨b, o, es, rfl, h12, h13, h14⟩
      · simp at h6
      obtain ⟨c1, c2, c3, rfl, e1, e2, e3⟩ := RE_at h14 _ h6
      refine ⟨_, by rw [h8, h9]; exact run_indexAt ty e i hu hi b o _ _ k _ h5 h6, rfl, rfl, b, o + ty'.toInt.toNat * i.size, c2, rfl, h12, ?_, e2, e3⟩
      have := Cells.part h13
      rwa [e1, ← hsz] at this
    | nil => simp [T.elems] at h6
    | _ => simp [T.isSl] at h3
  | ref r p =>
    simp only [lenW] at hc
    generalize hn : nodeAt true τ r p = n at hc
    obtain ⟨cn, kn, tn⟩ := n
    cases kn with
    | sl ks =>
      simp only [idxT] at hc ⊢
      obtain ⟨h1, h2, ⟨h3, h3', _⟩, ⟨h4, h5⟩, h6⟩ := hc
      obtain ⟨_, _, h7⟩ := key h1
      have h8 := RT_int (keyY h2) h4
      obtain ⟨k', t', c1, F1, r1, r2, r3, r4, r5, r6, r7⟩ := node_sound h hs (r := r) (p := p) (by rw [hn]; exact h3)
      rw [hn] at r3 r4
      simp only at r3 r4
      have h9 := h7 k' t' r1 r2 (by rw [r3]; rfl)
      rw [r5] at h9
      simp only [Option.some.injEq] at h9
      rw [r3, r4] at r6
      simp only [RO] at r6
      rcases r6 with ⟨rfl, _⟩ | ⟨xs, rfl, ⟨rfl, _⟩ | ⟨b, o, cap, cur, el, Fs, rfl, _⟩⟩
      · simp [T.elems] at h6
      · simp [T.elems] at h6
      simp only [T.elems] at h6
      refine ⟨_, by rw [h8, ← h9]; exact run_indexAt ty e i hu hi b o _ _ k _ h5 h6, rfl, rfl, ?_⟩
      intro k'' t'' hr ho hk
      obtain ⟨rfl, rfl⟩ := Root.unique r1 hr
      refine ⟨_, r5, ?_⟩
      rw [r3]
      simp only [adrV]
      rw [h3', hsz, Nat.add_zero]
    | _ => obtain ⟨_, _, h3, _⟩ := hc; exact h3.elim
  | sub r p lo m =>
    simp only [lenW] at hc
    generalize hn : nodeAt true τ r p = n at hc
    obtain ⟨cn, kn, tn⟩ := n
    cases kn with
    | sl ks =>
      simp only [idxT] at hc ⊢
      obtain ⟨h1, h2, ⟨h3, h3', _⟩, h33, ⟨h4, h5⟩, h6⟩ := hc
      obtain ⟨_, _, h7⟩ := key h1
      have h8 := RT_int (keyY h2) h4
      obtain ⟨k', t', c1, F1, r1, r2, r3, r4, r5, r6, r7⟩ := node_sound h hs (r := r) (p := p) (by rw [hn]; exact h3)
      rw [hn] at r3 r4
      simp only at r3 r4
      obtain ⟨c1', h9, Q, n1, cap1, h10, h11, h12, Q', h13, h14⟩ := h7 k' t' r1 r2 (by rw [r3]; rfl)
      rw [r5] at h9
      simp only [Option.some.injEq] at h9
      subst h9
      rw [r3, r4] at r6
      simp only [RO] at r6
      rcases r6 with ⟨rfl, _⟩ | ⟨xs, rfl, ⟨rfl, _⟩ | ⟨b, o, cap, cur, el, Fs, rfl, _⟩⟩
      · simp [T.elems] at h33; omega
      · simp [T.elems] at h33; omega
      simp only [Value.slice.injEq] at h10
      obtain ⟨rfl, rfl, rfl⟩ := h10
      have h15 := h14 (by omega)
      simp only [Option.map_some, add_lit] at h15
      rw [h15] at h13
      refine ⟨_, by rw [h8, h13]; exact run_indexAt ty e i hu hi b _ _ _ k _ h5 h6, rfl, rfl, ?_⟩
      intro k'' t'' hr ho hk
      obtain ⟨rfl, rfl⟩ := Root.unique r1 hr
      refine ⟨_, r5, ?_⟩
      rw [r3]
      simp only [adrV]
      rw [hsz, Nat.add_zero, K.kids, h3', Nat.add_mul, Nat.add_assoc]
    | _ => obtain ⟨_, _, h3, _⟩ := hc; exact h3.elim
  | _ => exact hc.elim
end
end Go.Proofs.Ytaefhdklkbohmaa
/- Operations that only compute: fields, arrays, loads. Generic. -/
namespace Go.Proofs.Ytaefhdklkbohmaa
open Go Go.RowKit

section
variable {P : Program} {w0 : World} {I : Nat → Prop} {N : Nat} {σ τ : Nat → W} {fp : Nat → List Nat} {a : Act} {w : World}

theorem adrV_pointer {k : K} {c1 : Value} {i f : Nat} {c : Value} (h : adrV k c1 i f c) : ∃ b o, c = .pointer (some ⟨b, o, none⟩) ∧ ∀ g, adrV k c1 i (f + g) (.pointer (some ⟨b, o + g, none⟩)) := by
  unfold adrV at h
  split at h
  · subst h; exact ⟨_, _, rfl, fun g => by simp only [adrV, Nat.add_assoc]⟩
  · subst h; exact ⟨_, _, rfl, fun g => by simp only [adrV]⟩
  · exact h.elim

theorem toAddr_sound (h : Rel w0 I N σ fp a w) (hs : Sub τ σ) {x : W} {c : Value} (hx : WW w (Free w fp) σ (Act.at a) [] x c) (hc : (toAddr true τ x).1) :
    WV w (Free w fp) σ (Act.at a) (toAddr true τ x).2 c ∧ ((∃ r p i f, (toAddr true τ x).2 = .adr r p i f ∧ (nodeAt true τ r p).1 ∧ ((∃ ks, (nodeAt true τ r p).2.1 = .box ks) ∨ ∃ ks, (nodeAt true τ r p).2.1 = .sl ks)) ∨ ∃ sz e f, (toAddr true τ x).2 = .at sz e f) := by
  unfold toAddr at hc ⊢
  cases x with
  | ref r p =>
    simp only at hc ⊢
    generalize hn : nodeAt true τ r p = n at hc
    obtain ⟨cn, kn, tn⟩ := n
    cases kn with
    | box ks =>
      obtain ⟨hc1, hc2⟩ := hc
      obtain ⟨k', t', c1, F1, r1, r2, r3, r4, r5, r6, r7⟩ := node_sound h hs (r := r) (p := p) (by rw [hn]; exact hc1)
      rw [hn] at r3 r4
      simp only at r3 r4
      refine ⟨?_, .inl ⟨r, p, _, _, rfl, by rw [hn]; exact hc1, .inl ⟨ks, by rw [hn]⟩⟩⟩
      intro k t hr ho hk
      obtain ⟨rfl, rfl⟩ := Root.unique r1 hr
      refine ⟨c1, r5, ?_⟩
      have h9 := hx.2 k' t' r1 r2 (by rw [r3]; rfl)
      rw [r5] at h9
      simp only [Option.some.injEq] at h9
      subst h9
      rw [r3, r4] at r6
      rw [r3]
      simp only [RO] at r6
      rcases r6 with ⟨rfl, _⟩ | ⟨b, cur, e, Fs, rfl, _⟩
      · simp [T.isAny] at hc2
      · simp only [adrV]
    | _ => exact hc.elim
  | t t =>
    cases t with
    | ptr sz e =>
      simp only at hc ⊢
      refine ⟨?_, .inr ⟨_, _, _, rfl⟩⟩
      have h1 := hx.2
      simp only [WV, RT, R0, RL] at h1
      obtain ⟨b, o, es, h2, h3, h4, h5, h6⟩ := h1
      simp only [List.cons.injEq, and_true] at h2
      exact ⟨b, o, es, h2, h3, h4, h5, h6⟩
    | _ => exact hc.elim
  | adr r p i f =>
    simp only at hc ⊢
    generalize hn : nodeAt true τ r p = n at hc
    obtain ⟨cn, kn, tn⟩ := n
    cases kn with
    | box ks => exact ⟨hx.2, .inl ⟨r, p, _, _, rfl, by rw [hn]; exact hc, .inl ⟨ks, by rw [hn]⟩⟩⟩
    | sl ks => exact ⟨hx.2, .inl ⟨r, p, _, _, rfl, by rw [hn]; exact hc, .inr ⟨ks, by rw [hn]⟩⟩⟩
    | _ => exact hc.elim
  | «at» sz e f => exact ⟨hx.2, .inr ⟨_, _, _, rfl⟩⟩
  | _ => exact hc.elim

/-- An address moved on. -/
theorem adr_add (h : Rel w0 I N σ fp a w) (hs : Sub τ σ) {r : Nat} {p : Way} {i f : Nat} {c : Value} (hx : WV w (Free w fp) σ (Act.at a) (.adr r p i f) c) (hn : (nodeAt true τ r p).1) (hk : (nodeAt true τ r p).2.1.isOwn = true) :
    ∃ b o, c = .pointer (some ⟨b, o, none⟩) ∧ ∀ g, WV w (Free w fp) σ (Act.at a) (.adr r p i (f + g)) (.pointer (some ⟨b, o + g, none⟩)) := by
  obtain ⟨k', t', c1, F1, r1, r2, r3, r4, r5, r6, r7⟩ := node_sound h hs hn
  obtain ⟨c2, h1, h2⟩ := hx k' t' r1 r2 (by rw [r3]; exact hk)
  obtain ⟨b, o, e1, e2⟩ := adrV_pointer h2
  refine ⟨b, o, e1, fun g => ?_⟩
  intro k t hr ho hk
  obtain ⟨rfl, rfl⟩ := Root.unique r1 hr
  exact ⟨c2, h1, e2 g⟩
theorem at_add {sz : Nat} {e : T} {f : Nat} {c : Value} (h : WV w (Free w fp) σ (Act.at a) (.at sz e f) c) : ∃ b o, c = .pointer (some ⟨b, o, none⟩) ∧ ∀ g, WV w (Free w fp) σ (Act.at a) (.at sz e (f + g)) (.pointer (some ⟨b, o + g, none⟩)) := by
  obtain ⟨b, o, es, rfl, h1, h2, h3, h4⟩ := h
  refine ⟨b, o + f, rfl, fun g => ⟨b, o, es, by rw [Nat.add_assoc], h1, h2, h3, h4⟩⟩
/-- An address, and what lies some cells farther on. -/
theorem addr_on (h : Rel w0 I N σ fp a w) (hs : Sub τ σ) {x : W} {c : Value} (hx : WW w (Free w fp) σ (Act.at a) [] x c) (hc : (toAddr true τ x).1) :
    ∃ b o, c = .pointer (some ⟨b, o, none⟩) ∧ ∀ g, WV w (Free w fp) σ (Act.at a) (match (toAddr true τ x).2 with
      | .adr r p i f => .adr r p i (f + g)
      | .at sz e f => .at sz e (f + g)
      | _ => .dead) (.pointer (some ⟨b, o + g, none⟩)) := by
  obtain ⟨h1, h2⟩ := toAddr_sound h hs hx hc
  rcases h2 with ⟨r, p, i, f, e, hn, hk⟩ | ⟨sz, e', f, e⟩
  · rw [e] at h1 ⊢
    exact adr_add h hs h1 hn (by rcases hk with ⟨ks, hk⟩ | ⟨ks, hk⟩ <;> rw [hk] <;> rfl)
  · rw [e] at h1 ⊢
    exact at_add h1

theorem run_fieldAt (ty : TypeId) (b o n : Nat) (fs : Array Field) (f : Field) (i : TypeInfo) (hu : P.underlying ty = some (.struct fs)) (hf : fs[n]? = some f) (hi : P.info? f.type = some i) (hsz : 0 < i.size) :
    (Instr.fieldAt ty (.pointer (some ⟨b, o, none⟩)) n).run P w = .ok (.pointer (some ⟨b, o + f.offset, none⟩)) w := by
  have h0 : ¬ i.size = 0 := by omega
  simp [Instr.fieldAt, Instr.sureAddr, run_underlying hu, hf, fieldPlace, sizeOf, typeInfo, hi, h0, Sem.run_bind, Sem.run, pure, Result.andThen, program, add_lit]
theorem fadr_sound (h : Rel w0 I N σ fp a w) (hs : Sub τ σ) {X : Operand} {x : Opd} {off : Nat} (hX : matO X x = true)
    (ty n : Nat) (fs : Array Field) (f : Field) (i : TypeInfo) (hu : P.underlying ty = some (.struct fs)) (hf : fs[n]? = some f) (hi : P.info? f.type = some i) (hsz : 0 < i.size) (ho : f.offset = off) (hc : (pev true τ (.fadr off x)).1) :
    ∃ c, (Instr.fieldAt ty (a.eval X) n).run P w = .ok c w ∧ (pev true τ (.fadr off x)).2.isRoot = false ∧ WW w (Free w fp) σ (Act.at a) [] (pev true τ (.fadr off x)).2 c := by
  simp only [pev] at hc ⊢
  have hcx : (evG true τ x).1 ∧ (toAddr true τ (evG true τ x).2).1 := by
    generalize evG true τ x = ex at hc ⊢
    obtain ⟨cx, vx⟩ := ex
    simp only at hc ⊢
    generalize toAddr true τ vx = ta at hc ⊢
    obtain ⟨ct, vt⟩ := ta
    cases vt <;> first | exact hc | exact hc.elim
  obtain ⟨h1, h2⟩ := evG_sound h hs hX hcx.1
  obtain ⟨b, o, e1, e2⟩ := addr_on h hs h2 hcx.2
  refine ⟨.pointer (some ⟨b, o + off, none⟩), by rw [e1, ← ho]; exact run_fieldAt ty b o n fs f i hu hf hi hsz, ?_⟩
  have e3 := e2 off
  generalize evG true τ x = ex at hc ⊢ e3
  obtain ⟨cx, vx⟩ := ex
  simp only at hc ⊢ e3
  generalize toAddr true τ vx = ta at hc ⊢ e3
  obtain ⟨ct, vt⟩ := ta
  cases vt <;> first | exact ⟨rfl, rfl, e3⟩ | exact hc.elim

theorem run_indexAt_arr (ty e : TypeId) (i : TypeInfo) (n : Nat) (hu : P.underlying ty = some (.array n e)) (hi : P.info? e = some i) (b o : Nat) (k : IntKind) (x : Int) (h0 : 0 ≤ x) (h1 : x.toNat < n) :
    (Instr.indexAt ty (.pointer (some ⟨b, o, none⟩)) (.int k x)).run P w = .ok (.pointer (some ⟨b, o + x.toNat * i.size, none⟩)) w := by
  have h2 : 0 ≤ x ∧ x < (n : Int) := ⟨h0, by omega⟩
  simp [Instr.indexAt, Instr.sureAddr, asIntOf, run_underlying hu, Sem.run_bind, Sem.run, pure, Result.andThen, h2, sizeOf, typeInfo, hi, program, add_lit]
theorem aadr_sound (h : Rel w0 I N σ fp a w) (hs : Sub τ σ) {X Y : Operand} {x y : Opd} {sz n : Nat} {k : IntKind} (hX : matO X x = true) (hY : matO Y y = true)
    (ty e : TypeId) (i : TypeInfo) (hu : P.underlying ty = some (.array n e)) (hi : P.info? e = some i) (hsz : i.size = sz) (hc : (pev true τ (.aadr sz n k x y)).1) :
    ∃ c, (Instr.indexAt ty (a.eval X) (a.eval Y)).run P w = .ok c w ∧ (pev true τ (.aadr sz n k x y)).2.isRoot = false ∧ WW w (Free w fp) σ (Act.at a) [] (pev true τ (.aadr sz n k x y)).2 c := by
  simp only [pev] at hc ⊢
  have hcx : ((evG true τ x).1 ∧ (toAddr true τ (evG true τ x).2).1) ∧ (evT true τ y).1 ∧ (idxT k (evT true τ y).2).1 ∧ (idxT k (evT true τ y).2).2 < n := by
    generalize evG true τ x = ex at hc ⊢
    generalize evT true τ y = ey at hc ⊢
    obtain ⟨cx, vx⟩ := ex
    obtain ⟨cy, vy⟩ := ey
    simp only at hc ⊢
    generalize toAddr true τ vx = ta at hc ⊢
    obtain ⟨ct, vt⟩ := ta
    cases vt <;> first | exact ⟨⟨hc.1, hc.2.1⟩, hc.2.2⟩ | exact hc.elim
  obtain ⟨h1, h2⟩ := evG_sound h hs hX hcx.1.1
  obtain ⟨b, o, e1, e2⟩ := addr_on h hs h2 hcx.1.2
  obtain ⟨h3, ⟨h4, h5⟩, h6⟩ := hcx.2
  have h7 := RT_int (evT_sound h hs hY h3) h4
  refine ⟨.pointer (some ⟨b, o + (evT true τ y).2.toInt.toNat * sz, none⟩), by rw [e1, h7, ← hsz]; exact run_indexAt_arr ty e i n hu hi b o k _ h5 h6, ?_⟩
  have e3 := e2 ((evT true τ y).2.toInt.toNat * sz)
  simp only [idxT] at hc ⊢
  generalize evT true τ y = ey at hc ⊢ e3
  generalize evG true τ x = ex at hc ⊢ e3
  obtain ⟨cx, vx⟩ := ex
  simp only at hc ⊢ e3
  generalize toAddr true τ vx = ta at hc ⊢ e3
  obtain ⟨ct, vt⟩ := ta
  cases vt <;> first | exact ⟨rfl, rfl, e3⟩ | exact hc.elim
end
end Go.Proofs.Ytaefhdklkbohmaa
/- Operations that only compute: loads. Generic. -/
namespace Go.Proofs.Ytaefhdklkbohmaa
open Go Go.RowKit

theorem loc_append (w : World) : ∀ (p : Way) (k : K) (c : Value) (q : Way), loc w k c (p ++ q) = (loc w k c p).bind fun c' => loc w (kindAt k p) c' q
  | [], k, c, q => by simp [loc, kindAt]
  | (i, f) :: p, k, c, q => by
    simp only [List.cons_append, loc, kindAt]
    cases kidV w k c i f with
    | none => rfl
    | some c' => simp only [Option.bind_some]; exact loc_append w p (k.kid f) c' q
theorem adr_kid {w : World} {k : K} {c1 : Value} {i f : Nat} {c : Value} (h : adrV k c1 i f c) : ∃ b o, c = .pointer (some ⟨b, o, none⟩) ∧ kidV w k c1 i f = w.cell? ⟨b, o, none⟩ := by
  unfold adrV at h
  split at h
  · subst h; exact ⟨_, _, rfl, rfl⟩
  · subst h; exact ⟨_, _, rfl, rfl⟩
  · exact h.elim

section
variable {w : World} {A : Nat → Prop}
/-- An element of a slice or a variable that is owned: its cells. -/
theorem elem_cells {k : K} {t : T} {c1 : Value} {F1 : List Nat} (h : RO w A k t c1 F1) (i : Nat) :
    match k with
    | .sl ks => i < t.elems.length → ∃ b o es Fe, (∀ f c, adrV k c1 i f c → c = .pointer (some ⟨b, o + f, none⟩)) ∧ Cells w b o es ∧ ROs w A ks (t.elems.getD i default).leaves es Fe ∧ (∀ x ∈ Fe, x ∈ F1) ∧ (∀ us, t.elems.getD i default ≠ .tup us) ∧ (∃ cur e, w.heap[b]? = some (.cells cur e (0, 0)) ∧ o + es.length ≤ cur.size) ∧ b ∈ F1
    | .box ks => t.isAny = false → ∃ b o es Fe, (∀ f c, adrV k c1 i f c → c = .pointer (some ⟨b, o + f, none⟩)) ∧ Cells w b o es ∧ ROs w A ks t.leaves es Fe ∧ (∀ x ∈ Fe, x ∈ F1) ∧ (∀ us, t ≠ .tup us) ∧ (∃ cur e, w.heap[b]? = some (.cells cur e (0, 0)) ∧ o + es.length ≤ cur.size) ∧ b ∈ F1
    | _ => True := by
  cases k with
  | sl ks =>
    intro hi
    simp only [RO] at h
    rcases h with ⟨rfl, _⟩ | ⟨xs, rfl, ⟨rfl, _⟩ | ⟨b, o, cap, cur, e, Fs, rfl, h1, h2, h3, h4, h5, rfl⟩⟩
    · simp [T.elems] at hi
    · simp [T.elems] at hi
    simp only [T.elems] at hi ⊢
    obtain ⟨d1, d2, d3, Ga, G, Gb, g1, g2, g3, rfl, g4, _⟩ := Each.at h5 i hi
    refine ⟨b, o + i * ks.length, d2, G, ?_, ?_, g4, by intro x hx; simp [hx], ?_, ⟨cur, e, h3, ?_⟩, by simp⟩
    · intro f c hc
      simp only [adrV] at hc
      rw [hc, Nat.add_assoc]
    · have := cells_of_block (w := w) (b := b) (o := o) (n := xs.length * ks.length) h3
      rw [g1] at this
      have := Cells.part this
      rwa [g2] at this
    · exact Each.noTup (fun ts cs F h => (ROs.leafs ks ts cs F h).1) h5 _ (by
        rw [List.getD_eq_getElem?_getD, List.getElem?_eq_getElem hi]; simp)
    · have h6 : ((cur.toList.drop o).take (xs.length * ks.length)).length ≤ cur.size - o := by simp; omega
      rw [g1] at h6
      simp only [List.length_append] at h6
      have h7 : o ≤ cur.size := by omega
      omega
  | box ks =>
    intro ha
    simp only [RO] at h
    rcases h with ⟨rfl, _⟩ | ⟨b, cur, e, Fs, rfl, h1, h2, rfl, h3⟩
    · simp [T.isAny] at ha
    refine ⟨b, 0, cur.toList, Fs, ?_, ?_, h2, by intro x hx; simp [hx], h3, ⟨cur, e, h1, by simp⟩, by simp⟩
    · intro f c hc
      simp only [adrV] at hc
      rw [hc, Nat.zero_add]
    · have := cells_of_block (w := w) (b := b) (o := 0) (n := cur.size) h1
      simpa [List.take_of_length_le] using this
  | _ => trivial

theorem ROs.drop : ∀ (f : Nat) {ks : List K} {ts : List T} {cs : List Value} {F : List Nat}, ROs w A ks ts cs F → ∃ F', ROs w A (ks.drop f) (ts.drop f) (cs.drop f) F' ∧ ∀ x ∈ F', x ∈ F
  | 0, _, _, _, F, h => ⟨F, by simpa using h, fun x hx => hx⟩
  | f + 1, [], ts, cs, F, h => by
    simp only [ROs] at h
    obtain ⟨rfl, rfl, rfl⟩ := h
    exact ⟨[], by simp [ROs], by simp⟩
  | f + 1, k :: ks, ts, cs, F, h => by
    simp only [ROs] at h
    obtain ⟨t, ts', c, cs', F1, F2, rfl, rfl, rfl, hl, h1, h2⟩ := h
    obtain ⟨F', h3, h4⟩ := ROs.drop f h2
    exact ⟨F', by simpa using h3, fun x hx => by simp [h4 x hx]⟩
theorem ROs.take : ∀ (f : Nat) {ks : List K} {ts : List T} {cs : List Value} {F : List Nat}, ROs w A ks ts cs F → ∃ F', ROs w A (ks.take f) (ts.take f) (cs.take f) F' ∧ ∀ x ∈ F', x ∈ F
  | 0, _, _, _, F, _ => ⟨[], by simp [ROs], by simp⟩
  | f + 1, [], ts, cs, F, h => by
    simp only [ROs] at h
    obtain ⟨rfl, rfl, rfl⟩ := h
    exact ⟨[], by simp [ROs], by simp⟩
  | f + 1, k :: ks, ts, cs, F, h => by
    simp only [ROs] at h
    obtain ⟨t, ts', c, cs', F1, F2, rfl, rfl, rfl, hl, h1, h2⟩ := h
    obtain ⟨F', h3, h4⟩ := ROs.take f h2
    refine ⟨F1 ++ F', ?_, fun x hx => by simp at hx ⊢; rcases hx with h | h; exact .inl h; exact .inr (h4 x h)⟩
    simp only [List.take_succ_cons, ROs]
    exact ⟨t, _, c, _, F1, F', rfl, rfl, rfl, hl, h1, h3⟩
theorem ROs.sh : ∀ {ks : List K} {ts : List T} {cs : List Value} {F : List Nat}, ks.all K.isSh = true → ROs w A ks ts cs F → RS w A ts cs ∧ F = []
  | [], ts, cs, F, _, h => by
    simp only [ROs] at h
    simp [h.1, h.2.1, h.2.2, RS]
  | k :: ks, ts, cs, F, hk, h => by
    simp only [ROs] at h
    obtain ⟨t, ts', c, cs', F1, F2, rfl, rfl, rfl, hl, h1, h2⟩ := h
    simp only [List.all_cons, Bool.and_eq_true] at hk
    obtain ⟨h3, rfl⟩ := ROs.sh hk.2 h2
    cases k with
    | sh =>
      simp only [RO] at h1
      obtain ⟨rfl, h1⟩ := h1
      simp only [RS]
      exact ⟨⟨c, cs', rfl, hl, (R0_leaf hl).1 h1, h3⟩, rfl⟩
    | _ => simp [K.isSh] at hk
end

section
variable {P : Program} {w0 : World} {I : Nat → Prop} {N : Nat} {σ τ : Nat → W} {fp : Nat → List Nat} {a : Act} {w : World}

theorem run_loadAt_leaf (ty : TypeId) (b o : Nat) (v : Value) (d : TypeDesc) (hu : P.underlying ty = some d) (hd : d.isRow = false) (hc : w.cell? ⟨b, o, none⟩ = some v) :
    (Instr.loadAt ty (.pointer (some ⟨b, o, none⟩))).run P w = .ok v w := by
  have hagg : (isAgg ty).run P w = .ok false w := by
    unfold isAgg
    rw [Sem.run_bind, run_underlying hu w]
    cases d <;> simp_all [TypeDesc.isRow, Result.andThen, Sem.run, pure]
  simp [Instr.loadAt, Instr.sureAddr, loadVar, Sem.run_bind, hagg, load, Sem.run, pure, Result.andThen, hc]
theorem run_loadAt_agg (ty : TypeId) (b o : Nat) (es : List Value) (d : TypeDesc) (i : TypeInfo) (hu : P.underlying ty = some d) (hd : d.isRow = true) (hi : P.info? ty = some i) (hsz : i.size = es.length) (hc : Cells w b o es) :
    (Instr.loadAt ty (.pointer (some ⟨b, o, none⟩))).run P w = .ok (.agg es.toArray) w :=
  run_loadAt_mid w b o ty es d (fun j v hv => hc j v hv) hu hd (by simp [hi, hsz])
theorem Cells.drop {b o : Nat} {es : List Value} (h : Cells w b o es) (f : Nat) : Cells w b (o + f) (es.drop f) := by
  intro j u hj
  rw [List.getElem?_drop] at hj
  rw [Nat.add_assoc]
  exact h _ u hj
theorem Cells.take {b o : Nat} {es : List Value} (h : Cells w b o es) (n : Nat) : Cells w b o (es.take n) := by
  intro j u hj
  rw [List.getElem?_take] at hj
  split at hj
  · exact h _ u hj
  · cases hj
theorem RT_agg {A : Nat → Prop} {ts : List T} {es : List Value} (h : RS w A ts es) : RT w A (.agg ts) (.agg es.toArray) := ⟨es.toArray, rfl, h⟩

/-- Of cells that read as a tree. -/
theorem loadT_sound {A : Nat → Prop} {sz n f : Nat} {ag : Bool} {e : T} {b o : Nat} {es : List Value} (ty : TypeId) (d : TypeDesc) (i : TypeInfo) (hu : P.underlying ty = some d) (hd : d.isRow = ag) (hi : P.info? ty = some i) (hsz : i.size = n)
    (hes : es.length = sz) (hcell : Cells w b o es) (hrl : RS w A e.leaves es) (hc : (loadT sz n f ag e).1) :
    ∃ c, (Instr.loadAt ty (.pointer (some ⟨b, o + f, none⟩))).run P w = .ok c w ∧ RT w A (loadT sz n f ag e).2 c := by
  unfold loadT at hc ⊢
  cases ag with
  | false =>
    obtain ⟨h1, h2⟩ := hc
    obtain ⟨v, h3, h4, h5⟩ := RS.at f hrl (by rw [RS.len hrl]; omega)
    exact ⟨v, run_loadAt_leaf ty b (o + f) v d hu hd (hcell f v h3), (RT_leaf h4).2 h5⟩
  | true =>
    simp only at hc ⊢
    by_cases h : f = 0 ∧ n = sz
    · rw [if_pos h] at hc ⊢
      obtain ⟨rfl, rfl⟩ := h
      refine ⟨.agg es.toArray, run_loadAt_agg ty b o es d i hu hd hi (by omega) hcell, ?_⟩
      simp only at hc ⊢
      rw [T.isAgg_eq hc]
      exact RT_agg hrl
    · rw [if_neg h] at hc ⊢
      simp only at hc ⊢
      refine ⟨.agg ((es.drop f).take n).toArray, run_loadAt_agg ty b (o + f) _ d i hu hd hi ?_ ((hcell.drop f).take n), RT_agg ((hrl.drop f).take n)⟩
      simp; omega

theorem leafW_sound {A : Nat → Prop} {σ : Nat → W} {tm : Nat → Value} (r : Nat) (p : Way) (i : Nat) : ∀ (ks : List K) (ts : List T) (cs : List Value) (F : List Nat) (f : Nat), ROs w A ks ts cs F →
    (∀ j v, cs[j]? = some v → WV w A σ tm (.ref r (p ++ [(i, f + j)])) v) → WVs w A σ tm (leafW r p i ks ts f) cs
  | [], ts, cs, F, f, h, _ => by
    simp only [ROs] at h
    simp [leafW, WVs, h.2.1]
  | k :: ks, ts, cs, F, f, h, hv => by
    simp only [ROs] at h
    obtain ⟨t, ts', c, cs', F1, F2, rfl, rfl, rfl, hl, h1, h2⟩ := h
    simp only [leafW, WVs]
    refine ⟨c, cs', rfl, ?_, ?_⟩
    · cases k with
      | sh =>
        simp only [RO] at h1
        simp only [List.headD_cons]
        exact (RT_leaf hl).2 ((R0_leaf hl).1 h1.2)
      | _ => exact hv 0 c (by simp)
    · refine leafW_sound r p i ks ts' cs' F2 (f + 1) h2 (fun j v hj => ?_)
      have := hv (j + 1) v (by simpa using hj)
      rwa [show f + (j + 1) = f + 1 + j by omega] at this
end
end Go.Proofs.Ytaefhdklkbohmaa
/- Loads. Generic. -/
namespace Go.Proofs.Ytaefhdklkbohmaa
open Go Go.RowKit

section
variable {P : Program} {w0 : World} {I : Nat → Prop} {N : Nat} {σ τ : Nat → W} {fp : Nat → List Nat} {a : Act} {w : World}

/-- The element that an address leads into. -/
theorem elemAt_sound (h : Rel w0 I N σ fp a w) (hs : Sub τ σ) {r : Nat} {p : Way} {i f : Nat} {c : Value} (hx : WV w (Free w fp) σ (Act.at a) (.adr r p i f) c) (hc : (elemAt true τ r p i).1) :
    ∃ k t c1 b o es Fe, Root σ r k t ∧ okP k t p ∧ (kindAt k p).kids = (elemAt true τ r p i).2.1 ∧ (kindAt k p).isOwn = true ∧ loc w k (Act.at a r) p = some c1 ∧ c = .pointer (some ⟨b, o + f, none⟩) ∧ Cells w b o es ∧
      (∀ g, kidV w (kindAt k p) c1 i g = w.cell? ⟨b, o + g, none⟩) ∧
      ROs w (Free w fp) (elemAt true τ r p i).2.1 (elemAt true τ r p i).2.2.leaves es Fe ∧ (∀ us, (elemAt true τ r p i).2.2 ≠ .tup us) ∧ (∃ cur e, w.heap[b]? = some (.cells cur e (0, 0)) ∧ o + es.length ≤ cur.size) ∧ b ∈ fp r := by
  unfold elemAt at hc ⊢
  generalize hn : nodeAt true τ r p = n at hc
  obtain ⟨cn, kn, tn⟩ := n
  cases kn with
  | sl ks =>
    obtain ⟨h1, h2⟩ := hc
    obtain ⟨k', t', c1, F1, r1, r2, r3, r4, r5, r6, r7⟩ := node_sound h hs (r := r) (p := p) (by rw [hn]; exact h1)
    rw [hn] at r3 r4
    simp only at r3 r4
    rw [r3, r4] at r6
    have h3 := elem_cells r6 i
    obtain ⟨b, o, es, Fe, e1, e2, e3, e4, e5, e6, e7⟩ := h3 h2
    obtain ⟨c2, h4, h5⟩ := hx k' t' r1 r2 (by rw [r3]; rfl)
    rw [r5] at h4
    simp only [Option.some.injEq] at h4
    subst h4
    rw [r3] at h5
    refine ⟨k', t', c1, b, o, es, Fe, r1, r2, by rw [r3]; rfl, by rw [r3]; rfl, r5, e1 f c h5, e2, ?_, e3, e5, e6, r7 b e7⟩
    intro g
    rw [r3]
    unfold adrV at h5
    split at h5
    · rename_i ks' b' o' n' cap' heq
      have h8 := e1 g (.pointer (some ⟨b', o' + (i * ks.length + g), none⟩)) (by simp only [adrV])
      simp only [Value.pointer.injEq, Option.some.injEq, Addr.mk.injEq, and_true] at h8
      simp only [kidV]
      rw [h8.1, h8.2]
    · rename_i heq; cases heq
    · exact h5.elim
  | box ks =>
    obtain ⟨h1, h2⟩ := hc
    obtain ⟨k', t', c1, F1, r1, r2, r3, r4, r5, r6, r7⟩ := node_sound h hs (r := r) (p := p) (by rw [hn]; exact h1)
    rw [hn] at r3 r4
    simp only at r3 r4
    rw [r3, r4] at r6
    have h3 := elem_cells r6 i
    obtain ⟨b, o, es, Fe, e1, e2, e3, e4, e5, e6, e7⟩ := h3 h2
    obtain ⟨c2, h4, h5⟩ := hx k' t' r1 r2 (by rw [r3]; rfl)
    rw [r5] at h4
    simp only [Option.some.injEq] at h4
    subst h4
    rw [r3] at h5
    refine ⟨k', t', c1, b, o, es, Fe, r1, r2, by rw [r3]; rfl, by rw [r3]; rfl, r5, e1 f c h5, e2, ?_, e3, e5, e6, r7 b e7⟩
    intro g
    rw [r3]
    unfold adrV at h5
    split at h5
    · rename_i heq; cases heq
    · rename_i ks' b' o' heq
      have h8 := e1 g (.pointer (some ⟨b', g, none⟩)) (by simp only [adrV])
      simp only [Value.pointer.injEq, Option.some.injEq, Addr.mk.injEq, and_true] at h8
      simp only [kidV]
      rw [← h8.1, ← h8.2]
    · exact h5.elim
  | _ => exact hc.elim

theorem load_sound (h : Rel w0 I N σ fp a w) (hs : Sub τ σ) {X : Operand} {x : Opd} {n : Nat} {ag : Bool} (hX : matO X x = true) (ty : TypeId) (d : TypeDesc) (i : TypeInfo)
    (hu : P.underlying ty = some d) (hd : d.isRow = ag) (hi : P.info? ty = some i) (hsz : i.size = n) (hc : (pev true τ (.load n ag x)).1) :
    ∃ c, (Instr.loadAt ty (a.eval X)).run P w = .ok c w ∧ (pev true τ (.load n ag x)).2.isRoot = false ∧ WW w (Free w fp) σ (Act.at a) [] (pev true τ (.load n ag x)).2 c := by
  simp only [pev] at hc ⊢
  obtain ⟨h1, h2⟩ := hc
  obtain ⟨_, hx⟩ := evG_sound h hs hX h1
  generalize evG true τ x = ex at h2 hx ⊢
  obtain ⟨cx, vx⟩ := ex
  simp only at h2 hx ⊢
  generalize a.eval X = c at hx ⊢
  have ht : (toAddr true τ vx).1 := by
    unfold loadW at h2
    split at h2
    · rename_i e; rw [e]; exact h2.1
    · rename_i e
      rw [e]
      split at h2
      split at h2
      · split at h2 <;> exact h2.1
      · split at h2 <;> exact h2.1
    · exact h2.elim
  obtain ⟨h3, h4⟩ := toAddr_sound h hs hx ht
  unfold loadW at h2 ⊢
  rcases h4 with ⟨r, p, j, f, e, hn, hk⟩ | ⟨sz, e', f, e⟩
  · generalize toAddr true τ vx = ta at h2 h3 e ht ⊢
    obtain ⟨ct, vt⟩ := ta
    simp only at e
    subst e
    simp only at h2 h3 ht ⊢
    have hel : (elemAt true τ r p j).1 := by
      generalize elemAt true τ r p j = el at h2
      obtain ⟨ce, ks, e⟩ := el
      simp only at h2
      split at h2
      · split at h2 <;> exact h2.2.1
      · split at h2 <;> exact h2.2.1
    obtain ⟨k, t, c1, b, o, es, Fe, r1, r2, r3, rO, r4, r5, r6, r7, r8, r9, _⟩ := elemAt_sound h hs h3 hel
    generalize elemAt true τ r p j = el at h2 r3 r8 r9 ⊢
    obtain ⟨ce, ks, e⟩ := el
    simp only at h2 r3 r8 r9 ⊢
    have hlen := ROs.leafs ks _ _ _ r8
    -- a leaf's own name
    have hname : ∀ g v, es[g]? = some v → WV w (Free w fp) σ (Act.at a) (.ref r (p ++ [(j, g)])) v := by
      intro g v hv k'' t'' hr _ _
      obtain ⟨rfl, rfl⟩ := Root.unique r1 hr
      rw [loc_append, r4, Option.bind_some]
      simp only [loc, r7 g, r6 g v hv, Option.bind_some]
    cases ag with
    | false =>
      simp only at h2 ⊢
      have hf : f < ks.length ∧ n = 1 := by split at h2 <;> exact h2.2.2
      obtain ⟨v, Fa, F1, Fb, e1, e2, e3, e4, _⟩ := ROs.at ks _ es Fe r8 f hf.1
      refine ⟨v, by rw [r5]; exact run_loadAt_leaf ty b (o + f) v d hu hd (r6 f v e1), ?_⟩
      generalize hkf : ks.getD f .sh = kf at e4 ⊢
      cases kf with
      | sh =>
        simp only [RO] at e4
        exact ⟨rfl, rfl, (RT_leaf e3).2 ((R0_leaf e3).1 e4.2)⟩
      | _ => exact ⟨rfl, rfl, hname f v e1⟩
    | true =>
      simp only at h2 ⊢
      by_cases hall : ((ks.drop f).take n).all K.isSh = true
      · rw [if_pos hall] at h2 ⊢
        simp only at h2 ⊢
        by_cases hw : f = 0 ∧ n = ks.length
        · have hall' : ks.all K.isSh = true := by
            obtain ⟨rfl, rfl⟩ := hw
            simpa using hall
          obtain ⟨c', h5, h6⟩ := loadT_sound ty d i hu hd hi hsz hlen.2.2 r6 (ROs.sh hall' r8).1 h2.2.2
          exact ⟨c', by rw [r5]; exact h5, rfl, rfl, h6⟩
        · have h7 := h2.2.2
          unfold loadT at h7 ⊢
          simp only at h7 ⊢
          rw [if_neg hw] at h7 ⊢
          simp only at h7 ⊢
          obtain ⟨F', h8, _⟩ := ROs.drop f r8
          obtain ⟨F'', h9, _⟩ := ROs.take n h8
          have h10 := (ROs.sh hall h9).1
          refine ⟨.agg ((es.drop f).take n).toArray, by rw [r5]; exact run_loadAt_agg ty b (o + f) _ d i hu hd hi (by simp; omega) ((r6.drop f).take n), rfl, rfl, RT_agg h10⟩
      · rw [if_neg hall] at h2 ⊢
        simp only at h2 ⊢
        obtain ⟨F', h8, _⟩ := ROs.drop f r8
        obtain ⟨F'', h9, _⟩ := ROs.take n h8
        refine ⟨.agg ((es.drop f).take n).toArray, by rw [r5]; exact run_loadAt_agg ty b (o + f) _ d i hu hd hi (by simp; omega) ((r6.drop f).take n), rfl, rfl, _, rfl, ?_⟩
        refine leafW_sound r p j _ _ _ F'' f h9 (fun g v hv => ?_)
        rw [List.getElem?_take] at hv
        split at hv
        · rw [List.getElem?_drop] at hv; exact hname (f + g) v hv
        · cases hv
  · generalize toAddr true τ vx = ta at h2 h3 e ht ⊢
    obtain ⟨ct, vt⟩ := ta
    simp only at e
    subst e
    simp only at h2 h3 ⊢
    obtain ⟨b, o, es, rfl, h5, h6, h7, h8⟩ := h3
    obtain ⟨c', h9, h10⟩ := loadT_sound ty d i hu hd hi hsz h7 h6 (RS_leaves h8) h2.2
    exact ⟨c', h9, rfl, rfl, h10⟩
end
end Go.Proofs.Ytaefhdklkbohmaa
/- Operations that only compute: slices, lengths, parts. Generic. -/
namespace Go.Proofs.Ytaefhdklkbohmaa
open Go Go.RowKit

section
variable {P : Program} {w0 : World} {I : Nat → Prop} {N : Nat} {σ τ : Nat → W} {fp : Nat → List Nat} {a : Act} {w : World}

/-- A bound of a cut: none, or a number that is there. -/
def IsBound (v : Option Value) (d l : Nat) : Prop := (v = none ∧ l = d) ∨ ∃ k x, v = some (.int k x) ∧ 0 ≤ x ∧ x.toNat = l
theorem bound_sound (h : Rel w0 I N σ fp a w) (hs : Sub τ σ) {X : Option Operand} {x : Option (IntKind × Opd)} (hX : match X, x with
    | none, none => True
    | some X, some (_, x) => matO X x = true
    | _, _ => False) (d : Nat) (hc : (bound true τ d x).1) : IsBound (X.map a.eval) d (bound true τ d x).2 := by
  cases x with
  | none =>
    cases X with
    | none => exact .inl ⟨rfl, rfl⟩
    | some X => exact hX.elim
  | some kx =>
    obtain ⟨k, x⟩ := kx
    cases X with
    | none => exact hX.elim
    | some X =>
      simp only [bound] at hc ⊢
      obtain ⟨h1, h2, h3⟩ := hc
      have h4 := RT_int (evT_sound h hs hX h1) h2
      exact .inr ⟨k, _, by simp [h4], h3, rfl⟩

theorem run_sliceBound {x : Int} {k : IntKind} {y : Nat} {code : BoundsCode} (h0 : 0 ≤ x) (h1 : x.toNat ≤ y) : (Instr.sliceBound (.int k x) y code).run P w = .ok x.toNat w := by
  have h2 : 0 ≤ x ∧ x ≤ (y : Int) := ⟨h0, by omega⟩
  simp [Instr.sliceBound, asIntOf, Sem.run_bind, Sem.run, pure, Result.andThen, h2]
theorem run_sliceBounds (sl : Bool) (n cap : Nat) (lo hi : Option Value) (l h : Nat) (hlo : IsBound lo 0 l) (hhi : IsBound hi n h) (h1 : l ≤ h) (h2 : h ≤ n) (h3 : n ≤ cap) :
    (Instr.sliceBounds sl n cap lo hi none).run P w = .ok (l, h, cap) w := by
  rcases hlo with ⟨rfl, rfl⟩ | ⟨k, x, rfl, hx, rfl⟩ <;> rcases hhi with ⟨rfl, rfl⟩ | ⟨k', x', rfl, hx', rfl⟩
  · simp [Instr.sliceBounds, Sem.run_bind, Sem.run, pure, Result.andThen]
  · simp [Instr.sliceBounds, Sem.run_bind, Sem.run, pure, Result.andThen, run_sliceBound hx' (show x'.toNat ≤ cap by omega)]
  · simp [Instr.sliceBounds, Sem.run_bind, Sem.run, pure, Result.andThen, run_sliceBound hx h1]
  · simp [Instr.sliceBounds, Sem.run_bind, Sem.run, pure, Result.andThen, run_sliceBound hx' (show x'.toNat ≤ cap by omega), run_sliceBound hx h1]
theorem run_sliceAt (ty e : TypeId) (i : TypeInfo) (hu : P.underlying ty = some (.slice e)) (hi : P.info? e = some i) (p : Option Addr) (n cap : Nat) (lo hi' : Option Value) (l h : Nat)
    (hlo : IsBound lo 0 l) (hhi : IsBound hi' n h) (h1 : l ≤ h) (h2 : h ≤ n) (h3 : n ≤ cap) :
    (Instr.sliceAt ty (.slice p n cap) lo hi' none).run P w = .ok (.slice (if cap = l then p else p.map (·.add (l * i.size))) (h - l) (cap - l)) w := by
  simp [Instr.sliceAt, Instr.slice, run_underlying hu, run_sliceBounds true n cap lo hi' l h hlo hhi h1 h2 h3, sizeOf, typeInfo, hi, program, Sem.run_bind, Sem.run, pure, Result.andThen]
theorem run_sliceAt_str (ty : TypeId) (hu : P.underlying ty = some .string) (s : ByteArray) (lo hi' : Option Value) (l h : Nat)
    (hlo : IsBound lo 0 l) (hhi : IsBound hi' s.size h) (h1 : l ≤ h) (h2 : h ≤ s.size) :
    (Instr.sliceAt ty (.string s) lo hi' none).run P w = .ok (.string (s.extract l h)) w := by
  simp [Instr.sliceAt, Instr.slice, run_underlying hu, run_sliceBounds false s.size s.size lo hi' l h hlo hhi h1 h2 (Nat.le_refl _), Sem.run_bind, Sem.run, pure, Result.andThen]

theorem RE.drop {A : Nat → Prop} {sz : Nat} : ∀ (l : Nat) {xs : List T} {es : List Value}, RE w A sz xs es → RE w A sz (xs.drop l) (es.drop (l * sz))
  | 0, _, _, h => by simpa using h
  | l + 1, [], _, h => by simp only [RE] at h; simp [h, RE]
  | l + 1, x :: xs, _, h => by
    simp only [RE] at h
    obtain ⟨c1, cs', rfl, hl, h1, h2⟩ := h
    have := RE.drop l h2
    rw [show (l + 1) * sz = c1.length + l * sz by rw [hl, Nat.add_mul]; omega, List.drop_append_of_le_length_add]
    · simpa using this
  where List.drop_append_of_le_length_add {α : Type} {n : Nat} {a b : List α} : (a ++ b).drop (a.length + n) = b.drop n := by simp
theorem RE.take {A : Nat → Prop} {sz : Nat} : ∀ (l : Nat) {xs : List T} {es : List Value}, RE w A sz xs es → RE w A sz (xs.take l) (es.take (l * sz))
  | 0, _, _, _ => by simp [RE]
  | l + 1, [], _, h => by simp only [RE] at h; simp [h, RE]
  | l + 1, x :: xs, _, h => by
    simp only [RE] at h
    obtain ⟨c1, cs', rfl, hl, h1, h2⟩ := h
    have := RE.take l h2
    simp only [List.take_succ_cons, RE]
    refine ⟨c1, cs'.take (l * sz), ?_, hl, h1, this⟩
    rw [show (l + 1) * sz = c1.length + l * sz by rw [hl, Nat.add_mul]; omega]
    simp only [List.take_append, Nat.add_sub_cancel_left]
    rw [List.take_of_length_le (by omega)]

/-- The length of a slice's value. -/
theorem lenW_sound (h : Rel w0 I N σ fp a w) (hs : Sub τ σ) {sz : Nat} {x : W} {c : Value} (hx : WW w (Free w fp) σ (Act.at a) [] x c) (hc : (lenW true τ sz x).1) :
    ∃ q cap, c = .slice q (lenW true τ sz x).2 cap ∧ (lenW true τ sz x).2 ≤ cap := by
  unfold lenW at hc ⊢
  cases x with
  | t t =>
    simp only at hc ⊢
    have h1 := hx.2
    cases t with
    | sl z xs =>
      simp only [WV, RT, R0, RL] at h1
      obtain ⟨p, cap, h2, h3, _⟩ := h1
      simp only [List.cons.injEq, and_true] at h2
      exact ⟨p, cap, h2, h3⟩
    | nil =>
      simp only [WV, RT, R0, RL, List.cons.injEq, and_true] at h1
      exact ⟨none, 0, h1, Nat.le_refl _⟩
    | _ => simp [T.isSl] at hc
  | ref r p =>
    simp only at hc ⊢
    generalize hn : nodeAt true τ r p = n at hc
    obtain ⟨cn, kn, tn⟩ := n
    cases kn with
    | sl ks =>
      simp only at hc ⊢
      obtain ⟨h1, h2, h3⟩ := hc
      obtain ⟨k', t', c1, F1, r1, r2, r3, r4, r5, r6, r7⟩ := node_sound h hs (r := r) (p := p) (by rw [hn]; exact h1)
      rw [hn] at r3 r4
      simp only at r3 r4
      have h9 := hx.2 k' t' r1 r2 (by rw [r3]; rfl)
      rw [r5] at h9
      simp only [Option.some.injEq] at h9
      rw [r3, r4] at r6
      simp only [RO] at r6
      rcases r6 with ⟨rfl, _⟩ | ⟨xs, rfl, ⟨rfl, _, e⟩ | ⟨b, o, cap, cur, el, Fs, e, h4, _⟩⟩
      · simp [T.isAny] at h3
      · exact ⟨none, 0, by rw [← h9, e]; rfl, Nat.le_refl _⟩
      · exact ⟨_, cap, by rw [← h9, e]; rfl, h4⟩
    | _ => exact hc.elim
  | sub r p lo m =>
    simp only at hc ⊢
    generalize hn : nodeAt true τ r p = n at hc
    obtain ⟨cn, kn, tn⟩ := n
    cases kn with
    | sl ks =>
      simp only at hc ⊢
      obtain ⟨h1, h2, h3, h4⟩ := hc
      obtain ⟨k', t', c1, F1, r1, r2, r3, r4, r5, r6, r7⟩ := node_sound h hs (r := r) (p := p) (by rw [hn]; exact h1)
      rw [hn] at r3 r4
      simp only at r3 r4
      obtain ⟨c1', h9, Q, n1, cap1, h10, h11, h12, Q', h13, h14⟩ := hx.2 k' t' r1 r2 (by rw [r3]; rfl)
      exact ⟨Q', _, h13, by omega⟩
    | _ => exact hc.elim
  | _ => exact hc.elim
theorem run_len (ty e rt : TypeId) (hu : P.underlying ty = some (.slice e)) (p : Option Addr) (n cap : Nat) : (Builtin.len_ #[ty] rt #[.slice p n cap]).run P w = .ok (.int .i64 (n : Int)) w := by
  simp [Builtin.len_, run_underlying hu, Sem.run_bind, Sem.run, pure, Result.andThen, goInt]
end
end Go.Proofs.Ytaefhdklkbohmaa
/- Operations that only compute: cuts, fields of values, what is built. Generic. -/
namespace Go.Proofs.Ytaefhdklkbohmaa
open Go Go.RowKit

section
variable {P : Program} {w0 : World} {I : Nat → Prop} {N : Nat} {σ τ : Nat → W} {fp : Nat → List Nat} {a : Act} {w : World}

theorem add_add (a : Addr) (m n : Nat) : (a.add m).add n = a.add (m + n) := by
  unfold Addr.add
  by_cases h1 : m = 0 <;> by_cases h2 : n = 0 <;> simp_all [Nat.add_assoc]
def OkBound (X : Option Operand) (x : Option (IntKind × Opd)) : Prop :=
  match X, x with
  | none, none => True
  | some X, some (_, x) => matO X x = true
  | _, _ => False

theorem slc_sound (h : Rel w0 I N σ fp a w) (hs : Sub τ σ) {X : Operand} {x : Opd} {Lo Hi : Option Operand} {lo hi : Option (IntKind × Opd)} {sz : Nat} (hX : matO X x = true) (hlo : OkBound Lo lo) (hhi : OkBound Hi hi)
    (ty e : TypeId) (i : TypeInfo) (hu : P.underlying ty = some (.slice e)) (hi' : P.info? e = some i) (hsz : i.size = sz) (hc : (pev true τ (.slc sz x lo hi)).1) :
    ∃ c, (Instr.sliceAt ty (a.eval X) (Lo.map a.eval) (Hi.map a.eval) none).run P w = .ok c w ∧ (pev true τ (.slc sz x lo hi)).2.isRoot = false ∧ WW w (Free w fp) σ (Act.at a) [] (pev true τ (.slc sz x lo hi)).2 c := by
  simp only [pev] at hc ⊢
  obtain ⟨h1, h2, h3, h4, h5, h6⟩ := hc
  obtain ⟨_, hx⟩ := evG_sound h hs hX h1
  generalize evG true τ x = ex at h2 h3 h4 h5 h6 hx ⊢
  obtain ⟨cx, vx⟩ := ex
  simp only at h2 h3 h4 h5 h6 hx ⊢
  generalize a.eval X = c at hx ⊢
  obtain ⟨q, cap, rfl, hcap⟩ := lenW_sound h hs hx h2
  have hl := bound_sound h hs hlo 0 h3
  have hh := bound_sound h hs hhi _ h4
  have hrun := run_sliceAt (P := P) (w := w) ty e i hu hi' q _ cap _ _ _ _ hl hh h5 h6 hcap
  refine ⟨_, hrun, ?_⟩
  generalize (bound true τ 0 lo).2 = l at h5 ⊢
  generalize hH : (bound true τ (lenW true τ sz vx).2 hi).2 = hh' at h5 h6 ⊢
  clear hl hh hrun hH
  cases vx with
  | t t =>
    refine ⟨rfl, rfl, ?_⟩
    simp only [lenW] at h2 h6 hx hcap ⊢
    have h7 := hx.2
    cases t with
    | sl z xs =>
      simp only [T.isSl] at h2
      subst h2
      simp only [T.elems] at h6 h7 hcap ⊢
      simp only [WV, RT, R0, RL, List.cons.injEq, and_true, Value.slice.injEq] at h7 ⊢
      obtain ⟨p', cap', ⟨rfl, _, rfl⟩, h8, h9⟩ := h7
      refine ⟨_, _, ⟨rfl, by simp; omega, rfl⟩, by simp; omega, ?_⟩
      by_cases he : hh' = l
      · left; simp [he]
      rcases h9 with rfl | ⟨b, o, es, rfl, h10, h11, h12⟩
      · simp at h6; omega
      refine .inr ⟨b, o + l * z, (es.drop (l * z)).take ((hh' - l) * z), ?_, h10, (h11.drop _).take _, (h12.drop l).take _⟩
      rw [if_neg (by omega)]
      simp [add_lit, hsz]
    | nil =>
      simp only [T.elems, List.length_nil, List.drop_nil, List.take_nil] at h6 h7 hcap ⊢
      simp only [WV, RT, R0, RL, List.cons.injEq, and_true, Value.slice.injEq] at h7 ⊢
      obtain ⟨rfl, _, rfl⟩ := h7
      exact ⟨_, _, ⟨rfl, by simp; omega, rfl⟩, by simp, .inl trivial⟩
    | _ => simp [T.isSl] at h2
  | ref r p =>
    refine ⟨rfl, rfl, ?_⟩
    have hw := hx.2
    simp only [lenW] at h2 h6 hx hcap hw ⊢
    generalize hn : nodeAt true τ r p = n at h2 h6 hcap hw ⊢
    obtain ⟨cn, kn, tn⟩ := n
    cases kn with
    | sl ks =>
      simp only at h2 h6 hcap hw ⊢
      obtain ⟨g1, g2, g3⟩ := h2
      intro k t hr ho hk
      refine ⟨_, hw k t hr ho hk, _, _, _, rfl, hcap, by omega, _, rfl, ?_⟩
      intro hlt
      rw [if_neg (by omega)]
      obtain ⟨k', t', c1, F1, r1, r2, r3, r4, r5, r6, r7⟩ := node_sound h hs (r := r) (p := p) (by rw [hn]; exact g1)
      obtain ⟨rfl, rfl⟩ := Root.unique r1 hr
      rw [hn] at r3
      rw [r3]; simp only [K.kids]; rw [g2, hsz]
    | _ => exact h2.elim
  | sub r p lo' m =>
    refine ⟨rfl, rfl, ?_⟩
    have hw := hx.2
    simp only [lenW] at h2 h6 hx hcap hw ⊢
    generalize hn : nodeAt true τ r p = n at h2 h6 hcap hw ⊢
    obtain ⟨cn, kn, tn⟩ := n
    cases kn with
    | sl ks =>
      simp only at h2 h6 hcap hw ⊢
      obtain ⟨g1, g2, g3, g4⟩ := h2
      intro k t hr ho hk
      obtain ⟨c1, e1, Q, n1, cap1, e2, e3, e4, Q', e5, e6⟩ := hw k t hr ho hk
      simp only [Value.slice.injEq] at e5
      obtain ⟨rfl, _, rfl⟩ := e5
      refine ⟨c1, e1, Q, n1, cap1, e2, e3, by omega, (if cap1 - lo' = l then q else q.map (·.add (l * i.size))), by rw [Nat.sub_sub], ?_⟩
      · intro hlt
        rw [if_neg (by omega), e6 (by omega)]
        obtain ⟨k', t', c1, F1, r1, r2, r3, r4, r5, r6, r7⟩ := node_sound h hs (r := r) (p := p) (by rw [hn]; exact g1)
        obtain ⟨rfl, rfl⟩ := Root.unique r1 hr
        rw [hn] at r3
        rw [r3]; simp only [K.kids]; rw [g2, hsz]
        cases Q with
        | none => rfl
        | some ad =>
          simp only [Option.map_some, Option.some.injEq]
          rw [add_add, Nat.add_mul]
    | _ => exact h2.elim
  | _ => exact h2.elim

theorem run_part_leaf (ty : TypeId) (d : TypeDesc) (hu : P.underlying ty = some d) (hd : d.isRow = false) (cs : Array Value) (off : Nat) (v : Value) (hv : cs[off]? = some v) : (part ty cs off).run P w = .ok v w := by
  have hagg : (isAgg ty).run P w = .ok false w := by
    unfold isAgg
    rw [Sem.run_bind, run_underlying hu w]
    cases d <;> simp_all [TypeDesc.isRow, Result.andThen, Sem.run, pure]
  simp [part, Sem.run_bind, hagg, hv, Sem.run, pure, Result.andThen]
theorem run_part_agg (ty : TypeId) (d : TypeDesc) (i : TypeInfo) (hu : P.underlying ty = some d) (hd : d.isRow = true) (hi : P.info? ty = some i) (cs : Array Value) (off : Nat) : (part ty cs off).run P w = .ok (.agg (cs.extract off (off + i.size))) w := by
  have hagg : (isAgg ty).run P w = .ok true w := by
    unfold isAgg
    rw [Sem.run_bind, run_underlying hu w]
    cases d <;> simp_all [TypeDesc.isRow, Result.andThen, Sem.run, pure]
  simp [part, Sem.run_bind, hagg, sizeOf, typeInfo, hi, program, Sem.run, pure, Result.andThen]
theorem toList_extract (cs : Array Value) (a b : Nat) : (cs.extract a b).toList = (cs.toList.drop a).take (b - a) := by
  rw [Array.toList_extract]

theorem fld_sound (h : Rel w0 I N σ fp a w) (hs : Sub τ σ) {X : Operand} {x : Opd} {off n : Nat} {ag : Bool} (hX : matO X x = true)
    (ty m : Nat) (fs : Array Field) (f : Field) (d : TypeDesc) (i : TypeInfo) (hu : P.underlying ty = some (.struct fs)) (hf : fs[m]? = some f) (hd : P.underlying f.type = some d) (hdr : d.isRow = ag) (hi : P.info? f.type = some i) (hsz : i.size = n) (ho : f.offset = off)
    (hc : (pev true τ (.fld off n ag x)).1) :
    ∃ c, (Instr.field ty (a.eval X) m).run P w = .ok c w ∧ (pev true τ (.fld off n ag x)).2.isRoot = false ∧ WW w (Free w fp) σ (Act.at a) [] (pev true τ (.fld off n ag x)).2 c := by
  simp only [pev] at hc ⊢
  have key := evG_sound (x := x) h hs hX
  generalize evG true τ x = ex at hc key ⊢
  obtain ⟨cx, vx⟩ := ex
  have hrun : ∀ cs : Array Value, (Instr.field ty (.agg cs) m).run P w = (part f.type cs off).run P w := by
    intro cs
    simp [Instr.field, run_underlying hu, hf, asAgg, Sem.run_bind, Sem.run, pure, Result.andThen, ho]
  cases vx with
  | t t =>
    simp only at hc key ⊢
    obtain ⟨h1, h2, h3⟩ := hc
    obtain ⟨_, _, h4⟩ := key h1
    simp only [WV] at h4
    rw [T.isAgg_eq h2] at h4
    obtain ⟨cs, h5, h6⟩ := h4
    rw [h5, hrun]
    unfold loadT at h3 ⊢
    have hlen := RS.len h6
    cases ag with
    | false =>
      simp only at h3 ⊢
      obtain ⟨v, h7, h8, h9⟩ := RS.at off h6 h3.1
      exact ⟨v, run_part_leaf f.type d hd hdr cs off v (by simpa using h7), rfl, rfl, (RT_leaf h8).2 h9⟩
    | true =>
      simp only at h3 ⊢
      refine ⟨_, run_part_agg f.type d i hd hdr hi cs off, ?_⟩
      by_cases hw : off = 0 ∧ n = t.leaves.length
      · rw [if_pos hw] at h3 ⊢
        refine ⟨rfl, rfl, ?_⟩
        simp only [WV]
        rw [T.isAgg_eq h2]
        refine ⟨_, rfl, ?_⟩
        rw [toList_extract, hsz, hw.1]
        simp only [List.drop_zero, Nat.sub_zero, Nat.zero_add]
        rw [List.take_of_length_le (by omega)]
        exact h6
      · rw [if_neg hw] at h3 ⊢
        refine ⟨rfl, rfl, _, rfl, ?_⟩
        rw [toList_extract, hsz, Nat.add_sub_cancel_left]
        exact (h6.drop off).take n
  | _ => exact hc.elim
end
end Go.Proofs.Ytaefhdklkbohmaa
/- Operations that only compute: what is built, several results, conditions. Generic. -/
namespace Go.Proofs.Ytaefhdklkbohmaa
open Go Go.RowKit

theorem foldl_set_list : ∀ (vs : List Value) (k off : Nat) (cells : List Value), off + k + vs.length ≤ cells.length →
    (vs.zipIdx k).foldl (fun (cs : List Value) (x : Value × Nat) => cs.set (off + x.2) x.1) cells = cells.take (off + k) ++ vs ++ cells.drop (off + k + vs.length)
  | [], k, off, cells, _ => by simp
  | v :: vs, k, off, cells, h => by
    simp only [List.zipIdx_cons, List.foldl_cons]
    simp only [List.length_cons] at h
    rw [foldl_set_list vs (k + 1) off (cells.set (off + k) v) (by simp; omega)]
    have h1 : (cells.set (off + k) v).take (off + (k + 1)) = cells.take (off + k) ++ [v] := by
      apply List.ext_getElem?
      intro j
      rw [List.getElem?_take, List.getElem?_append, List.length_take, List.getElem?_take]
      by_cases e1 : j < off + k
      · rw [if_pos (by omega), if_pos (by omega), if_pos e1, List.getElem?_set_ne (by omega)]
      · by_cases e2 : j = off + k
        · subst e2
          rw [if_pos (by omega), if_neg (by omega), List.getElem?_set_self (by omega)]
          simp only [show min (off + k) cells.length = off + k by omega, Nat.sub_self, List.getElem?_cons_zero]
        · rw [if_neg (by omega), if_neg (by omega)]
          simp only [show min (off + k) cells.length = off + k by omega]
          rw [List.getElem?_eq_none]
          simp; omega
    have h2 : (cells.set (off + k) v).drop (off + (k + 1) + vs.length) = cells.drop (off + k + (vs.length + 1)) := by
      rw [List.drop_set_of_lt (by omega)]
      congr 1; omega
    rw [h1, h2]
    simp
theorem splice (v : Array Value) (off : Nat) (cells : Array Value) (h : off + v.size ≤ cells.size) :
    (v.zipIdx.foldl (fun (cs : Array Value) (x : Value × Nat) => cs.setIfInBounds (off + x.2) x.1) cells).toList = cells.toList.take off ++ v.toList ++ cells.toList.drop (off + v.size) := by
  have key : ∀ (l : List (Value × Nat)) (cs : Array Value), (l.foldl (fun (cs : Array Value) (x : Value × Nat) => cs.setIfInBounds (off + x.2) x.1) cs).toList = l.foldl (fun (cs : List Value) (x : Value × Nat) => cs.set (off + x.2) x.1) cs.toList := by
    intro l
    induction l with
    | nil => intro cs; rfl
    | cons x l ih => intro cs; simp [ih]
  rw [← Array.foldl_toList, key, Array.toList_zipIdx, foldl_set_list _ 0 off _ (by simpa using h)]
  simp
section
variable {P : Program} {w0 : World} {I : Nat → Prop} {N : Nat} {σ τ : Nat → W} {fp : Nat → List Nat} {a : Act} {w : World}

theorem solid_cells {A : Nat → Prop} {t : T} {v : Value} (hl : t.isLeaf = true) (hs : t.solid = true) (h : RT w A t v) : v.cells = #[v] ∧ v.oneCell' = true := by
  cases t with
  | agg ts => simp [T.isLeaf] at hl
  | tup ts => simp [T.isLeaf] at hl
  | any => simp [T.solid] at hs
  | raw u =>
    simp only [RT, R0, RL, List.cons.injEq, and_true] at h
    subst h
    cases v <;> first | exact ⟨rfl, rfl⟩ | simp [T.solid] at hs
  | sl z xs =>
    simp only [RT, R0, RL, List.cons.injEq, and_true] at h
    obtain ⟨p, cap, rfl, _⟩ := h
    exact ⟨rfl, rfl⟩
  | ptr z e =>
    simp only [RT, R0, RL, List.cons.injEq, and_true] at h
    obtain ⟨b, o, es, rfl, _⟩ := h
    exact ⟨rfl, rfl⟩
  | _ =>
    simp only [RT, R0, RL, List.cons.injEq, and_true] at h
    subst h
    exact ⟨rfl, rfl⟩

theorem WVs.len {A : Nat → Prop} {tm : Nat → Value} : ∀ {ws : List W} {cs : List Value}, WVs w A σ tm ws cs → ws.length = cs.length
  | [], _, h => by simp only [WVs] at h; simp [h]
  | x :: ws, _, h => by
    obtain ⟨c, cs', rfl, _, h2⟩ := h
    simp [WVs.len h2]
theorem WVs.append {A : Nat → Prop} {tm : Nat → Value} : ∀ {ws us : List W} {cs ds : List Value}, WVs w A σ tm ws cs → WVs w A σ tm us ds → WVs w A σ tm (ws ++ us) (cs ++ ds)
  | [], _, _, _, h, h' => by simp only [WVs] at h; subst h; simpa using h'
  | x :: ws, _, _, _, h, h' => by
    obtain ⟨c, cs', rfl, h1, h2⟩ := h
    exact ⟨c, _, rfl, h1, WVs.append h2 h'⟩
theorem WVs.take {A : Nat → Prop} {tm : Nat → Value} : ∀ (n : Nat) {ws : List W} {cs : List Value}, WVs w A σ tm ws cs → WVs w A σ tm (ws.take n) (cs.take n)
  | 0, _, _, _ => by simp [WVs]
  | n + 1, [], _, h => by simp only [WVs] at h; subst h; simp [WVs]
  | n + 1, x :: ws, _, h => by
    obtain ⟨c, cs', rfl, h1, h2⟩ := h
    simp only [List.take_succ_cons]
    exact ⟨c, _, rfl, h1, WVs.take n h2⟩
theorem WVs.drop {A : Nat → Prop} {tm : Nat → Value} : ∀ (n : Nat) {ws : List W} {cs : List Value}, WVs w A σ tm ws cs → WVs w A σ tm (ws.drop n) (cs.drop n)
  | 0, _, _, h => by simpa using h
  | n + 1, [], _, h => by simp only [WVs] at h; subst h; simp [WVs]
  | n + 1, x :: ws, _, h => by
    obtain ⟨c, cs', rfl, h1, h2⟩ := h
    simpa using WVs.drop n h2
theorem WVs_map {A : Nat → Prop} {tm : Nat → Value} : ∀ {ts : List T} {cs : List Value}, RS w A ts cs → WVs w A σ tm (ts.map W.t) cs
  | [], _, h => by simp only [RS] at h; subst h; simp [WVs]
  | t :: ts, _, h => by
    simp only [RS] at h
    obtain ⟨c, cs', rfl, h0, h1, h2⟩ := h
    exact ⟨c, _, rfl, (RT_leaf h0).2 h1, WVs_map h2⟩
theorem allT_sound {A : Nat → Prop} {tm : Nat → Value} : ∀ {ws : List W} {cs : List Value} {ts : List T}, allT ws = some ts → ts.all T.isLeaf = true → WVs w A σ tm ws cs → RS w A ts cs
  | [], cs, ts, h, _, hw => by
    simp only [allT, Option.some.injEq] at h
    subst h
    simpa [WVs, RS] using hw
  | x :: ws, cs, ts, h, hl, hw => by
    cases x <;> simp [allT] at h
    obtain ⟨ts', h1, rfl⟩ := h
    simp only [List.all_cons, Bool.and_eq_true] at hl
    obtain ⟨c, cs', rfl, h2, h3⟩ := hw
    exact ⟨c, cs', rfl, hl.1, (RT_leaf hl.1).1 h2, allT_sound h1 hl.2 h3⟩

theorem nameOk_sound (h : Rel w0 I N σ fp a w) (hs : Sub τ σ) {x : W} {v : Value} (hx : WW w (Free w fp) σ (Act.at a) [] x v) (hc : nameOk true τ x) :
    ((∃ r p, x = .ref r p) ∨ ∃ r p lo n, x = .sub r p lo n) → v.cells = #[v] ∧ v.oneCell' = true := by
  intro hn
  unfold nameOk at hc
  rcases hn with ⟨r, p, rfl⟩ | ⟨r, p, lo, n, rfl⟩
  · simp only at hc
    generalize hn : nodeAt true τ r p = n at hc
    obtain ⟨cn, kn, tn⟩ := n
    cases kn with
    | sl ks =>
      obtain ⟨h1, h2⟩ := hc
      obtain ⟨k', t', c1, F1, r1, r2, r3, r4, r5, r6, r7⟩ := node_sound h hs (r := r) (p := p) (by rw [hn]; exact h1)
      rw [hn] at r3 r4
      simp only at r3 r4
      have h9 := hx.2 k' t' r1 r2 (by rw [r3]; rfl)
      rw [r5] at h9
      simp only [Option.some.injEq] at h9
      rw [r3, r4] at r6
      simp only [RO] at r6
      rcases r6 with ⟨rfl, _⟩ | ⟨xs, rfl, ⟨rfl, _, e⟩ | ⟨b, o, cap, cur, el, Fs, e, h4, _⟩⟩
      · simp [T.isAny] at h2
      · rw [← h9, e]; exact ⟨rfl, rfl⟩
      · rw [← h9, e]; exact ⟨rfl, rfl⟩
    | box ks =>
      obtain ⟨h1, h2⟩ := hc
      obtain ⟨k', t', c1, F1, r1, r2, r3, r4, r5, r6, r7⟩ := node_sound h hs (r := r) (p := p) (by rw [hn]; exact h1)
      rw [hn] at r3 r4
      simp only at r3 r4
      have h9 := hx.2 k' t' r1 r2 (by rw [r3]; rfl)
      rw [r5] at h9
      simp only [Option.some.injEq] at h9
      rw [r3, r4] at r6
      simp only [RO] at r6
      rcases r6 with ⟨rfl, _⟩ | ⟨b, cur, el, Fs, e, _⟩
      · simp [T.isAny] at h2
      · rw [← h9, e]; exact ⟨rfl, rfl⟩
    | _ => exact hc.elim
  · simp only at hc
    generalize hn : nodeAt true τ r p = n' at hc
    obtain ⟨cn, kn, tn⟩ := n'
    cases kn with
    | sl ks =>
      obtain ⟨h1, h2⟩ := hc
      obtain ⟨k', t', c1, F1, r1, r2, r3, r4, r5, r6, r7⟩ := node_sound h hs (r := r) (p := p) (by rw [hn]; exact h1)
      rw [hn] at r3 r4
      simp only at r3 r4
      obtain ⟨c1', h9, Q, n1, cap1, h10, h11, h12, Q', h13, h14⟩ := hx.2 k' t' r1 r2 (by rw [r3]; rfl)
      rw [h13]; exact ⟨rfl, rfl⟩
    | _ => exact hc.elim

/-- One part more. -/
theorem partW_sound {A : Nat → Prop} {tm : Nat → Value} {ws : List W} {cs : List Value} {off n : Nat} {x : W} {v : Value} (hw : WVs w A σ tm ws cs) (hx : WW w A σ tm [] x v) (hc : (partW ws (off, n, x)).1) (hv : ((∃ r p, x = .ref r p) ∨ ∃ r p lo n, x = .sub r p lo n) → v.cells = #[v] ∧ v.oneCell' = true) :
    v.cells.size = n ∧ off + n ≤ cs.length ∧ WVs w A σ tm (partW ws (off, n, x)).2 (cs.take off ++ v.cells.toList ++ cs.drop (off + n)) := by
  have hlen := hw.len
  unfold partW at hc ⊢
  cases x with
  | t t =>
    simp only at hc ⊢
    obtain ⟨h1, h2, h3⟩ := hc
    have h4 := hx.2
    simp only [WV] at h4
    by_cases hl : t.isLeaf = true
    · have h5 := (solid_cells hl h1 h4).1
      rw [h5]
      rw [leaf_leaves hl] at h2 ⊢
      simp only [List.length_singleton] at h2
      subst h2
      refine ⟨rfl, by omega, ((hw.take off).append ?_).append (hw.drop _)⟩
      exact ⟨v, [], rfl, h4, rfl⟩
    · cases t with
      | agg ts =>
        obtain ⟨cs', rfl, h6⟩ := h4
        simp only [T.leaves] at h2 ⊢
        have h7 := RS.len h6
        refine ⟨by simp [Value.cells] at h7 ⊢; omega, by omega, ((hw.take off).append (WVs_map h6)).append (hw.drop _)⟩
      | tup ts => simp [T.solid] at h1
      | _ => simp [T.isLeaf] at hl
  | agg us =>
    simp only at hc ⊢
    obtain ⟨h1, h2⟩ := hc
    obtain ⟨_, cs', rfl, h3⟩ := hx
    have h4 := h3.len
    refine ⟨by simp [Value.cells] at h4 ⊢; omega, by omega, ((hw.take off).append h3).append (hw.drop _)⟩
  | ref r p =>
    simp only at hc ⊢
    obtain ⟨rfl, h2⟩ := hc
    have h3 := (hv (.inl ⟨r, p, rfl⟩)).1
    rw [h3]
    have h4 : WVs w A σ tm [_] [v] := ⟨v, [], rfl, hx.2, rfl⟩
    exact ⟨rfl, by omega, ((hw.take off).append h4).append (hw.drop _)⟩
  | sub r p lo m =>
    simp only at hc ⊢
    obtain ⟨rfl, h2⟩ := hc
    have h3 := (hv (.inr ⟨r, p, lo, m, rfl⟩)).1
    rw [h3]
    have h4 : WVs w A σ tm [_] [v] := ⟨v, [], rfl, hx.2, rfl⟩
    exact ⟨rfl, by omega, ((hw.take off).append h4).append (hw.drop _)⟩
  | _ => exact hc.elim

/-- The parts, one behind the other. -/
def OkParts (place : Nat → Option (Nat × Nat)) : List (Nat × Operand) → List (Nat × Nat × Opd) → Prop
  | [], [] => True
  | (i, X) :: Xs, (off, n, x) :: xs => place i = some (off, n) ∧ matO X x = true ∧ OkParts place Xs xs
  | _, _ => False
theorem bldW_sound (h : Rel w0 I N σ fp a w) (hs : Sub τ σ) (place : Nat → Option (Nat × Nat)) : ∀ (Xs : List (Nat × Operand)) (xs : List (Nat × Nat × Opd)) (ws : List W) (cs : Array Value), OkParts place Xs xs → WVs w (Free w fp) σ (Act.at a) ws cs.toList → (bldW true τ ws xs).1 →
    ∃ cs', Instr.fill place cs (Xs.map fun x => (x.1, a.eval x.2)) = some cs' ∧ WVs w (Free w fp) σ (Act.at a) (bldW true τ ws xs).2 cs'.toList
  | [], [], ws, cs, _, hw, _ => ⟨cs, rfl, hw⟩
  | [], _ :: _, _, _, hp, _, _ => hp.elim
  | _ :: _, [], _, _, hp, _, _ => by simp [OkParts] at hp
  | (i, X) :: Xs, (off, n, x) :: xs, ws, cs, hp, hw, hc => by
    obtain ⟨h1, h2, h3⟩ := hp
    simp only [bldW] at hc ⊢
    obtain ⟨c1, c2, c3, c4⟩ := hc
    obtain ⟨_, hx⟩ := evG_sound h hs h2 c1
    obtain ⟨e1, e2, e3⟩ := partW_sound hw hx c3 (nameOk_sound h hs hx c2)
    simp only [List.map_cons, Instr.fill, h1]
    rw [Array.length_toList] at e2
    rw [if_neg (by simp; omega)]
    have e4 := splice (a.eval X).cells off cs (by simpa [e1] using e2)
    rw [e1] at e4
    rw [← e4] at e3
    exact bldW_sound h hs place Xs xs _ _ h3 e3 c4
theorem bld_sound (h : Rel w0 I N σ fp a w) (hs : Sub τ σ) (ty : TypeId) (parts : Array (Nat × Operand)) (zero : List T) (ps : List (Nat × Nat × Opd)) (z : Value)
    (hzm : RS w (Free w fp) zero z.cells.toList) (place : Nat → Option (Nat × Nat)) (hplace : ∀ ps', P.built ty ps' = Instr.fill place z.cells ps') (hp : OkParts place parts.toList ps) (hc : (pev true τ (.bld zero ps)).1) :
    ∃ c, (Instr.build ty (parts.map fun (i, x) => (i, a.eval x))).run P w = .ok c w ∧ (pev true τ (.bld zero ps)).2.isRoot = false ∧ WW w (Free w fp) σ (Act.at a) [] (pev true τ (.bld zero ps)).2 c := by
  simp only [pev] at hc ⊢
  obtain ⟨c1, c2⟩ := hc
  obtain ⟨cs', e1, e2⟩ := bldW_sound h hs place parts.toList ps (zero.map W.t) z.cells hp (WVs_map hzm) c1
  refine ⟨.agg cs', run_build w ty _ cs' ?_, ?_⟩
  · rw [hplace, Array.toList_map]; exact e1
  · unfold aggW at c2 ⊢
    split
    · rename_i ts hts
      rw [hts] at c2
      exact ⟨rfl, rfl, cs', rfl, allT_sound hts c2 e2⟩
    · exact ⟨rfl, rfl, cs', rfl, e2⟩
end
end Go.Proofs.Ytaefhdklkbohmaa
/- Operations that only compute: parts of several results, pointers that are there, arrays as values, conditions. Generic. -/
namespace Go.Proofs.Ytaefhdklkbohmaa
open Go Go.RowKit

section
variable {P : Program} {w0 : World} {I : Nat → Prop} {N : Nat} {σ τ : Nat → W} {fp : Nat → List Nat} {a : Act} {w : World}

theorem R0s_at {A : Nat → Prop} : ∀ (i : Nat) {ts : List T} {cs : List Value}, R0s w A ts cs → i < ts.length → ∃ v, cs[i]? = some v ∧ R0 w A (ts.getD i default) v
  | _, [], _, _, hi => by simp at hi
  | 0, t :: ts, _, h, _ => by
    obtain ⟨c, cs', rfl, h1, h2⟩ := h
    exact ⟨c, by simp, by simpa using h1⟩
  | i + 1, t :: ts, _, h, hi => by
    obtain ⟨c, cs', rfl, h1, h2⟩ := h
    simpa using R0s_at i h2 (by simpa using hi)
theorem RT_of_R0 {A : Nat → Prop} {t : T} {v : Value} (h : R0 w A t v) : RT w A t v := by
  cases t with
  | tup us => simp [R0, RL] at h
  | _ => simpa only [RT] using h
theorem run_extract (cs : List Value) (i : Nat) (v : Value) (h : cs[i]? = some v) : (Instr.extract (.tuple cs.toArray) i).run P w = .ok v w := by
  simp [Instr.extract, h, Sem.run, pure]

theorem ext_sound (h : Rel w0 I N σ fp a w) (hs : Sub τ σ) {X : Operand} {x : Opd} {i : Nat} (hX : matO X x = true) (hc : (pev true τ (.ext x i)).1) :
    ∃ c, (Instr.extract (a.eval X) i).run P w = .ok c w ∧ (pev true τ (.ext x i)).2.isRoot = false ∧ WW w (Free w fp) σ (Act.at a) [] (pev true τ (.ext x i)).2 c := by
  simp only [pev] at hc ⊢
  have key := evG_sound (x := x) h hs hX
  generalize evG true τ x = ex at hc key ⊢
  obtain ⟨cx, vx⟩ := ex
  cases vx with
  | t t =>
    simp only at hc key ⊢
    obtain ⟨h1, h2, h3⟩ := hc
    obtain ⟨_, _, h4⟩ := key h1
    simp only [WV] at h4
    rw [T.isTup_eq h2] at h4
    obtain ⟨cs, h5, h6⟩ := h4
    obtain ⟨v, h7, h8⟩ := R0s_at i h6 h3
    exact ⟨v, by rw [h5]; exact run_extract cs i v h7, rfl, rfl, RT_of_R0 h8⟩
  | ref r p =>
    simp only at hc key ⊢
    generalize hn : nodeAt true τ r p = n at hc ⊢
    obtain ⟨cn, kn, tn⟩ := n
    cases kn with
    | tup ks =>
      simp only at hc ⊢
      have hall : cx ∧ cn ∧ tn.isAny = false ∧ i < ks.length := by split at hc <;> exact hc
      obtain ⟨h1, h2, h3, h4⟩ := hall
      obtain ⟨_, _, h5⟩ := key h1
      obtain ⟨k', t', c1, F1, r1, r2, r3, r4, r5, r6, r7⟩ := node_sound h hs (r := r) (p := p) (by rw [hn]; exact h2)
      rw [hn] at r3 r4
      simp only at r3 r4
      have h9 := h5 k' t' r1 r2 (by rw [r3]; rfl)
      rw [r5] at h9
      simp only [Option.some.injEq] at h9
      rw [r3, r4] at r6
      have hk : (K.tup ks).okKid tn 0 i := ⟨h4, h3⟩
      obtain ⟨v, Fa, F2, Fb, e1, e2, e3, e4, _⟩ := r6.step 0 i hk
      have hloc : loc w k' (Act.at a r) (p ++ [(0, i)]) = some v := by
        rw [loc_append, r5, Option.bind_some, r3]
        simp only [loc, e1, Option.bind_some]
      simp only [RO] at r6
      rcases r6 with ⟨rfl, _⟩ | ⟨ts, cs, rfl, hcs, _⟩
      · simp [T.isAny] at h3
      have e1' : cs[i]? = some v := by
        rw [hcs] at e1
        simpa [kidV] using e1
      refine ⟨v, by rw [← h9, hcs]; exact run_extract cs i v e1', ?_⟩
      generalize hki : ks.getD i .sh = ki
      cases ki with
      | sh =>
        have e4' : RO w (Free w fp) .sh (ts.getD i default) v F2 := by
          have : (K.tup ks).kid i = .sh := hki
          rw [this] at e4; exact e4
        simp only [RO] at e4'
        exact ⟨rfl, rfl, RT_of_R0 e4'.2⟩
      | _ =>
        refine ⟨rfl, rfl, ?_⟩
        intro k t hr _ _
        obtain ⟨rfl, rfl⟩ := Root.unique r1 hr
        exact hloc
    | _ => exact hc.elim
  | _ => exact hc.elim

theorem run_nilc (X : Operand) (o : Oper) (v : Value) (ho : o.op = .nilCheck X) (hv : a.eval X = v) (h1 : (∃ ad, v = .pointer (some ad)) ∨ ∃ f, v = .func (.func f) #[] #[]) : (execOp a.eval o).run P w = .ok (.value v) w := by
  rcases h1 with ⟨ad, rfl⟩ | ⟨f, rfl⟩
  · simp [execOp, ho, hv, Sem.run_bind, Sem.run, pure, Result.andThen]
  · simp [execOp, ho, hv, Sem.run_bind, Sem.run, pure, Result.andThen]
theorem nilc_sound (h : Rel w0 I N σ fp a w) (hs : Sub τ σ) {X : Operand} {x : Opd} (hX : matO X x = true) (o : Oper) (ho : o.op = .nilCheck X) (hc : (pev true τ (.nilc x)).1) :
    ∃ c, (execOp a.eval o).run P w = .ok (.value c) w ∧ (pev true τ (.nilc x)).2.isRoot = false ∧ WW w (Free w fp) σ (Act.at a) [] (pev true τ (.nilc x)).2 c := by
  simp only [pev] at hc ⊢
  have key := evG_sound (x := x) h hs hX
  generalize evG true τ x = ex at hc key ⊢
  obtain ⟨cx, vx⟩ := ex
  cases vx with
  | t t =>
    cases t with
    | ptr sz e =>
      simp only at hc key ⊢
      obtain ⟨h1, h2, h3⟩ := key hc
      have h4 := h3
      simp only [WV, RT, R0, RL, List.cons.injEq, and_true] at h4
      obtain ⟨b, o', es, h5, _⟩ := h4
      exact ⟨_, run_nilc X o _ ho rfl (.inl ⟨_, h5⟩), rfl, h2, h3⟩
    | fn f =>
      simp only at hc key ⊢
      obtain ⟨h1, h2, h3⟩ := key hc
      have h4 := h3
      simp only [WV, RT, R0, RL, List.cons.injEq, and_true] at h4
      exact ⟨_, run_nilc X o _ ho rfl (.inr ⟨_, h4⟩), rfl, h2, h3⟩
    | _ => exact hc.elim
  | ref r p =>
    simp only at hc key ⊢
    generalize hn : nodeAt true τ r p = n at hc ⊢
    obtain ⟨cn, kn, tn⟩ := n
    cases kn with
    | box ks =>
      simp only at hc ⊢
      obtain ⟨h1, h2, h3⟩ := hc
      obtain ⟨h4, h5, h6⟩ := key h1
      obtain ⟨k', t', c1, F1, r1, r2, r3, r4, r5, r6, r7⟩ := node_sound h hs (r := r) (p := p) (by rw [hn]; exact h2)
      rw [hn] at r3 r4
      simp only at r3 r4
      have h9 := h6 k' t' r1 r2 (by rw [r3]; rfl)
      rw [r5] at h9
      simp only [Option.some.injEq] at h9
      rw [r3, r4] at r6
      simp only [RO] at r6
      rcases r6 with ⟨rfl, _⟩ | ⟨b, cur, el, Fs, e, _⟩
      · simp [T.isAny] at h3
      · exact ⟨_, run_nilc X o _ ho rfl (.inl ⟨_, by rw [← h9, e]⟩), rfl, h5, h6⟩
    | _ => exact hc.elim
  | _ => exact hc.elim

theorem run_index_arr (ty e : TypeId) (n : Nat) (hu : P.underlying ty = some (.array n e)) (i : TypeInfo) (hi : P.info? e = some i) (cs : Array Value) (k : IntKind) (x : Int) (h0 : 0 ≤ x) (h1 : x.toNat < n) :
    (Instr.index ty (.agg cs) (.int k x)).run P w = (part e cs (x.toNat * i.size)).run P w := by
  have h2 : 0 ≤ x ∧ x < (n : Int) := ⟨h0, by omega⟩
  simp [Instr.index, asIntOf, run_underlying hu, Sem.run_bind, Sem.run, pure, Result.andThen, h2, sizeOf, typeInfo, hi, program]
theorem idxA_sound (h : Rel w0 I N σ fp a w) (hs : Sub τ σ) {X Y : Operand} {x y : Opd} {sz n : Nat} {ag : Bool} {k : IntKind} (hX : matO X x = true) (hY : matO Y y = true)
    (ty e : TypeId) (d : TypeDesc) (i : TypeInfo) (hu : P.underlying ty = some (.array n e)) (hd : P.underlying e = some d) (hdr : d.isRow = ag) (hi : P.info? e = some i) (hsz : i.size = sz)
    (hc : (pev true τ (.idxA sz n ag k x y)).1) :
    ∃ c, (Instr.index ty (a.eval X) (a.eval Y)).run P w = .ok c w ∧ (pev true τ (.idxA sz n ag k x y)).2.isRoot = false ∧ WW w (Free w fp) σ (Act.at a) [] (pev true τ (.idxA sz n ag k x y)).2 c := by
  simp only [pev, idxT] at hc ⊢
  have hT := evT_sound (x := x) h hs hX
  have hI := evT_sound (x := y) h hs hY
  generalize evT true τ x = ex at hc hT ⊢
  generalize evT true τ y = ey at hc hI ⊢
  obtain ⟨cx, t⟩ := ex
  obtain ⟨cy, u⟩ := ey
  simp only at hc hT hI ⊢
  obtain ⟨h1, h2, h3, ⟨h4, h5⟩, h6, h7, h8⟩ := hc
  have h9 := hT h1
  rw [T.isAgg_eq h3] at h9
  obtain ⟨cs, h10, h11⟩ := h9
  have h12 := RT_int (hI h2) h4
  rw [h10, h12, run_index_arr ty e n hu i hi cs k _ h5 h6, hsz]
  cases ag with
  | false =>
    simp only [Bool.false_eq_true, if_false]
    have h13 : u.toInt.toNat * sz < t.leaves.length := by
      rw [h8 rfl, Nat.mul_one, h7, h8 rfl, Nat.mul_one]; exact h6
    obtain ⟨v, e1, e2, e3⟩ := RS.at _ h11 h13
    exact ⟨v, run_part_leaf e d hd hdr cs _ v (by simpa using e1), rfl, rfl, (RT_leaf e2).2 e3⟩
  | true =>
    simp only [if_true]
    refine ⟨_, run_part_agg e d i hd hdr hi cs _, rfl, rfl, _, rfl, ?_⟩
    rw [toList_extract, hsz, Nat.add_sub_cancel_left]
    exact (h11.drop _).take _

theorem evW_gd (h : Rel w0 I N σ fp a w) (hs : Sub τ σ) {X : Operand} {x : Opd} (hX : matO X x = true) {t : T} : (evW τ x = .t t → RT w (Free w fp) t (a.eval X)) ∧ (∀ g, evW τ x = .gd g (.t t) → g = true → RT w (Free w fp) t (a.eval X)) := by
  constructor
  · intro e
    have hev : evG true τ x = (True, .t t) := by
      cases x with
      | const u => simp only [evW, W.t.injEq] at e; subst e; rfl
      | tmp s => simp only [evW] at e; simp only [evG, e]
    have := (evG_sound h hs hX (by rw [hev]; trivial)).2
    rw [hev] at this
    exact this.2
  · intro g e hg
    subst hg
    have hev : evG true τ x = (true = true → true = true, .t t) := by
      cases x with
      | const u => simp only [evW] at e; cases e
      | tmp s => simp only [evW] at e; simp only [evG, e]
    have := (evG_sound h hs hX (by rw [hev]; exact fun h => h)).2
    rw [hev] at this
    exact this.2

theorem pick_sound (h : Rel w0 I N σ fp a w) (hs : Sub τ σ) {C X Y : Operand} {c x y : Opd} (hC : matO C c = true) (hX : matO X x = true) (hY : matO Y y = true) (o : Oper) (ho : o.op = .pick C X Y) (hc : (pev true τ (.pick c x y)).1) :
    ∃ v, (execOp a.eval o).run P w = .ok (.value v) w ∧ (pev true τ (.pick c x y)).2.isRoot = false ∧ WW w (Free w fp) σ (Act.at a) [] (pev true τ (.pick c x y)).2 v := by
  have hT := evT_sound (x := c) h hs hC
  have hx := fun t => evW_gd (x := x) (t := t) h hs hX
  have hy := fun t => evW_gd (x := y) (t := t) h hs hY
  have run : ∀ b, a.eval C = .bool b → (execOp a.eval o).run P w = .ok (.value (if b then a.eval X else a.eval Y)) w := by
    intro b hb
    simp [execOp, ho, hb, asBool, Sem.run_bind, Sem.run, pure, Result.andThen]
  have fin : ∀ (tc ta tb : T), RT w (Free w fp) tc (a.eval C) → tc.isBool → ta.isBool → tb.isBool → (tc.toBool = true → RT w (Free w fp) ta (a.eval X)) → (tc.toBool = false → RT w (Free w fp) tb (a.eval Y)) →
      ∃ v, (execOp a.eval o).run P w = .ok (.value v) w ∧ W.isRoot (.t (.bool (bif tc.toBool then ta.toBool else tb.toBool))) = false ∧ WW w (Free w fp) σ (Act.at a) [] (.t (.bool (bif tc.toBool then ta.toBool else tb.toBool))) v := by
    intro tc ta tb h1 h2 h3 h4 h5 h6
    refine ⟨_, run _ (RT_bool h1 h2), rfl, rfl, ?_⟩
    simp only [WV]
    cases hb : tc.toBool with
    | true => simp only [if_true, cond_true]; rw [RT_bool (h5 hb) h3]; exact RT_mkBool _
    | false => simp only [Bool.false_eq_true, if_false, cond_false]; rw [RT_bool (h6 hb) h4]; exact RT_mkBool _
  simp only [pev] at hc ⊢
  split at hc
  · rename_i e1 e2 e3
    rw [e1] at hT
    obtain ⟨h1, h2, h3, h4⟩ := hc
    exact fin _ _ _ (hT h1) h2 h3 h4 (fun _ => (hx _).1 e2) (fun _ => (hy _).1 e3)
  · rename_i e1 e2 e3
    rw [e1] at hT
    obtain ⟨h1, h2, h3, h4, h5⟩ := hc
    exact fin _ _ _ (hT h1) h2 h4 h5 (fun hb => (hx _).2 _ e2 (h3 trivial hb)) (fun _ => (hy _).1 e3)
  · rename_i e1 e2 e3
    rw [e1] at hT
    obtain ⟨h1, h2, h3, h4, h5⟩ := hc
    exact fin _ _ _ (hT h1) h2 h4 h5 (fun _ => (hx _).1 e2) (fun hb => (hy _).2 _ e3 (h3 trivial hb))
  · rename_i e1 e2 e3
    rw [e1] at hT
    obtain ⟨h1, h2, h3, h3', h4, h5⟩ := hc
    exact fin _ _ _ (hT h1) h2 h4 h5 (fun hb => (hx _).2 _ e2 (h3 trivial hb)) (fun hb => (hy _).2 _ e3 (h3' trivial hb))
  · exact hc.elim
end
end Go.Proofs.Ytaefhdklkbohmaa
/- '==' of structs and arrays of whole numbers, bools and strings. Generic. -/
namespace Go.Proofs.Ytaefhdklkbohmaa
open Go Go.RowKit

def eqKF (P : Program) (f : TypeId → Option (List LK)) : List Field → Nat → Option (List LK)
  | [], _ => some []
  | g :: gs, off => if g.name ≠ "_" ∧ g.offset = off then
      (f g.type).bind fun l => if l.length = P.cellsOf g.type then (eqKF P f gs (off + l.length)).map (l ++ ·) else none
    else none
/-- The kinds of the leaves that '==' compares, of a type. -/
def eqK (P : Program) : Nat → TypeId → Option (List LK)
  | 0, _ => none
  | d + 1, t =>
    match P.underlying t with
    | some .bool => some [.bool]
    | some (.int k) => some [.int k]
    | some .string => some [.str]
    | some (.array n e) => (eqK P d e).bind fun l => if l.length = P.cellsOf e then some (List.replicate n l).flatten else none
    | some (.struct fs) => if P.stoodInHeld t = false then eqKF P (eqK P d) fs.toList 0 else none
    | _ => none

def valOf : T → Value
  | .int k n => .int k n
  | .bool b => .bool b
  | .str s => .string s
  | _ => undef
def Vals : List LK → List T → List Value → Prop
  | [], ts, cs => ts = [] ∧ cs = []
  | k :: ks, ts, cs => ∃ t ts' cs', ts = t :: ts' ∧ cs = valOf t :: cs' ∧ k.fits t ∧ Vals ks ts' cs'
def rowType (P : Program) (t : TypeId) : Bool :=
  match P.underlying t with
  | some (.struct _) => true
  | some (.array _ _) => true
  | _ => false
def mkVal (P : Program) (t : TypeId) (cs : List Value) : Value := if rowType P t then .agg cs.toArray else cs.headD undef

theorem Vals.len : ∀ {ks : List LK} {ts : List T} {cs : List Value}, Vals ks ts cs → ts.length = ks.length ∧ cs.length = ks.length
  | [], _, _, h => by simp [h.1, h.2]
  | k :: ks, _, _, h => by
    obtain ⟨t, ts', cs', rfl, rfl, _, h⟩ := h
    simp [Vals.len h]
theorem Vals.split : ∀ {ks ks' : List LK} {ts : List T} {cs : List Value}, Vals (ks ++ ks') ts cs → ∃ t1 t2 c1 c2, ts = t1 ++ t2 ∧ cs = c1 ++ c2 ∧ Vals ks t1 c1 ∧ Vals ks' t2 c2
  | [], ks', ts, cs, h => ⟨[], ts, [], cs, rfl, rfl, ⟨rfl, rfl⟩, h⟩
  | k :: ks, ks', _, _, h => by
    obtain ⟨t, ts', cs', rfl, rfl, h1, h⟩ := h
    obtain ⟨t1, t2, c1, c2, rfl, rfl, h2, h3⟩ := Vals.split (ks := ks) h
    exact ⟨t :: t1, t2, valOf t :: c1, c2, rfl, rfl, ⟨t, t1, c1, rfl, rfl, h1, h2⟩, h3⟩
theorem sameAll_append : ∀ {ks ks' : List LK} {x1 y1 x2 y2 : List T}, x1.length = ks.length → y1.length = ks.length → LK.sameAll (ks ++ ks') (x1 ++ x2) (y1 ++ y2) = (LK.sameAll ks x1 y1 && LK.sameAll ks' x2 y2)
  | [], ks', x1, y1, x2, y2, hx, hy => by
    have e1 : x1 = [] := List.eq_nil_of_length_eq_zero hx
    have e2 : y1 = [] := List.eq_nil_of_length_eq_zero hy
    subst e1; subst e2
    simp [LK.sameAll]
  | k :: ks, ks', x1, y1, x2, y2, hx, hy => by
    cases x1 with
    | nil => simp at hx
    | cons a x1 => cases y1 with
      | nil => simp at hy
      | cons b y1 =>
        simp only [List.cons_append, LK.sameAll]
        rw [sameAll_append (by simpa using hx) (by simpa using hy), Bool.and_assoc]
theorem Vals.of_RS {w : World} {A : Nat → Prop} : ∀ {ks : List LK} {ts : List T} {cs : List Value}, LK.fitsAll ks ts → RS w A ts cs → Vals ks ts cs
  | [], ts, cs, h, hr => by
    simp only [LK.fitsAll] at h
    subst h
    simp only [RS] at hr
    exact ⟨rfl, hr⟩
  | k :: ks, [], cs, h, _ => h.elim
  | k :: ks, t :: ts, cs, h, hr => by
    simp only [RS] at hr
    obtain ⟨c, cs', rfl, h0, h1, h2⟩ := hr
    obtain ⟨h3, h4⟩ := h
    refine ⟨t, ts, cs', rfl, ?_, h3, Vals.of_RS h4 h2⟩
    cases k <;> simp only [LK.fits] at h3
    · rw [T.isInt_eq h3] at h1 ⊢; simp only [RL, List.cons.injEq, and_true] at h1; rw [h1]; rfl
    · rw [T.isBool_eq h3] at h1 ⊢; simp only [RL, List.cons.injEq, and_true] at h1; rw [h1]; rfl
    · rw [T.isStr_eq h3] at h1 ⊢; simp only [RL, List.cons.injEq, and_true] at h1; rw [h1]; rfl

section
variable {P : Program}
theorem cellsOf_info {t : TypeId} {d : TypeDesc} (hu : P.underlying t = some d) : ∃ i, P.info? t = some i := by
  unfold Program.underlying at hu
  cases h : P.info? t with
  | none => simp [h] at hu
  | some i => exact ⟨i, rfl⟩
theorem eqK_info {d : Nat} {t : TypeId} {ks : List LK} (h : eqK P d t = some ks) : ∃ u i, P.underlying t = some u ∧ P.info? t = some i := by
  cases d with
  | zero => simp [eqK] at h
  | succ d =>
    simp only [eqK] at h
    cases hu : P.underlying t with
    | none => simp [hu] at h
    | some u =>
      obtain ⟨i, hi⟩ := cellsOf_info hu
      exact ⟨u, i, rfl, hi⟩
/-- A part of a value: its cells. -/
theorem run_part_mk (w : World) {d : Nat} {t : TypeId} {ks : List LK} (h : eqK P d t = some ks) (hl : ks.length = P.cellsOf t) (xs : Array Value) (off : Nat) (c : List Value) (hc : (xs.toList.drop off).take ks.length = c) (hlen : c.length = ks.length) :
    (part t xs off).run P w = .ok (mkVal P t c) w := by
  obtain ⟨u, i, hu, hi⟩ := eqK_info h
  have hsz : P.cellsOf t = i.size := by simp [Program.cellsOf, hi]
  cases d with
  | zero => simp [eqK] at h
  | succ d =>
    simp only [eqK, hu] at h
    have leaf : u.isRow = false → ks.length = 1 → (part t xs off).run P w = .ok (mkVal P t c) w := by
      intro hr h1
      rw [h1] at hlen hc
      cases c with
      | nil => simp at hlen
      | cons v c' =>
        have hv : xs[off]? = some v := by
          have : ((xs.toList.drop off).take 1)[0]? = some v := by rw [hc]; rfl
          simpa using this
        rw [run_part_leaf t u hu hr xs off v hv]
        have : rowType P t = false := by
          unfold rowType; rw [hu]; cases u <;> simp_all [TypeDesc.isRow]
        simp [mkVal, this]
    have row : u.isRow = true → (part t xs off).run P w = .ok (mkVal P t c) w := by
      intro hr
      rw [run_part_agg t u i hu hr hi xs off]
      have h2 : rowType P t = true := by
        unfold rowType; rw [hu]; cases u <;> simp_all [TypeDesc.isRow]
      have h3 : (xs.extract off (off + i.size)) = c.toArray := by
        apply Array.toList_inj.1
        rw [toList_extract, Nat.add_sub_cancel_left, ← hsz, ← hl, hc]
      simp [mkVal, h2, h3]
    cases u <;> simp at h
    · subst h; exact leaf rfl rfl
    · subst h; exact leaf rfl rfl
    · subst h; exact leaf rfl rfl
    · exact row rfl
    · exact row rfl

def EqOK (P : Program) (dd : Nat) (t : TypeId) (ks : List LK) : Prop :=
  ∀ (w : World) (cx cy : List Value) (lx ly : List T), Vals ks lx cx → Vals ks ly cy → (Op.equalIn dd t (mkVal P t cx) (mkVal P t cy)).run P w = .ok (LK.sameAll ks lx ly) w

theorem drop_mid {α : Type} (a b c : List α) : ((a ++ (b ++ c)).drop a.length).take b.length = b := by simp

theorem run_eqFields_LK (d dd : Nat) (IH : ∀ t ks, eqK P d t = some ks → EqOK P dd t ks) (w : World) : ∀ (fs : List Field) (off : Nat) (ks : List LK) (px cx py cy : List Value) (lx ly : List T), eqKF P (eqK P d) fs off = some ks → px.length = off → py.length = off → Vals ks lx cx → Vals ks ly cy →
    (Op.eqFields dd (px ++ cx).toArray (py ++ cy).toArray fs).run P w = .ok (LK.sameAll ks lx ly) w
  | [], off, ks, px, cx, py, cy, lx, ly, h, _, _, _, _ => by
    simp only [eqKF, Option.some.injEq] at h
    subst h
    simp [Op.eqFields, LK.sameAll]
  | f :: fs, off, ks, px, cx, py, cy, lx, ly, h, hpx, hpy, hx, hy => by
    simp only [eqKF] at h
    split at h
    · rename_i hn
      simp only [Option.bind_eq_some_iff] at h
      obtain ⟨l, h1, h2⟩ := h
      split at h2
      · rename_i hl
        simp only [Option.map_eq_some_iff] at h2
        obtain ⟨ks', h3, rfl⟩ := h2
        obtain ⟨x1, x2, c1, c2, rfl, rfl, v1, v2⟩ := hx.split
        obtain ⟨y1, y2, e1, e2, rfl, rfl, u1, u2⟩ := hy.split
        have p1 := run_part_mk w h1 hl (px ++ (c1 ++ c2)).toArray f.offset c1 (by rw [hn.2, ← hpx, ← v1.len.2]; exact drop_mid _ _ _) v1.len.2
        have p2 := run_part_mk w h1 hl (py ++ (e1 ++ e2)).toArray f.offset e1 (by rw [hn.2, ← hpy, ← u1.len.2]; exact drop_mid _ _ _) u1.len.2
        have p3 := IH f.type l h1 w c1 e1 x1 y1 v1 u1
        simp only [Op.eqFields, hn.1, ne_eq, not_false_eq_true, if_true, Sem.run_bind, p1, p2, p3, Result.andThen_ok]
        rw [sameAll_append v1.len.1 u1.len.1]
        cases LK.sameAll l x1 y1 with
        | false => simp
        | true =>
          have := run_eqFields_LK d dd IH w fs (off + l.length) ks' (px ++ c1) c2 (py ++ e1) e2 x2 y2 h3 (by simp [hpx, v1.len.2]) (by simp [hpy, u1.len.2]) v2 u2
          simpa using this
      · cases h2
    · cases h
theorem run_eqItems_LK (d dd : Nat) (e : TypeId) (l : List LK) (he : eqK P d e = some l) (hl : l.length = P.cellsOf e) (IH : EqOK P dd e l) (w : World) : ∀ (n i : Nat) (px cx py cy : List Value) (lx ly : List T), px.length = i * l.length → py.length = i * l.length → Vals (List.replicate n l).flatten lx cx → Vals (List.replicate n l).flatten ly cy →
    (Op.eqItems dd e (P.cellsOf e) (px ++ cx).toArray (py ++ cy).toArray (List.range' i n)).run P w = .ok (LK.sameAll (List.replicate n l).flatten lx ly) w
  | 0, i, px, cx, py, cy, lx, ly, _, _, _, _ => by simp [Op.eqItems, LK.sameAll]
  | n + 1, i, px, cx, py, cy, lx, ly, hpx, hpy, hx, hy => by
    rw [List.replicate_succ, List.flatten_cons] at hx hy ⊢
    obtain ⟨x1, x2, c1, c2, rfl, rfl, v1, v2⟩ := hx.split
    obtain ⟨y1, y2, e1, e2, rfl, rfl, u1, u2⟩ := hy.split
    have p1 := run_part_mk w he hl (px ++ (c1 ++ c2)).toArray (i * P.cellsOf e) c1 (by rw [← hl, ← hpx, ← v1.len.2]; exact drop_mid _ _ _) v1.len.2
    have p2 := run_part_mk w he hl (py ++ (e1 ++ e2)).toArray (i * P.cellsOf e) e1 (by rw [← hl, ← hpy, ← u1.len.2]; exact drop_mid _ _ _) u1.len.2
    have p3 := IH w c1 e1 x1 y1 v1 u1
    simp only [List.range'_succ, Op.eqItems, Sem.run_bind, p1, p2, p3, Result.andThen_ok]
    rw [sameAll_append v1.len.1 u1.len.1]
    cases LK.sameAll l x1 y1 with
    | false => simp
    | true =>
      have := run_eqItems_LK d dd e l he hl IH w n (i + 1) (px ++ c1) c2 (py ++ e1) e2 x2 y2 (by simp [hpx, v1.len.2, Nat.add_mul]) (by simp [hpy, u1.len.2, Nat.add_mul]) v2 u2
      simpa using this

theorem eqOK (dd : Nat) : ∀ (d : Nat) (t : TypeId) (ks : List LK), eqK P d t = some ks → EqOK P (dd + d) t ks
  | 0, t, ks, h => by simp [eqK] at h
  | d + 1, t, ks, h => by
    intro w cx cy lx ly hx hy
    have hd : dd + (d + 1) = (dd + d) + 1 := by omega
    rw [hd]
    simp only [eqK] at h
    cases hu : P.underlying t with
    | none => simp [hu] at h
    | some u =>
      have IH : ∀ t ks, eqK P d t = some ks → EqOK P (dd + d) t ks := fun t ks h => eqOK dd d t ks h
      cases u <;> simp only [hu] at h <;> try (simp at h; done)
      case bool =>
        simp only [Option.some.injEq] at h
        subst h
        obtain ⟨x, _, _, rfl, rfl, hx1, rfl, rfl⟩ := hx
        obtain ⟨y, _, _, rfl, rfl, hy1, rfl, rfl⟩ := hy
        simp only [LK.fits] at hx1 hy1
        rw [T.isBool_eq hx1, T.isBool_eq hy1]
        have : rowType P t = false := by simp [rowType, hu]
        simp [mkVal, this, valOf, Op.equalIn, run_underlying hu, Sem.run_bind, Sem.run, pure, Result.andThen, LK.sameAll, LK.same, T.toBool]
      case int k =>
        simp only [Option.some.injEq] at h
        subst h
        obtain ⟨x, _, _, rfl, rfl, hx1, rfl, rfl⟩ := hx
        obtain ⟨y, _, _, rfl, rfl, hy1, rfl, rfl⟩ := hy
        simp only [LK.fits] at hx1 hy1
        rw [T.isInt_eq hx1, T.isInt_eq hy1]
        have : rowType P t = false := by simp [rowType, hu]
        simp [mkVal, this, valOf, Op.equalIn, run_underlying hu, Sem.run_bind, Sem.run, pure, Result.andThen, LK.sameAll, LK.same, T.toInt]
      case string =>
        simp only [Option.some.injEq] at h
        subst h
        obtain ⟨x, _, _, rfl, rfl, hx1, rfl, rfl⟩ := hx
        obtain ⟨y, _, _, rfl, rfl, hy1, rfl, rfl⟩ := hy
        simp only [LK.fits] at hx1 hy1
        rw [T.isStr_eq hx1, T.isStr_eq hy1]
        have : rowType P t = false := by simp [rowType, hu]
        simp [mkVal, this, valOf, Op.equalIn, run_underlying hu, Sem.run_bind, Sem.run, pure, Result.andThen, LK.sameAll, LK.same, T.toStr]
      case array n e =>
        simp only [Option.bind_eq_some_iff] at h
        obtain ⟨l, h1, h2⟩ := h
        split at h2
        · rename_i hl
          simp only [Option.some.injEq] at h2
          subst h2
          obtain ⟨_, i, _, hi⟩ := eqK_info h1
          have hr : rowType P t = true := by simp [rowType, hu]
          simp only [mkVal, hr, if_true]
          rw [run_equalIn_array w (dd + d) _ _ hu hi, List.range_eq_range']
          have := run_eqItems_LK d (dd + d) e l h1 hl (IH e l h1) w n 0 [] cx [] cy lx ly (by simp) (by simp) hx hy
          simpa using this
        · cases h2
      case struct fs =>
        split at h
        · rename_i hs
          have hr : rowType P t = true := by simp [rowType, hu]
          have hfs : P.fieldsOf t = fs := by simp [Program.fieldsOf, hu]
          simp only [mkVal, hr, if_true]
          rw [run_equalIn_struct w (dd + d) t _ _ (by rw [hfs]; exact hu) hs, hfs]
          have := run_eqFields_LK d (dd + d) IH w fs.toList 0 ks [] cx [] cy lx ly h rfl rfl hx hy
          simpa using this
        · cases h

theorem run_aeq (w : World) (ne : Bool) (ty : TypeId) (X Y : Operand) (ks : List LK) (d : Nat) (hd : d ≤ 10000) (hk : eqK P d ty = some ks) (hg : P.eqGuardType P.depth ty = false) (hr : rowType P ty = true) (cx cy : Array Value) (lx ly : List T) (hx : Vals ks lx cx.toList) (hy : Vals ks ly cy.toList) :
    (do eqGuard (if ne then .neq else .eql) ty X Y (.agg cx) (.agg cy); binOp (if ne then .neq else .eql) ty (.agg cx) (.agg cy) : Sem Value).run P w = .ok (.bool (if ne then !(LK.sameAll ks lx ly) else LK.sameAll ks lx ly)) w := by
  have h := eqOK (P := P) (10000 - d) d ty ks hk w _ _ _ _ hx hy
  rw [show 10000 - d + d = 10000 by omega] at h
  simp only [mkVal, hr, if_true, Array.toArray_toList] at h
  have h' : (Op.equal ty (.agg cx) (.agg cy)).run P w = .ok (LK.sameAll ks lx ly) w := h
  cases ne <;> simp [eqGuard, binOp, Sem.run_bind, h', Sem.run, pure, Result.andThen, program, hg]
end
end Go.Proofs.Ytaefhdklkbohmaa
/- Which operation of the machine is meant; those that only compute, all together. Generic. -/
namespace Go.Proofs.Ytaefhdklkbohmaa
open Go Go.RowKit

def okBnd (X : Option Operand) (x : Option (IntKind × Opd)) : Bool :=
  match X, x with
  | none, none => true
  | some X, some (_, x) => matO X x
  | _, _ => false
theorem okBnd_sound {X : Option Operand} {x : Option (IntKind × Opd)} (h : okBnd X x = true) : OkBound X x := by
  unfold okBnd at h
  unfold OkBound
  cases X <;> cases x <;> simp_all
def okParts (place : Nat → Option (Nat × Nat)) : List (Nat × Operand) → List (Nat × Nat × Opd) → Bool
  | [], [] => true
  | (i, X) :: Xs, (off, n, x) :: xs => place i == some (off, n) && matO X x && okParts place Xs xs
  | _, _ => false
theorem okParts_sound {place : Nat → Option (Nat × Nat)} : ∀ {Xs : List (Nat × Operand)} {xs : List (Nat × Nat × Opd)}, okParts place Xs xs = true → OkParts place Xs xs
  | [], [], _ => trivial
  | [], _ :: _, h => by simp [okParts] at h
  | _ :: _, [], h => by simp [okParts] at h
  | (i, X) :: Xs, (off, n, x) :: xs, h => by
    simp only [okParts, Bool.and_eq_true, beq_iff_eq] at h
    exact ⟨h.1.1, h.1.2, okParts_sound h.2⟩
def matVs : List Value → List T → Bool
  | [], [] => true
  | v :: vs, t :: ts => t.isLeaf && matV v t && matVs vs ts
  | _, _ => false
theorem matVs_sound {w : World} {A : Nat → Prop} : ∀ {vs : List Value} {ts : List T}, matVs vs ts = true → RS w A ts vs
  | [], [], _ => rfl
  | [], _ :: _, h => by simp [matVs] at h
  | _ :: _, [], h => by simp [matVs] at h
  | v :: vs, t :: ts, h => by
    simp only [matVs, Bool.and_eq_true] at h
    exact ⟨v, vs, rfl, h.1.1, (RT_leaf h.1.1).1 (matV_sound h.1.2), matVs_sound h.2⟩
def isSlice (P : Program) (ty sz : Nat) : Bool :=
  match P.underlying ty with
  | some (.slice e) => match P.info? e with
    | some i => i.size == sz
    | none => false
  | _ => false
theorem isSlice_sound {P : Program} {ty sz : Nat} (h : isSlice P ty sz = true) : ∃ e i, P.underlying ty = some (.slice e) ∧ P.info? e = some i ∧ i.size = sz := by
  unfold isSlice at h
  split at h
  · rename_i e he
    split at h
    · rename_i i hi
      exact ⟨e, i, he, hi, by simpa using h⟩
    · cases h
  · cases h
def isStrT (P : Program) (ty : Nat) : Bool := match P.underlying ty with | some .string => true | _ => false
theorem isStrT_sound {P : Program} {ty : Nat} (h : isStrT P ty = true) : P.underlying ty = some .string := by
  unfold isStrT at h; split at h <;> simp_all
def isBoolT (P : Program) (ty : Nat) : Bool := match P.underlying ty with | some .bool => true | _ => false
theorem isBoolT_sound {P : Program} {ty : Nat} (h : isBoolT P ty = true) : P.underlying ty = some .bool := by
  unfold isBoolT at h; split at h <;> simp_all
/-- A type of a size, a struct or an array or not. -/
def isOf (P : Program) (ty n : Nat) (ag : Bool) : Bool :=
  match P.underlying ty, P.info? ty with
  | some d, some i => d.isRow == ag && i.size == n
  | _, _ => false
theorem isOf_sound {P : Program} {ty n : Nat} {ag : Bool} (h : isOf P ty n ag = true) : ∃ d i, P.underlying ty = some d ∧ P.info? ty = some i ∧ d.isRow = ag ∧ i.size = n := by
  unfold isOf at h
  split at h
  · rename_i d i hd hi
    simp only [Bool.and_eq_true, beq_iff_eq] at h
    exact ⟨d, i, hd, hi, h.1, h.2⟩
  · cases h
/-- A struct's field: where it begins. -/
def isField (P : Program) (ty m off : Nat) : Option TypeId :=
  match P.underlying ty with
  | some (.struct fs) => match fs[m]? with
    | some f => if f.offset = off then some f.type else none
    | none => none
  | _ => none
theorem isField_sound {P : Program} {ty m off ft : Nat} (h : isField P ty m off = some ft) : ∃ fs f, P.underlying ty = some (.struct fs) ∧ fs[m]? = some f ∧ f.offset = off ∧ f.type = ft := by
  unfold isField at h
  split at h
  · rename_i fs hfs
    split at h
    · rename_i f hf
      split at h
      · rename_i ho
        exact ⟨fs, f, hfs, hf, ho, by simpa using h⟩
      · cases h
    · cases h
  · cases h
def isArr (P : Program) (ty n : Nat) : Option TypeId :=
  match P.underlying ty with
  | some (.array m e) => if m = n then some e else none
  | _ => none
theorem isArr_sound {P : Program} {ty n e : Nat} (h : isArr P ty n = some e) : P.underlying ty = some (.array n e) := by
  unfold isArr at h
  split at h
  · rename_i m e' he
    split at h
    · rename_i hm; subst hm; simp at h; subst h; exact he
    · cases h
  · cases h
/-- Where the parts of a struct or an array lie. -/
def placeOf (P : Program) (ty : Nat) : Option (Nat → Option (Nat × Nat)) :=
  match P.underlying ty with
  | some (.array _ e) => match P.info? e with
    | some ie => some fun i => some (i * ie.size, ie.size)
    | none => none
  | some (.struct fields) => match fields.toList.mapM (fun f => (P.info? f.type).map fun i => (f.offset, i.size)) with
    | some places => some fun i => places.toArray[i]?
    | none => none
  | _ => none
theorem placeOf_sound {P : Program} {ty : Nat} {place : Nat → Option (Nat × Nat)} {it : TypeInfo} {z : Value} (h : placeOf P ty = some place) (hi : P.info? ty = some it) (hz : it.zero = some z) : ∀ ps, P.built ty ps = Instr.fill place z.cells ps := by
  intro ps
  unfold placeOf at h
  unfold Program.built
  split at h
  · rename_i n e hu
    split at h
    · rename_i ie hie
      simp only [Option.some.injEq] at h
      subst h
      simp only [hi, hu, hz, hie]
    · cases h
  · rename_i fs hu
    split at h
    · rename_i places hp
      simp only [Option.some.injEq] at h
      subst h
      simp only [hi, hu, hz, hp]
    · cases h
  · cases h
def zeroOf (P : Program) (ty : Nat) : Option Value := (P.info? ty).bind (·.zero)
theorem zeroOf_sound {P : Program} {ty : Nat} {z : Value} (h : zeroOf P ty = some z) : ∃ it, P.info? ty = some it ∧ it.zero = some z := by
  unfold zeroOf at h
  simpa [Option.bind_eq_some_iff] using h

def isLen (o : Oper) : Option (Operand × TypeId) :=
  match o.op with
  | .call c => match c.callee with
    | .builtin .len => match c.args.toList, c.argTypes.toList with
      | [X], [ty] => some (X, ty)
      | _, _ => none
    | _ => none
  | _ => none
/-- Is this operation of the machine meant? -/
def mat (P : Program) (o : Oper) : AOp → Bool
  | .mv x => match o.op with
    | .move X => matO X x
    | .assign X => matO X x
    | _ => false
  | .bin op _ x y => match o.op with
    | .binOp op' _ X Y _ => op == op' && !BinOp.isShift op && matO X x && matO Y y
    | _ => false
  | .shf op _ _ x y => match o.op with
    | .binOp op' _ X Y _ => op == op' && matO X x && matO Y y
    | _ => false
  | .beq ne x y => match o.op with
    | .binOp op' ty X Y _ => op' == (if ne then .neq else .eql) && isBoolT P ty && matO X x && matO Y y
    | _ => false
  | .sbin op x y => match o.op with
    | .binOp op' _ X Y _ => op == op' && matO X x && matO Y y
    | _ => false
  | .aeq ne ks x y => match o.op with
    | .binOp op' ty X Y _ => op' == (if ne then .neq else .eql) && eqK P 8 ty == some ks && !P.eqGuardType P.depth ty && rowType P ty && matO X x && matO Y y
    | _ => false
  | .snil _ _ => false
  | .pick c x y => match o.op with
    | .pick C X Y => matO C c && matO X x && matO Y y
    | _ => false
  | .not x => match o.op with
    | .unOp op _ X => op == .not && matO X x
    | _ => false
  | .neg _ x => match o.op with
    | .unOp op _ X => op == .neg && matO X x
    | _ => false
  | .cpl _ x => match o.op with
    | .unOp op _ X => op == .xor && matO X x
    | _ => false
  | .conv k _ x => match o.op with
    | .convert src dst X => matO X x && (match P.underlying src, P.underlying dst with | some _, some (.int k') => k == k' | _, _ => false)
    | _ => false
  | .fld off n ag x => match o.op with
    | .field ty X m => matO X x && (match isField P ty m off with | some ft => isOf P ft n ag | none => false)
    | _ => false
  | .fadr off x => match o.op with
    | .fieldAddr ty X m => matO X x && (match isField P ty m off with | some ft => (match P.info? ft with | some i => decide (0 < i.size) | none => false) | none => false)
    | _ => false
  | .iadr sz _ x i => match o.op with
    | .indexAddr ty X Y => matO X x && matO Y i && isSlice P ty sz
    | _ => false
  | .aadr sz n _ x i => match o.op with
    | .indexAddr ty X Y => matO X x && matO Y i && (match isArr P ty n with | some e => (match P.info? e with | some i => i.size == sz | none => false) | none => false)
    | _ => false
  | .load n ag x => match o.op with
    | .load ty X => matO X x && isOf P ty n ag
    | _ => false
  | .idxA sz n ag _ x i => match o.op with
    | .index ty X Y => matO X x && matO Y i && (match isArr P ty n with | some e => isOf P e sz ag | none => false)
    | _ => false
  | .idxS _ x i => match o.op with
    | .index ty X Y => matO X x && matO Y i && isStrT P ty
    | _ => false
  | .slc sz x lo hi => match o.op with
    | .slice ty X Lo Hi mx => mx.isNone && matO X x && okBnd Lo lo && okBnd Hi hi && isSlice P ty sz
    | _ => false
  | .slcS x lo hi => match o.op with
    | .slice ty X Lo Hi mx => mx.isNone && matO X x && okBnd Lo lo && okBnd Hi hi && isStrT P ty
    | _ => false
  | .len sz x => match isLen o with
    | some (X, ty) => matO X x && isSlice P ty sz
    | none => false
  | .lenS x => match isLen o with
    | some (X, ty) => matO X x && isStrT P ty
    | none => false
  | .bld zero ps => match o.op with
    | .build ty parts => match placeOf P ty, zeroOf P ty with
      | some place, some z => okParts place parts.toList ps && matVs z.cells.toList zero
      | _, _ => false
    | _ => false
  | .ext x i => match o.op with
    | .extract X j => i == j && matO X x
    | _ => false
  | .nilc x => match o.op with
    | .nilCheck X => matO X x
    | _ => false

theorem isLen_sound {o : Oper} {X : Operand} {ty : TypeId} (h : isLen o = some (X, ty)) : o.op = .call { callee := .builtin .len, args := #[X], argTypes := #[ty] } := by
  unfold isLen at h
  split at h
  · rename_i c hc
    split at h
    · rename_i hcal
      split at h
      · rename_i X' ty' h1 h2
        simp only [Option.some.injEq, Prod.mk.injEq] at h
        obtain ⟨rfl, rfl⟩ := h
        obtain ⟨cal, args, tys⟩ := c
        simp only at hcal h1 h2
        have e1 : args = #[X'] := Array.toList_inj.1 h1
        have e2 : tys = #[ty'] := Array.toList_inj.1 h2
        rw [hc, hcal, e1, e2]
      · cases h
    · cases h
  · cases h

section
variable {P : Program} {w0 : World} {I : Nat → Prop} {N : Nat} {σ τ : Nat → W} {fp : Nat → List Nat} {a : Act} {w : World}
theorem exec_v {o : Oper} {s : Sem Value} {c : Value} (h : execOp a.eval o = (do pure (Next.value (← s)))) (hs : s.run P w = .ok c w) : (execOp a.eval o).run P w = .ok (.value c) w := by
  rw [h]; exact run_v hs

/-- Operations that only compute: the machine does what is told. -/
theorem pure_sound (h : Rel w0 I N σ fp a w) (hs : Sub τ σ) (o : Oper) (ao : AOp) (hm : mat P o ao = true) (hc : (pev true τ ao).1) :
    ∃ c, (execOp a.eval o).run P w = .ok (.value c) w ∧ (pev true τ ao).2.isRoot = false ∧ WW w (Free w fp) σ (Act.at a) [] (pev true τ ao).2 c := by
  cases ao with
  | mv x =>
    simp only [mat] at hm
    simp only [pev] at hc ⊢
    split at hm
    · rename_i X ho
      obtain ⟨h1, h2⟩ := evG_sound h hs hm hc
      exact ⟨_, by simp [execOp, ho, Sem.run, pure], h1, h2⟩
    · rename_i X ho
      obtain ⟨h1, h2⟩ := evG_sound h hs hm hc
      exact ⟨_, by simp [execOp, ho, Sem.run, pure], h1, h2⟩
    · cases hm
  | bin op k x y =>
    simp only [mat] at hm
    split at hm
    · rename_i op' ty X Y yt ho
      simp only [Bool.and_eq_true, beq_iff_eq, Bool.not_eq_true'] at hm
      obtain ⟨⟨⟨rfl, h2⟩, h3⟩, h4⟩ := hm
      simp only [pev] at hc ⊢
      obtain ⟨c1, c2, c3, c4, c5⟩ := hc
      have hx := RT_int (evT_sound h hs h3 c1) c3
      have hy := RT_int (evT_sound h hs h4 c2) c4
      obtain ⟨c, e1, e2⟩ := run_bin (P := P) (w := w) (A := Free w fp) op k ty X Y _ _ h2 c5
      rw [← hx, ← hy] at e1
      exact ⟨c, exec_v (by simp only [execOp, ho]) e1, rfl, rfl, e2⟩
    · cases hm
  | shf op k yk x y =>
    simp only [mat] at hm
    split at hm
    · rename_i op' ty X Y yt ho
      simp only [Bool.and_eq_true, beq_iff_eq] at hm
      obtain ⟨⟨rfl, h3⟩, h4⟩ := hm
      simp only [pev] at hc ⊢
      obtain ⟨c1, c2, c3, c4, c5⟩ := hc
      have hx := RT_int (evT_sound h hs h3 c1) c3
      have hy := RT_int (evT_sound h hs h4 c2) c4
      obtain ⟨c, e1, e2⟩ := run_shf (P := P) (w := w) (A := Free w fp) op k yk ty X Y _ _ c5
      rw [← hx, ← hy] at e1
      exact ⟨c, exec_v (by simp only [execOp, ho]) e1, rfl, rfl, e2⟩
    · cases hm
  | beq ne x y =>
    simp only [mat] at hm
    split at hm
    · rename_i op' ty X Y yt ho
      simp only [Bool.and_eq_true, beq_iff_eq] at hm
      obtain ⟨⟨⟨rfl, h2⟩, h3⟩, h4⟩ := hm
      simp only [pev] at hc ⊢
      obtain ⟨c1, c2, c3, c4⟩ := hc
      have hx := RT_bool (evT_sound h hs h3 c1) c3
      have hy := RT_bool (evT_sound h hs h4 c2) c4
      have e1 := run_beq (P := P) (w := w) ne ty X Y (evT true τ x).2.toBool (evT true τ y).2.toBool (isBoolT_sound h2)
      rw [← hx, ← hy] at e1
      exact ⟨_, exec_v (by simp only [execOp, ho]) e1, rfl, rfl, RT_mkBool (w := w) (A := Free w fp) _⟩
    · cases hm
  | sbin op x y =>
    simp only [mat] at hm
    split at hm
    · rename_i op' ty X Y yt ho
      simp only [Bool.and_eq_true, beq_iff_eq] at hm
      obtain ⟨⟨rfl, h3⟩, h4⟩ := hm
      simp only [pev] at hc ⊢
      obtain ⟨c1, c2, c3, c4, c5⟩ := hc
      have hx := RT_str (evT_sound h hs h3 c1) c3
      have hy := RT_str (evT_sound h hs h4 c2) c4
      obtain ⟨c, e1, e2⟩ := run_sbin (P := P) (w := w) (A := Free w fp) op ty X Y _ _ c5
      rw [← hx, ← hy] at e1
      exact ⟨c, exec_v (by simp only [execOp, ho]) e1, rfl, rfl, e2⟩
    · cases hm
  | aeq ne ks x y =>
    simp only [mat] at hm
    split at hm
    · rename_i op' ty X Y yt ho
      simp only [Bool.and_eq_true, beq_iff_eq, Bool.not_eq_true'] at hm
      obtain ⟨⟨⟨⟨⟨rfl, h2⟩, h3⟩, h4⟩, h5⟩, h6⟩ := hm
      simp only [pev] at hc ⊢
      obtain ⟨c1, c2, c3, c4, c5, c6⟩ := hc
      have hx := evT_sound h hs h5 c1
      have hy := evT_sound h hs h6 c2
      rw [T.isAgg_eq c3] at hx
      rw [T.isAgg_eq c4] at hy
      obtain ⟨cx, e1, e2⟩ := hx
      obtain ⟨cy, e3, e4⟩ := hy
      have e5 := run_aeq (P := P) w ne ty X Y ks 8 (by omega) h2 h3 h4 cx cy _ _ (Vals.of_RS c5 e2) (Vals.of_RS c6 e4)
      rw [← e1, ← e3] at e5
      exact ⟨_, exec_v (by simp only [execOp, ho]) e5, rfl, rfl, RT_mkBool (w := w) (A := Free w fp) _⟩
    · cases hm
  | snil ne x => simp [mat] at hm
  | pick c x y =>
    simp only [mat] at hm
    split at hm
    · rename_i C X Y ho
      simp only [Bool.and_eq_true] at hm
      exact pick_sound h hs hm.1.1 hm.1.2 hm.2 o ho hc
    · cases hm
  | not x =>
    simp only [mat] at hm
    split at hm
    · rename_i op' ty X ho
      simp only [Bool.and_eq_true, beq_iff_eq] at hm
      obtain ⟨rfl, h3⟩ := hm
      simp only [pev] at hc ⊢
      obtain ⟨c1, c2⟩ := hc
      have hx := RT_bool (evT_sound h hs h3 c1) c2
      exact ⟨_, exec_v (s := Op.unary .not (a.eval X)) (by simp only [execOp, ho]) (by rw [hx]; exact run_not _), rfl, rfl, RT_mkBool (w := w) (A := Free w fp) _⟩
    · cases hm
  | neg k x =>
    simp only [mat] at hm
    split at hm
    · rename_i op' ty X ho
      simp only [Bool.and_eq_true, beq_iff_eq] at hm
      obtain ⟨rfl, h3⟩ := hm
      simp only [pev] at hc ⊢
      obtain ⟨c1, c2⟩ := hc
      have hx := RT_int (evT_sound h hs h3 c1) c2
      exact ⟨_, exec_v (s := Op.unary .neg (a.eval X)) (by simp only [execOp, ho]) (by rw [hx]; exact run_neg _ _), rfl, rfl, RT_mkInt (w := w) (A := Free w fp) _ _⟩
    · cases hm
  | cpl k x =>
    simp only [mat] at hm
    split at hm
    · rename_i op' ty X ho
      simp only [Bool.and_eq_true, beq_iff_eq] at hm
      obtain ⟨rfl, h3⟩ := hm
      simp only [pev] at hc ⊢
      obtain ⟨c1, c2⟩ := hc
      have hx := RT_int (evT_sound h hs h3 c1) c2
      obtain ⟨c, e1, e2⟩ := run_cpl (P := P) (w := w) (A := Free w fp) k (evT true τ x).2.toInt
      rw [← hx] at e1
      exact ⟨_, exec_v (by simp only [execOp, ho]) e1, rfl, rfl, e2⟩
    · cases hm
  | conv k sk x =>
    simp only [mat] at hm
    split at hm
    · rename_i src dst X ho
      simp only [Bool.and_eq_true] at hm
      obtain ⟨h3, h4⟩ := hm
      simp only [pev] at hc ⊢
      obtain ⟨c1, c2⟩ := hc
      have hx := RT_int (evT_sound h hs h3 c1) c2
      split at h4
      · rename_i u k' hu hd
        simp only [beq_iff_eq] at h4
        subst h4
        exact ⟨_, exec_v (s := Go.convert src dst (a.eval X)) (by simp only [execOp, ho]) (by rw [hx]; exact run_conv src dst k sk _ hu hd), rfl, rfl, RT_mkInt (w := w) (A := Free w fp) _ _⟩
      · cases h4
    · cases hm
  | fld off n ag x =>
    simp only [mat] at hm
    split at hm
    · rename_i ty X m ho
      simp only [Bool.and_eq_true] at hm
      obtain ⟨h3, h4⟩ := hm
      split at h4
      · rename_i ft hft
        obtain ⟨fs, f, e1, e2, e3, e4⟩ := isField_sound hft
        obtain ⟨d, i, e5, e6, e7, e8⟩ := isOf_sound h4
        subst e4
        obtain ⟨c, g1, g2⟩ := fld_sound (P := P) h hs h3 ty m fs f d i e1 e2 e5 e7 e6 e8 e3 hc
        exact ⟨c, exec_v (by simp only [execOp, ho]) g1, g2⟩
      · cases h4
    · cases hm
  | fadr off x =>
    simp only [mat] at hm
    split at hm
    · rename_i ty X m ho
      simp only [Bool.and_eq_true] at hm
      obtain ⟨h3, h4⟩ := hm
      split at h4
      · rename_i ft hft
        obtain ⟨fs, f, e1, e2, e3, e4⟩ := isField_sound hft
        subst e4
        split at h4
        · rename_i i hi
          obtain ⟨c, g1, g2⟩ := fadr_sound (P := P) h hs h3 ty m fs f i e1 e2 hi (by simpa using h4) e3 hc
          exact ⟨c, exec_v (by simp only [execOp, ho]) g1, g2⟩
        · cases h4
      · cases h4
    · cases hm
  | iadr sz k x y =>
    simp only [mat] at hm
    split at hm
    · rename_i ty X Y ho
      simp only [Bool.and_eq_true] at hm
      obtain ⟨⟨h3, h4⟩, h5⟩ := hm
      obtain ⟨e, i, e1, e2, e3⟩ := isSlice_sound h5
      obtain ⟨c, g1, g2⟩ := iadr_sound (P := P) h hs h3 h4 ty e i e1 e2 e3 hc
      exact ⟨c, exec_v (by simp only [execOp, ho]) g1, g2⟩
    · cases hm
  | aadr sz n k x y =>
    simp only [mat] at hm
    split at hm
    · rename_i ty X Y ho
      simp only [Bool.and_eq_true] at hm
      obtain ⟨⟨h3, h4⟩, h5⟩ := hm
      split at h5
      · rename_i e he
        split at h5
        · rename_i i hi
          obtain ⟨c, g1, g2⟩ := aadr_sound (P := P) h hs h3 h4 ty e i (isArr_sound he) hi (by simpa using h5) hc
          exact ⟨c, exec_v (by simp only [execOp, ho]) g1, g2⟩
        · cases h5
      · cases h5
    · cases hm
  | load n ag x =>
    simp only [mat] at hm
    split at hm
    · rename_i ty X ho
      simp only [Bool.and_eq_true] at hm
      obtain ⟨h3, h4⟩ := hm
      obtain ⟨d, i, e1, e2, e3, e4⟩ := isOf_sound h4
      obtain ⟨c, g1, g2⟩ := load_sound (P := P) h hs h3 ty d i e1 e3 e2 e4 hc
      exact ⟨c, exec_v (by simp only [execOp, ho]) g1, g2⟩
    · cases hm
  | idxA sz n ag k x y =>
    simp only [mat] at hm
    split at hm
    · rename_i ty X Y ho
      simp only [Bool.and_eq_true] at hm
      obtain ⟨⟨h3, h4⟩, h5⟩ := hm
      split at h5
      · rename_i e he
        obtain ⟨d, i, e1, e2, e3, e4⟩ := isOf_sound h5
        obtain ⟨c, g1, g2⟩ := idxA_sound (P := P) h hs h3 h4 ty e d i (isArr_sound he) e1 e3 e2 e4 hc
        exact ⟨c, exec_v (by simp only [execOp, ho]) g1, g2⟩
      · cases h5
    · cases hm
  | idxS k x y =>
    simp only [mat] at hm
    split at hm
    · rename_i ty X Y ho
      simp only [Bool.and_eq_true] at hm
      obtain ⟨⟨h3, h4⟩, h5⟩ := hm
      simp only [pev, idxT] at hc ⊢
      obtain ⟨c1, c2, c3, ⟨c4, c5⟩, c6⟩ := hc
      have hx := RT_str (evT_sound h hs h3 c1) c3
      have hy := RT_int (evT_sound h hs h4 c2) c4
      exact ⟨_, exec_v (s := Instr.index ty (a.eval X) (a.eval Y)) (by simp only [execOp, ho]) (by rw [hx, hy]; exact run_idxS ty k _ _ (isStrT_sound h5) c5 c6), rfl, rfl, RT_mkInt (w := w) (A := Free w fp) _ _⟩
    · cases hm
  | slc sz x lo hi =>
    simp only [mat] at hm
    split at hm
    · rename_i ty X Lo Hi mx ho
      simp only [Bool.and_eq_true, Option.isNone_iff_eq_none] at hm
      obtain ⟨⟨⟨⟨rfl, h3⟩, h4⟩, h5⟩, h6⟩ := hm
      obtain ⟨e, i, e1, e2, e3⟩ := isSlice_sound h6
      obtain ⟨c, g1, g2⟩ := slc_sound (P := P) h hs h3 (okBnd_sound h4) (okBnd_sound h5) ty e i e1 e2 e3 hc
      exact ⟨c, exec_v (by simp only [execOp, ho, Option.map_none]) g1, g2⟩
    · cases hm
  | slcS x lo hi =>
    simp only [mat] at hm
    split at hm
    · rename_i ty X Lo Hi mx ho
      simp only [Bool.and_eq_true, Option.isNone_iff_eq_none] at hm
      obtain ⟨⟨⟨⟨rfl, h3⟩, h4⟩, h5⟩, h6⟩ := hm
      simp only [pev] at hc ⊢
      obtain ⟨c1, c2, c3, c4, c5, c6⟩ := hc
      have hx := RT_str (evT_sound h hs h3 c1) c2
      have g1 := run_sliceAt_str (P := P) (w := w) ty (isStrT_sound h6) (evT true τ x).2.toStr _ _ _ _ (bound_sound h hs (okBnd_sound h4) 0 c3) (bound_sound h hs (okBnd_sound h5) _ c4) c5 c6
      rw [← hx] at g1
      exact ⟨_, exec_v (by simp only [execOp, ho, Option.map_none]) g1, rfl, rfl, RT_mkStr (w := w) (A := Free w fp) _⟩
    · cases hm
  | len sz x =>
    simp only [mat] at hm
    split at hm
    · rename_i X ty ho
      simp only [Bool.and_eq_true] at hm
      obtain ⟨h3, h4⟩ := hm
      obtain ⟨e, i, e1, e2, e3⟩ := isSlice_sound h4
      simp only [pev] at hc ⊢
      obtain ⟨c1, c2⟩ := hc
      obtain ⟨_, hx⟩ := evG_sound h hs h3 c1
      obtain ⟨q, cap, g1, g2⟩ := lenW_sound h hs hx c2
      have g3 := run_len (P := P) (w := w) ty e o.type e1 q (lenW true τ sz (evG true τ x).2).2 cap
      refine ⟨_, ?_, rfl, rfl, RT_mkInt (w := w) (A := Free w fp) _ _⟩
      simp only [execOp, isLen_sound ho, resolve, invoke, builtin, Sem.run_bind, Sem.run_pure, Result.andThen_ok, List.map_toArray, List.map_cons, List.map_nil, g1, g3]
    · cases hm
  | lenS x =>
    simp only [mat] at hm
    split at hm
    · rename_i X ty ho
      simp only [Bool.and_eq_true] at hm
      obtain ⟨h3, h4⟩ := hm
      simp only [pev] at hc ⊢
      obtain ⟨c1, c2⟩ := hc
      have hx := RT_str (evT_sound h hs h3 c1) c2
      have g3 := run_lenS (P := P) (w := w) ty (evT true τ x).2.toStr o.type (isStrT_sound h4)
      refine ⟨_, ?_, rfl, rfl, RT_mkInt (w := w) (A := Free w fp) _ _⟩
      simp only [execOp, isLen_sound ho, resolve, invoke, builtin, Sem.run_bind, Sem.run_pure, Result.andThen_ok, List.map_toArray, List.map_cons, List.map_nil, hx, g3]
    · cases hm
  | bld zero ps =>
    simp only [mat] at hm
    split at hm
    · rename_i ty parts ho
      split at hm
      · rename_i place z hp hz
        simp only [Bool.and_eq_true] at hm
        obtain ⟨it, e1, e2⟩ := zeroOf_sound hz
        obtain ⟨c, g1, g2⟩ := bld_sound (P := P) h hs ty parts zero ps z (matVs_sound hm.2) place (placeOf_sound hp e1 e2) (okParts_sound hm.1) hc
        exact ⟨c, exec_v (by simp only [execOp, ho]) g1, g2⟩
      · cases hm
    · cases hm
  | ext x i =>
    simp only [mat] at hm
    split at hm
    · rename_i X j ho
      simp only [Bool.and_eq_true, beq_iff_eq] at hm
      obtain ⟨rfl, h3⟩ := hm
      obtain ⟨c, g1, g2⟩ := ext_sound (P := P) h hs h3 hc
      exact ⟨c, exec_v (by simp only [execOp, ho]) g1, g2⟩
    · cases hm
  | nilc x =>
    simp only [mat] at hm
    split at hm
    · rename_i X ho
      exact nilc_sound (P := P) h hs hm o ho hc
    · cases hm
end
end Go.Proofs.Ytaefhdklkbohmaa
/- Operations that make something new: a variable, a slice's row. Generic. -/
namespace Go.Proofs.Ytaefhdklkbohmaa
open Go Go.RowKit

/-- The row of 'n' elements, out of its leaves. -/
def chunk (sz : Nat) : Nat → List T → List (List T)
  | 0, _ => []
  | n + 1, ts => ts.take sz :: chunk sz n (ts.drop sz)
def mkElem (ag : Bool) (l : List T) : T := if ag then .agg l else l.headD default
def rowT (ag : Bool) (sz n : Nat) (ts : List T) : List T := (chunk sz n ts).map (mkElem ag)
theorem chunk_len (sz : Nat) : ∀ (n : Nat) (ts : List T), (chunk sz n ts).length = n
  | 0, _ => rfl
  | n + 1, ts => by simp [chunk, chunk_len]
def shs (n : Nat) : List K := List.replicate n .sh

section
variable {w : World} {A : Nat → Prop}
theorem RS.take' : ∀ {ts : List T} {cs : List Value} (n : Nat), RS w A ts cs → RS w A (ts.take n) (cs.take n) ∧ RS w A (ts.drop n) (cs.drop n)
  | ts, cs, 0, h => ⟨rfl, h⟩
  | [], cs, n + 1, h => by
    simp only [RS] at h
    subst h
    exact ⟨rfl, rfl⟩
  | t :: ts, cs, n + 1, h => by
    obtain ⟨c, cs', rfl, h1, h2, h3⟩ := h
    obtain ⟨h4, h5⟩ := RS.take' n h3
    exact ⟨⟨c, cs'.take n, rfl, h1, h2, h4⟩, h5⟩
theorem RS.allLeaf : ∀ {ts : List T} {cs : List Value}, RS w A ts cs → ∀ t ∈ ts, t.isLeaf = true
  | [], _, _ => by simp
  | t :: ts, cs, h => by
    obtain ⟨c, cs', rfl, h1, h2, h3⟩ := h
    simpa [h1] using RS.allLeaf h3
theorem ROs_sh : ∀ {ts : List T} {cs : List Value}, RS w A ts cs → ROs w A (shs ts.length) ts cs []
  | [], cs, h => by simpa [ROs, shs, RS] using h
  | t :: ts, cs, h => by
    obtain ⟨c, cs', rfl, h1, h2, h3⟩ := h
    simp only [List.length_cons, shs, List.replicate_succ, ROs]
    exact ⟨t, ts, c, cs', [], [], rfl, rfl, rfl, h1, by simpa [RO] using (R0_leaf h1).2 h2, ROs_sh h3⟩
theorem mkElem_leaves {ag : Bool} {l : List T} (h : ag = false → l.length = 1) (hl : ∀ t ∈ l, t.isLeaf = true) : (mkElem ag l).leaves = l := by
  cases ag with
  | true => rfl
  | false =>
    obtain ⟨t, rfl⟩ := List.length_eq_one_iff.1 (h rfl)
    exact leaf_leaves (hl t (by simp))
theorem each_chunk {ag : Bool} {sz : Nat} (hag : ag = false → sz = 1) : ∀ (n : Nat) {ts : List T} {cs : List Value}, RS w A ts cs → ts.length = n * sz →
    Each (fun ts cs F => ROs w A (shs sz) ts cs F) sz (rowT ag sz n ts) cs []
  | 0, ts, cs, h, hl => by
    have : ts = [] := List.length_eq_zero_iff.1 (by simpa using hl)
    subst this
    simpa [rowT, chunk, Each, RS] using h
  | n + 1, ts, cs, h, hl => by
    rw [Nat.succ_mul] at hl
    obtain ⟨h1, h2⟩ := RS.take' sz h
    have l1 : (ts.take sz).length = sz := by simp; omega
    refine ⟨cs.take sz, cs.drop sz, [], [], by simp, ?_, rfl, ?_, each_chunk hag n h2 (by simp; omega)⟩
    · rw [← h1.len, l1]
    · rw [mkElem_leaves (fun e => by rw [l1]; exact hag e) h1.allLeaf]
      simpa only [l1] using ROs_sh h1
theorem rowT_len {ag : Bool} {sz n : Nat} {ts : List T} : (rowT ag sz n ts).length = n := by simp [rowT, chunk_len]
theorem WVs_any {σ : Nat → W} {tm : Nat → Value} : ∀ (cs : List Value), WVs w A σ tm (List.replicate cs.length (.t .any)) cs
  | [] => rfl
  | c :: cs => ⟨c, cs, rfl, by simp [WV, RT, R0, RL], WVs_any cs⟩
end

section
variable {P : Program} {w0 : World} {I : Nat → Prop} {N : Nat} {σ τ : Nat → W} {fp : Nat → List Nat} {a : Act} {w w' : World}
theorem Free.put {d : Nat} {F : List Nat} (hext : Ext w w') (hF : ∀ b ∈ F, w.heap.size ≤ b) {b : Nat} (hb : Free w fp b) : Free w' (upd fp d F) b ∧ w'.heap[b]? = w.heap[b]? := by
  refine ⟨⟨Nat.lt_of_lt_of_le hb.1 hext.size, fun s hs => ?_⟩, hext.block b hb.1⟩
  by_cases e : s = d
  · subst e; rw [upd_same] at hs; have := hF b hs; have := hb.1; omega
  · rw [upd_ne _ _ _ e] at hs; exact hb.2 s hs

/-- Nothing names the slot. -/
def NoName (σ : Nat → W) (d : Nat) : Prop := ∀ s, s ≠ d → (σ s).names d = false

theorem alloc_last (w : World) (o : Obj) : (w.alloc o).heap[w.heap.size]? = some o := (MapKept.heap_alloc w _).1
/-- A new variable. -/
theorem Rel.newBox (h : Rel w0 I N σ fp a w) {d : Nat} (hd : d < N) (hn : NoName σ d) {ks : List K} {t : T} {cs : Array Value} (e : TypeId) (ht : ∀ us, t ≠ .tup us)
    (hr : ∀ (w' : World) (A' : Nat → Prop), (∀ b, Free w fp b → A' b ∧ w'.heap[b]? = w.heap[b]?) → ROs w' A' ks t.leaves cs.toList []) :
    Rel w0 I N (upd σ d (.own (.box ks) t)) (upd fp d [w.heap.size]) (a.put (some d) (.pointer (some ⟨w.heap.size, 0, none⟩))) (w.alloc (.cells cs e)) := by
  have hext := Ext.alloc w (.cells cs e)
  refine h.put hd _ _ _ hext ?_ (by simp) (fun b hb => by simp at hb; subst hb; simp) (.inr hn)
  simp only [WW, RO]
  refine .inr ⟨w.heap.size, cs, e, [], rfl, alloc_last w _, hr _ _ (fun b hb => Free.put hext (by simp) hb), rfl, ht⟩
/-- A new row. -/
theorem Rel.newRow (h : Rel w0 I N σ fp a w) {d : Nat} (hd : d < N) (hn : NoName σ d) {ks : List K} {xs : List T} {cs : Array Value} (e : TypeId) (hsz : cs.size = xs.length * ks.length) (hmax : xs.length ≤ maxLen)
    (hr : ∀ (w' : World) (A' : Nat → Prop), (∀ b, Free w fp b → A' b ∧ w'.heap[b]? = w.heap[b]?) → Each (fun ts cs F => ROs w' A' ks ts cs F) ks.length xs cs.toList []) :
    Rel w0 I N (upd σ d (.own (.sl ks) (.sl ks.length xs))) (upd fp d [w.heap.size]) (a.put (some d) (.slice (some ⟨w.heap.size, 0, none⟩) xs.length xs.length)) (w.alloc (.cells cs e)) := by
  have hext := Ext.alloc w (.cells cs e)
  refine h.put hd _ _ _ hext ?_ (by simp) (fun b hb => by simp at hb; subst hb; simp) (.inr hn)
  simp only [WW, RO]
  refine .inr ⟨xs, rfl, .inr ⟨w.heap.size, 0, xs.length, cs, e, [], rfl, Nat.le_refl _, hmax, alloc_last w _, by simpa using hsz.symm, ?_, rfl⟩⟩
  simp only [List.drop_zero]
  rw [List.take_of_length_le (by simp; omega)]
  exact hr _ _ (fun b hb => Free.put hext (by simp) hb)

theorem run_alloc' (w : World) (ty : TypeId) (z : Value) (hz : zeroOf P ty = some z) : (Instr.alloc ty true (.tuple #[])).run P w = .ok (.pointer (some ⟨w.heap.size, 0, none⟩)) (w.alloc (.cells z.cells ty)) := by
  obtain ⟨it, h1, h2⟩ := zeroOf_sound hz
  simp [Instr.alloc, zeroValue, typeInfo, h1, h2, newVar, newRow]
theorem run_box' (w : World) (ty : TypeId) (v : Value) : (Instr.box ty v).run P w = .ok (.pointer (some ⟨w.heap.size, 0, none⟩)) (w.alloc (.cells v.cells ty)) := by
  simp [Instr.box, newVar, newRow]
theorem run_buildSlice' (w : World) (t e : TypeId) (len : Nat) (parts : Array (Nat × Value)) (cells : Array Value) (ie : TypeInfo) (z : Value)
    (hu : P.underlying t = some (.slice e)) (hie : P.info? e = some ie) (hz : ie.zero = some z) (hsmall : ¬ len * ie.size > 2 ^ 24)
    (h : Instr.fill (fun i => some (i * ie.size, ie.size)) ((Array.range (len * ie.size)).map ((if len * ie.size = 0 then #[] else z.cells)[· % (if len * ie.size = 0 then #[] else z.cells).size]!)) parts.toList = some cells) :
    (Instr.buildSlice t len parts).run P w = .ok (.slice (some ⟨w.heap.size, 0, none⟩) len len) (w.alloc (.cells cells e)) := by
  by_cases h0 : len * ie.size = 0
  · simp only [h0, if_true] at h
    simp at h
    simp [Instr.buildSlice, run_underlying hu, sizeOf, typeInfo, zeroValue, hie, hz, h0, h, newRow]
  · simp only [h0, if_false] at h
    simp [Instr.buildSlice, run_underlying hu, sizeOf, typeInfo, zeroValue, hie, hz, hsmall, h0, h, newRow]
end
end Go.Proofs.Ytaefhdklkbohmaa
/- Operations that make something new, by their operands. Generic. -/
namespace Go.Proofs.Ytaefhdklkbohmaa
open Go Go.RowKit

/-- The operation leads to a state that is told so. -/
def Does (P : Program) (w0 : World) (I : Nat → Prop) (N : Nat) (o : Oper) (a : Act) (w : World) (σ' : Nat → W) : Prop :=
  ∀ (K : Act → World → Prop) (Q : Exit → Act → World → Prop), (∀ fp' a' w', Rel w0 I N σ' fp' a' w' → K a' w') → o.wp P a w K Q

def matZ : List K → List T → List Value → Bool
  | [], [], [] => true
  | .sh :: ks, t :: ts, v :: vs => t.isLeaf && matV v t && matZ ks ts vs
  | .sl ks' :: ks, .sl n [] :: ts, .slice none 0 0 :: vs => n == ks'.length && matZ ks ts vs
  | _, _, _ => false
theorem matZ_sound {w : World} {A : Nat → Prop} : ∀ {ks : List K} {ts : List T} {vs : List Value}, matZ ks ts vs = true → ROs w A ks ts vs [] := by
  intro ks
  induction ks with
  | nil => intro ts vs h; cases ts <;> cases vs <;> simp_all [matZ, ROs]
  | cons k ks ih =>
    intro ts vs h
    unfold matZ at h
    split at h
    · rename_i h1; cases h1
    · rename_i h1
      simp only [Bool.and_eq_true] at h
      injection h1 with e1 e2
      subst e1; subst e2
      simp only [ROs]
      exact ⟨_, _, _, _, [], [], rfl, rfl, rfl, h.1.1, by simpa [RO] using (R0_leaf h.1.1).2 ((RT_leaf h.1.1).1 (matV_sound h.1.2)), ih h.2⟩
    · rename_i h1
      simp only [Bool.and_eq_true, beq_iff_eq] at h
      injection h1 with e1 e2
      subst e1; subst e2
      simp only [ROs]
      refine ⟨_, _, _, _, [], [], rfl, rfl, rfl, rfl, ?_, ih h.2⟩
      simp only [RO]
      exact .inr ⟨[], by rw [h.1], .inl (by simp)⟩
    · cases h

theorem t_cells {w : World} {A : Nat → Prop} {t : T} {v : Value} (hs : t.solid = true) (h : RT w A t v) : RS w A t.leaves v.cells.toList := by
  by_cases hl : t.isLeaf = true
  · rw [(solid_cells hl hs h).1, leaf_leaves hl]
    exact ⟨v, [], rfl, hl, (RT_leaf hl).1 h, rfl⟩
  · cases t with
    | agg ts =>
      obtain ⟨cs', rfl, h6⟩ := h
      exact h6
    | tup ts => simp [T.solid] at hs
    | _ => simp [T.isLeaf] at hl

section
variable {P : Program} {w0 : World} {I : Nat → Prop} {N : Nat} {σ τ : Nat → W} {fp : Nat → List Nat} {a : Act} {w : World}
theorem does_value {o : Oper} {σ' : Nat → W} {c : Value} {w' : World} (hr : (execOp a.eval o).run P w = .ok (.value c) w') {fp' : Nat → List Nat} (h : Rel w0 I N σ' fp' (a.put o.dst c) w') : Does P w0 I N o a w σ' := by
  intro K Q hK
  unfold Oper.wp
  rw [hr]
  exact hK _ _ _ h
theorem exec_vv {o : Oper} {s : Sem Value} {c : Value} {w' : World} (h : execOp a.eval o = (do pure (Next.value (← s)))) (hs : s.run P w = .ok c w') : (execOp a.eval o).run P w = .ok (.value c) w' := by
  rw [h, Sem.run_bind, hs]; rfl

theorem pure_does (h : Rel w0 I N σ fp a w) (hs : Sub τ σ) (o : Oper) {d : Nat} (hd : o.dst = some d) (hN : d < N) (ao : AOp) (hm : mat P o ao = true) (hc : (pev true τ ao).1) :
    Does P w0 I N o a w (upd σ d (pev true τ ao).2) := by
  obtain ⟨c, h1, h2, h3⟩ := pure_sound h hs o ao hm hc
  refine does_value h1 (fp' := upd fp d []) ?_
  rw [hd]
  exact h.pure hN c _ h2 h3 (Ext.refl w)

theorem alloc_does (h : Rel w0 I N σ fp a w) (o : Oper) {d : Nat} (hd : o.dst = some d) (hN : d < N) (hn : NoName σ d) {ty : TypeId} (ho : o.op = .alloc ty) {z : Value} (hz : zeroOf P ty = some z)
    {ks : List K} {t : T} (ht : t.solid = true) (hm : matZ ks t.leaves z.cells.toList = true) : Does P w0 I N o a w (upd σ d (.own (.box ks) t)) := by
  refine does_value (exec_vv (by simp only [execOp, ho]) (run_alloc' w ty z hz)) (fp' := upd fp d [w.heap.size]) ?_
  rw [hd]
  exact h.newBox hN hn ty (fun us e => by subst e; simp [T.solid] at ht) (fun w' A' _ => matZ_sound hm)
theorem box_does (h : Rel w0 I N σ fp a w) (hs : Sub τ σ) (o : Oper) {d : Nat} (hd : o.dst = some d) (hN : d < N) (hn : NoName σ d) {ty : TypeId} {X : Operand} (ho : o.op = .box ty X) {x : Opd} (hm : matO X x = true)
    (hc : (evT true τ x).1) (ht : (evT true τ x).2.solid = true) : Does P w0 I N o a w (upd σ d (.own (.box (shs (evT true τ x).2.leaves.length)) (evT true τ x).2)) := by
  have h1 := evT_sound h hs hm hc
  refine does_value (exec_vv (by simp only [execOp, ho]) (run_box' w ty (a.eval X))) (fp' := upd fp d [w.heap.size]) ?_
  rw [hd]
  refine h.newBox hN hn ty (fun us e => by rw [e] at ht; simp [T.solid] at ht) (fun w' A' hA => ?_)
  exact ROs_sh (RS.mono hA _ _ (t_cells ht h1))

/-- A row that is built. -/
def mksW (τ : Nat → W) (ag : Bool) (sz n : Nat) (ps : List (Nat × Nat × Opd)) : Prop × W :=
  match bldW true τ (List.replicate (n * sz) (.t .any)) ps with
  | (c, ws) => match allT ws with
    | some ts => (c ∧ ts.all T.isLeaf = true ∧ ts.length = n * sz ∧ (ag = false → sz = 1) ∧ n ≤ 16777216, .own (.sl (shs sz)) (.sl sz (rowT ag sz n ts)))
    | none => (False, .dead)
theorem mks_does (h : Rel w0 I N σ fp a w) (hs : Sub τ σ) (o : Oper) {d : Nat} (hd : o.dst = some d) (hN : d < N) (hn : NoName σ d) {ty : TypeId} {n : Nat} {parts : Array (Nat × Operand)} (ho : o.op = .buildSlice ty n parts)
    {e : TypeId} {ie : TypeInfo} {z : Value} (hu : P.underlying ty = some (.slice e)) (hie : P.info? e = some ie) (hz : ie.zero = some z) (hsmall : ¬ n * ie.size > 2 ^ 24) {ag : Bool} {ps : List (Nat × Nat × Opd)}
    (hp : OkParts (fun i => some (i * ie.size, ie.size)) parts.toList ps) (hc : (mksW τ ag ie.size n ps).1) : Does P w0 I N o a w (upd σ d (mksW τ ag ie.size n ps).2) := by
  unfold mksW at hc ⊢
  simp only at hc ⊢
  split at hc
  · rename_i ts hts
    obtain ⟨c1, c2, c3, c4, c5⟩ := hc
    have hw := WVs_any (w := w) (A := Free w fp) (σ := σ) (tm := Act.at a) ((Array.range (n * ie.size)).map ((if n * ie.size = 0 then #[] else z.cells)[· % (if n * ie.size = 0 then #[] else z.cells).size]!)).toList
    have hl : ((Array.range (n * ie.size)).map ((if n * ie.size = 0 then #[] else z.cells)[· % (if n * ie.size = 0 then #[] else z.cells).size]!)).toList.length = n * ie.size := by simp
    rw [hl] at hw
    obtain ⟨cs', e1, e2⟩ := bldW_sound h hs _ parts.toList ps _ _ hp hw c1
    have e3 := allT_sound hts c2 e2
    have e4 := e3.len
    simp only
    refine does_value (exec_vv (s := Instr.buildSlice ty n (parts.map fun (i, x) => (i, a.eval x))) (by simp only [execOp, ho]) (run_buildSlice' w ty e n _ cs' ie z hu hie hz hsmall (by rw [Array.toList_map]; exact e1))) (fp' := upd fp d [w.heap.size]) ?_
    rw [hd]
    have e5 := h.newRow (ks := shs ie.size) (xs := rowT ag ie.size n ts) (cs := cs') hN hn e (by rw [rowT_len]; simp [shs] at e4 ⊢; omega) (by rw [rowT_len]; simp [maxLen]; omega) (fun w' A' hA => by
      simpa [shs] using each_chunk c4 n (RS.mono hA _ _ e3) c3)
    simp only [rowT_len] at e5
    simpa [shs] using e5
  · exact hc.elim
end
end Go.Proofs.Ytaefhdklkbohmaa
/- A node of what is owned is written. Generic. -/
namespace Go.Proofs.Ytaefhdklkbohmaa
open Go Go.RowKit

section
variable {w0 : World} {I : Nat → Prop} {N : Nat} {σ τ : Nat → W} {fp : Nat → List Nat} {a : Act} {w : World}
theorem Rel.node (h : Rel w0 I N σ fp a w) {r : Nat} {k : K} {t : T} (hr : Root σ r k t) {q : Way} (hq : okP k t q) :
    ∃ c1 Fa F1 Fb, loc w k (Act.at a r) q = some c1 ∧ fp r = Fa ++ F1 ++ Fb ∧ RO w (Free w fp) (kindAt k q) (subT k t q) c1 F1 ∧ fitsAt k q (subT k t q) ∧
      ∀ (w' : World) (t' : T) (F1' : List Nat), w'.os = w.os → w'.tape = w.tape → w'.output = w.output → w.heap.size ≤ w'.heap.size →
        (∀ b, b < w.heap.size → b ∉ F1 → w'.heap[b]? = w.heap[b]?) → F1'.Nodup → (∀ b ∈ F1', b ∈ F1 ∨ (w.heap.size ≤ b ∧ b < w'.heap.size)) → fitsAt k q t' →
        (∀ A' : Nat → Prop, (∀ b, Free w fp b → A' b) → RO w' A' (kindAt k q) t' c1 F1') →
        (∀ p, okP (kindAt k q) t' p → (kindAt (kindAt k q) p).isOwn = true → okP (kindAt k q) (subT k t q) p ∧ loc w' (kindAt k q) c1 p = loc w (kindAt k q) c1 p) →
        Rel w0 I N (upd σ r (.own k (putT k t q t'))) (upd fp r (Fa ++ F1' ++ Fb)) a w' := by
  have h0 := h.root hr
  obtain ⟨c1, Fa, F1, Fb, e1, e2, e3, e4, e5⟩ := RO.zoom2 q h0 hq
  refine ⟨c1, Fa, F1, Fb, e1, e2, e4, e3, ?_⟩
  intro w' t' F1' hos htape hout hgrown hblk hnd hin hfit hro hst
  have hnod := h.nodup r
  rw [e2] at hnod
  have hrin : ∀ b, b ∈ F1 → b ∈ fp r := fun b hb => by rw [e2]; simp [hb]
  have hsub : ∀ b, b ∈ Fa ++ F1' ++ Fb → b ∈ fp r ∨ (w.heap.size ≤ b ∧ b < w'.heap.size) := by
    intro b hb
    simp only [List.mem_append] at hb
    rcases hb with (hb | hb) | hb
    · exact .inl (by rw [e2]; simp [hb])
    · exact (hin b hb).imp (hrin b) id
    · exact .inl (by rw [e2]; simp [hb])
  have hF : ∀ b, Free w fp b → b ∉ F1 := fun b hb h1 => hb.2 r (hrin b h1)
  have hfree : ∀ b, Free w fp b → Free w' (upd fp r (Fa ++ F1' ++ Fb)) b ∧ w'.heap[b]? = w.heap[b]? := by
    intro b hb
    refine ⟨⟨Nat.lt_of_lt_of_le hb.1 hgrown, fun s hs => ?_⟩, hblk b hb.1 (hF b hb)⟩
    by_cases e : s = r
    · subst e; rw [upd_same] at hs
      rcases hsub b hs with h1 | h1
      · exact hb.2 _ h1
      · have := hb.1; omega
    · rw [upd_ne _ _ _ e] at hs; exact hb.2 s hs
  have hab : ∀ b ∈ Fa ++ Fb, w'.heap[b]? = w.heap[b]? := by
    intro b hb
    have hb' : b ∈ fp r := by rw [e2]; simp only [List.mem_append] at hb ⊢; rcases hb with hb | hb <;> simp [hb]
    refine hblk b (h.there r b hb').1 (fun h1 => ?_)
    simp only [List.mem_append] at hb
    rw [List.nodup_append, List.nodup_append] at hnod
    rcases hb with hb | hb
    · exact hnod.1.2.2 b hb b h1 rfl
    · exact hnod.2.2 b (by simp [h1]) b hb rfl
  have hoth : ∀ s, s ≠ r → ∀ b ∈ fp s, w'.heap[b]? = w.heap[b]? := fun s hs b hb => hblk b (h.there s b hb).1 (fun h1 => hs (h.disj s r b hb (hrin b h1)))
  obtain ⟨z1, z2, z3⟩ := e5 w' (Free w' (upd fp r (Fa ++ F1' ++ Fb))) t' F1' hfree hab hfit (hro _ (fun b hb => (hfree b hb).1))
  refine h.next h.size h.defers hos htape hout hgrown hfree ?_ ?_ ?_ ?_
  · intro s
    by_cases e : s = r
    · subst e
      refine .inr ?_
      rw [upd_same, upd_same]; exact z1
    · refine .inl ⟨upd_ne _ _ _ e, upd_ne _ _ _ e, rfl, hoth s e, fun r' _ => ?_⟩
      by_cases e' : r' = r
      · subst e'
        intro k' t'' hr''
        have : k' = k ∧ t'' = putT k t q t' := by
          cases hr'' with
          | own e => rw [upd_same] at e; injection e with e1 e2; exact ⟨e1.symm, e2.symm⟩
          | gd e => rw [upd_same] at e; cases e
        obtain ⟨rfl, rfl⟩ := this
        exact ⟨t, hr, fun p hp ho => z3 hst p hp ho⟩
      · intro k' t'' hr''
        have hr' : Root σ r' k' t'' := by
          cases hr'' with
          | own e => rw [upd_ne _ _ _ e'] at e; exact .own e
          | gd e => rw [upd_ne _ _ _ e'] at e; exact .gd e
        refine ⟨t'', hr', fun p hp _ => ⟨hp, ?_⟩⟩
        obtain ⟨c2, g1, g2⟩ := loc_keep (w' := w') p (h.root hr') hp (fun b hb => (hfree b hb).2) (fun b hb => hoth r' e' b hb)
        rw [g1, g2]
  · intro s
    by_cases e : s = r
    · subst e; rw [upd_same]
      rw [List.nodup_append, List.nodup_append] at hnod ⊢
      have hlt : ∀ b, b ∈ Fa ∨ b ∈ Fb → b < w.heap.size := fun b hb => (h.there _ b (by rw [e2]; rcases hb with hb | hb <;> simp [hb])).1
      refine ⟨⟨hnod.1.1, hnd, fun x hx y hy hxy => ?_⟩, hnod.2.1, fun x hx y hy hxy => ?_⟩
      · subst hxy
        rcases hin x hy with h1 | h1
        · exact hnod.1.2.2 x hx x h1 rfl
        · have := hlt x (.inl hx); omega
      · subst hxy
        simp only [List.mem_append] at hx
        rcases hx with hx | hx
        · exact hnod.2.2 x (by simp [hx]) x hy rfl
        · rcases hin x hx with h1 | h1
          · exact hnod.2.2 x (by simp [h1]) x hy rfl
          · have := hlt x (.inr hy); omega
    · rw [upd_ne _ _ _ e]; exact h.nodup s
  · intro s s' b hs hs'
    have key : ∀ s, b ∈ upd fp r (Fa ++ F1' ++ Fb) s → b ∈ fp s ∨ (s = r ∧ w.heap.size ≤ b) := by
      intro s hs
      by_cases e : s = r
      · subst e; rw [upd_same] at hs; exact (hsub b hs).imp id (fun x => ⟨rfl, x.1⟩)
      · rw [upd_ne _ _ _ e] at hs; exact .inl hs
    rcases key s hs with h1 | ⟨h1, h2⟩ <;> rcases key s' hs' with h3 | ⟨h3, h4⟩
    · exact h.disj s s' b h1 h3
    · have := (h.there s b h1).1; omega
    · have := (h.there s' b h3).1; omega
    · rw [h1, h3]
  · intro s b hs
    by_cases e : s = r
    · subst e; rw [upd_same] at hs
      rcases hsub b hs with h1 | h1
      · exact ⟨Nat.lt_of_lt_of_le (h.there s b h1).1 hgrown, (h.there s b h1).2⟩
      · exact ⟨h1.2, .inl (by have := h.grown; omega)⟩
    · rw [upd_ne _ _ _ e] at hs
      exact ⟨Nat.lt_of_lt_of_le (h.there s b hs).1 hgrown, (h.there s b hs).2⟩
end

/-! ### Cells are written -/
theorem setCell_block (w : World) (b o : Nat) (v : Value) {cur : Array Value} {e : TypeId} {fz : Nat × Nat} (hb : w.heap[b]? = some (.cells cur e fz)) :
    (w.setCell ⟨b, o, none⟩ v).heap[b]? = some (.cells (cur.setIfInBounds o v) e fz) := by
  obtain ⟨h1, h2⟩ := Array.getElem?_eq_some_iff.1 hb
  simp [World.setCell, Array.getElem?_modify, hb]
theorem setCell_other (w : World) (b o : Nat) (v : Value) {b' : Nat} (h : b' ≠ b) : (w.setCell ⟨b, o, none⟩ v).heap[b']? = w.heap[b']? := by
  simp [World.setCell, Array.getElem?_modify, Ne.symm h]
theorem setCells_frame (b : Nat) : ∀ (vs : List Value) (o : Nat) (w : World), (w.setCells b o vs).os = w.os ∧ (w.setCells b o vs).tape = w.tape ∧ (w.setCells b o vs).output = w.output ∧ (w.setCells b o vs).heap.size = w.heap.size ∧
    ∀ b', b' ≠ b → (w.setCells b o vs).heap[b']? = w.heap[b']?
  | [], _, _ => ⟨rfl, rfl, rfl, rfl, fun _ _ => rfl⟩
  | v :: vs, o, w => by
    obtain ⟨h1, h2, h3, h4, h5⟩ := setCells_frame b vs (o + 1) (w.setCell ⟨b, o, none⟩ v)
    rw [World.setCells]
    exact ⟨h1, h2, h3, h4.trans (by simp [World.setCell]), fun b' hb => (h5 b' hb).trans (setCell_other w b o v hb)⟩
theorem setCells_block (b : Nat) : ∀ (vs : List Value) (o : Nat) (w : World) {cur : Array Value} {e : TypeId} {fz : Nat × Nat}, w.heap[b]? = some (.cells cur e fz) → o + vs.length ≤ cur.size →
    ∃ cur', (w.setCells b o vs).heap[b]? = some (.cells cur' e fz) ∧ cur'.toList = cur.toList.take o ++ vs ++ cur.toList.drop (o + vs.length)
  | [], o, w, cur, e, fz, h, _ => ⟨cur, h, by simp⟩
  | v :: vs, o, w, cur, e, fz, h, hl => by
    simp only [List.length_cons] at hl
    obtain ⟨cur', h1, h2⟩ := setCells_block b vs (o + 1) _ (setCell_block w b o v h) (by simp; omega)
    refine ⟨cur', h1, ?_⟩
    rw [h2]
    have := foldl_set_list [v] 0 o cur.toList (by simp; omega)
    simp only [List.zipIdx_cons, List.zipIdx_nil, List.foldl_cons, List.foldl_nil, Nat.add_zero, List.length_singleton] at this
    rw [Array.toList_setIfInBounds, this]
    have l1 : (cur.toList.take o ++ [v]).length = o + 1 := by simp; omega
    rw [List.take_append_of_le_length (by omega), List.take_of_length_le (by omega), List.drop_append, List.drop_eq_nil_of_le (by omega)]
    simp only [l1, List.nil_append, List.drop_drop, List.append_assoc, List.singleton_append, List.cons_append, List.length_cons, List.nil_append]
    congr 4
    omega
theorem run_storeAt' {P : Program} (w : World) (ty : TypeId) (b o : Nat) (v : Value) {cur : Array Value} {e : TypeId} (hb : w.heap[b]? = some (.cells cur e (0, 0))) (hl : o + v.cells.size ≤ cur.size)
    {it : TypeInfo} (hi : P.info? ty = some it) (hsz : it.size = v.cells.size) (h1 : ∀ u ∈ v.cells.toList, u.oneCell' = true) :
    (Instr.storeAt ty (.pointer (some ⟨b, o, none⟩)) v).run P w = .ok () (w.setCells b o v.cells.toList) := by
  have := run_storeCells_cells (P := P) b o v.cells.toList 0 w (fun j hj => by simp at hj; simp [World.cell?, hb]; omega) (fun j hj => by simp [World.frozen?, hb]) h1
  simp only [Nat.add_zero] at this
  simp [Instr.storeAt, Instr.sureAddr, storeVar, sizeOf, typeInfo, hi, hsz, this]
end Go.Proofs.Ytaefhdklkbohmaa
/- Cells of a variable or of a row that is owned are written: data over data. Generic. -/
namespace Go.Proofs.Ytaefhdklkbohmaa
open Go Go.RowKit

/-- 'n' of 'm' leaves, from 'f' on. -/
def T.putPart (m f n : Nat) (t v : T) : T :=
  if f = 0 ∧ n = m then v else match t with
    | .agg us => .agg (us.take f ++ v.leaves ++ us.drop (f + n))
    | _ => v
def T.putAt (k : K) (t : T) (i f n : Nat) (v : T) : T :=
  match k with
  | .sl ks => .sl ks.length (t.elems.set i (T.putPart ks.length f n (t.elems.getD i default) v))
  | _ => T.putPart k.kids.length f n t v
theorem putPart_leaves {m f n : Nat} {t v : T} (hm : t.leaves.length = m) (hn : v.leaves.length = n) (h0 : 0 < n) (hf : f + n ≤ m) :
    (T.putPart m f n t v).leaves = t.leaves.take f ++ v.leaves ++ t.leaves.drop (f + n) := by
  unfold T.putPart
  split
  · rename_i h
    obtain ⟨rfl, rfl⟩ := h
    simp [hm]
  · rename_i h
    cases t with
    | agg us => rfl
    | _ =>
      simp only [T.leaves, List.length_singleton] at hm
      exact absurd ⟨by omega, by omega⟩ h
theorem solid_noTup {v : T} (h : v.solid = true) : ∀ us, v ≠ .tup us := fun us e => by subst e; simp [T.solid] at h
theorem putPart_noTup {m f n : Nat} {t v : T} (h : v.solid = true) : ∀ us, T.putPart m f n t v ≠ .tup us := by
  intro us e
  unfold T.putPart at e
  split at e
  · exact solid_noTup h us e
  · split at e
    · cases e
    · exact solid_noTup h us e

section
variable {w : World} {A : Nat → Prop}
theorem ROs.write0 : ∀ (ts : List T) (vs : List Value) {ks : List K} {us : List T} {cs : List Value} {F : List Nat}, ROs w A ks us cs F → ts.length ≤ ks.length → (ks.take ts.length).all K.isSh = true → RS w A ts vs →
    ROs w A ks (ts ++ us.drop ts.length) (vs ++ cs.drop ts.length) F
  | [], vs, ks, us, cs, F, h, _, _, hv => by
    simp only [RS] at hv
    subst hv
    simpa using h
  | t :: ts, vs, [], us, cs, F, h, hl, _, _ => by simp at hl
  | t :: ts, vs, k :: ks, us, cs, F, h, hl, hk, hv => by
    obtain ⟨c, cs1, rfl, h1, h2, h3⟩ := hv
    simp only [ROs] at h
    obtain ⟨u, us', d, cs', F1, F2, rfl, rfl, rfl, _, h5, h6⟩ := h
    simp only [List.length_cons, List.take_succ_cons, List.all_cons, Bool.and_eq_true] at hk hl
    have hks : k = .sh := by cases k <;> simp_all [K.isSh]
    subst hks
    simp only [RO] at h5
    obtain ⟨rfl, _⟩ := h5
    have := ROs.write0 ts cs1 h6 (by omega) hk.2 h3
    simp only [List.length_cons, List.drop_succ_cons, List.cons_append, ROs]
    exact ⟨t, _, c, _, [], F2, rfl, rfl, rfl, h1, by simpa [RO] using (R0_leaf h1).2 h2, this⟩
theorem ROs.write : ∀ (f : Nat) {ks : List K} {us : List T} {cs : List Value} {F : List Nat} {ts : List T} {vs : List Value}, ROs w A ks us cs F → f + ts.length ≤ ks.length → ((ks.drop f).take ts.length).all K.isSh = true → RS w A ts vs →
    ROs w A ks (us.take f ++ ts ++ us.drop (f + ts.length)) (cs.take f ++ vs ++ cs.drop (f + ts.length)) F
  | 0, ks, us, cs, F, ts, vs, h, hl, hk, hv => by simpa using ROs.write0 ts vs h (by omega) (by simpa using hk) hv
  | f + 1, [], us, cs, F, ts, vs, h, hl, hk, hv => by simp at hl
  | f + 1, k :: ks, us, cs, F, ts, vs, h, hl, hk, hv => by
    simp only [ROs] at h
    obtain ⟨u, us', d, cs', F1, F2, rfl, rfl, rfl, h4, h5, h6⟩ := h
    have := ROs.write f h6 (by simp at hl; omega) (by simpa using hk) hv
    simp only [List.take_succ_cons, List.cons_append, Nat.add_right_comm f 1, List.drop_succ_cons, ROs]
    exact ⟨u, _, d, _, F1, F2, rfl, rfl, rfl, h4, h5, this⟩

theorem ROs.getK {ks : List K} {us : List T} {cs : List Value} {F : List Nat} (h : ROs w A ks us cs F) : us.length = ks.length ∧ cs.length = ks.length := (ROs.leafs ks us cs F h).2

theorem getD_splice {α : Type} (us vs : List α) (f g : Nat) (d : α) (hf : f + vs.length ≤ us.length) (hg : g < f ∨ f + vs.length ≤ g) : (us.take f ++ vs ++ us.drop (f + vs.length)).getD g d = us.getD g d := by
  simp only [List.getD_eq_getElem?_getD]
  congr 1
  rcases hg with hg | hg
  · rw [List.append_assoc, List.getElem?_append_left (by simp; omega), List.getElem?_take, if_pos hg]
  · rw [List.getElem?_append_right (by simp; omega), List.getElem?_drop]
    congr 1
    simp; omega
end

/-- The kid's value and blocks, of a variable or of a row. -/
theorem RO.kidIn {w : World} {A : Nat → Prop} {k : K} {t : T} {c : Value} {F : List Nat} (h : RO w A k t c F) (hk1 : (∃ ks, k = .box ks) ∨ ∃ ks, k = .sl ks) (i f : Nat) (hk : k.okKid t i f) :
    ∃ c1 F1, kidV w k c i f = some c1 ∧ RO w A (k.kid f) (T.kid k t i f) c1 F1 ∧ ∀ b ∈ F1, b ∈ F.tail := by
  rcases hk1 with ⟨ks, rfl⟩ | ⟨ks, rfl⟩
  · simp only [RO] at h
    simp only [K.okKid, K.kids] at hk
    rcases h with ⟨rfl, _⟩ | ⟨b, cur, e, Fs, rfl, h1, h2, rfl, h3⟩
    · simp [T.isAny] at hk
    obtain ⟨c1, Fa, F1, Fb, e1, rfl, e2, e3, e4⟩ := ROs.at ks _ _ Fs h2 f hk.1
    have e1' : cur[f]? = some c1 := by simpa using e1
    refine ⟨c1, F1, ?_, by simpa [K.kid, K.kids, T.kid] using e3, by simp; intro b hb; exact .inr (.inl hb)⟩
    simp only [kidV]; rw [cell_of_row w b f cur e (0, 0) h1]; exact e1'
  · simp only [RO] at h
    rcases h with ⟨rfl, _⟩ | ⟨xs, rfl, h⟩
    · simp [K.okKid, T.elems] at hk
    simp only [K.okKid, K.kids, T.elems] at hk
    rcases h with ⟨rfl, _⟩ | ⟨b, o, cap, cur, e, Fs, rfl, h1, h2, h3, h4, h5, rfl⟩
    · simp at hk
    obtain ⟨d1, d2, d3, Ga, G, Gb, g1, g2, g3, rfl, g4, g5⟩ := Each.at h5 i hk.2
    obtain ⟨c1, Fa, F1, Fb, e1, rfl, e2, e3, e4⟩ := ROs.at ks _ _ G g4 f hk.1
    have hcell : w.cell? ⟨b, o + (i * ks.length + f), none⟩ = some c1 := by
      refine cells_of_block (n := xs.length * ks.length) h3 (i * ks.length + f) c1 ?_
      rw [g1, List.append_assoc, List.getElem?_append_right (by omega), g2, Nat.add_sub_cancel_left, List.getElem?_append_left (by omega)]
      exact e1
    exact ⟨c1, F1, by simpa only [kidV] using hcell, by simpa [K.kid, K.kids, T.kid, T.elems] using e3, by simp; intro b hb; exact .inr (.inr (.inl hb))⟩

/-- Ways into a container of which cells that hold data were written lead where they led. -/
theorem ways_keep {w w' : World} {A : Nat → Prop} {k : K} {t t' : T} {c : Value} {F : List Nat} (h : RO w A k t c F) (hk1 : (∃ ks, k = .box ks) ∨ ∃ ks, k = .sl ks)
    (hkid : ∀ j g, k.okKid t' j g → k.okKid t j g ∧ (k.kid g = .sh ∨ (T.kid k t' j g = T.kid k t j g ∧ kidV w' k c j g = kidV w k c j g)))
    (hA : ∀ b, A b → w'.heap[b]? = w.heap[b]?) (hF : ∀ b ∈ F.tail, w'.heap[b]? = w.heap[b]?) :
    ∀ p, okP k t' p → (kindAt k p).isOwn = true → okP k t p ∧ loc w' k c p = loc w k c p
  | [], _, _ => ⟨trivial, rfl⟩
  | (j, g) :: p, hp, ho => by
    obtain ⟨h1, h2⟩ := hp
    obtain ⟨h3, h4⟩ := hkid j g h1
    rcases h4 with h4 | ⟨h4, h5⟩
    · simp only [kindAt, h4, kindAt_sh, K.isOwn] at ho
      cases ho
    · obtain ⟨c1, F1, e1, e2, e3⟩ := h.kidIn hk1 j g h3
      rw [h4] at h2
      refine ⟨⟨h3, h2⟩, ?_⟩
      obtain ⟨c2, l1, l2⟩ := loc_keep (w' := w') p e2 h2 hA (fun b hb => hF b (e3 b hb))
      simp only [loc, h5, e1, Option.bind_some, l1, l2]
end Go.Proofs.Ytaefhdklkbohmaa
/- A variable or an element that is owned is written: data over data. Generic. -/
namespace Go.Proofs.Ytaefhdklkbohmaa
open Go Go.RowKit

theorem RS_oneCell {w : World} {A : Nat → Prop} : ∀ {ts : List T} {cs : List Value}, RS w A ts cs → ts.all T.solid = true → ∀ u ∈ cs, u.oneCell' = true
  | [], cs, h, _ => by simp only [RS] at h; subst h; simp
  | t :: ts, cs, h, hs => by
    obtain ⟨c, cs', rfl, h1, h2, h3⟩ := h
    simp only [List.all_cons, Bool.and_eq_true] at hs
    intro u hu
    rcases List.mem_cons.1 hu with rfl | hu
    · exact (solid_cells h1 hs.1 ((RT_leaf h1).2 h2)).2
    · exact RS_oneCell h3 hs.2 u hu

section
variable {w : World} {A : Nat → Prop}
theorem RO.writeBox {ks : List K} {t : T} {c : Value} {F : List Nat} (h : RO w A (.box ks) t c F) (hany : t.isAny = false) {f n : Nat} {v : T} {val : Value} (hv : v.solid = true) (hval : RT w A v val) (hn : v.leaves.length = n) (h0 : 0 < n)
    (hf : f + n ≤ ks.length) (hks : ((ks.drop f).take n).all K.isSh = true) (hnd : F.Nodup) (hA : ∀ b, A b → b ∉ F) :
    ∃ b cur e, c = .pointer (some ⟨b, 0, none⟩) ∧ w.heap[b]? = some (.cells cur e (0, 0)) ∧ f + val.cells.size ≤ cur.size ∧ b ∈ F ∧ val.cells.size = n ∧
      (∀ A' : Nat → Prop, (∀ b, A b → A' b) → RO (w.setCells b f val.cells.toList) A' (.box ks) (T.putPart ks.length f n t v) c F) ∧
      ∀ p, okP (.box ks) (T.putPart ks.length f n t v) p → (kindAt (.box ks) p).isOwn = true → okP (.box ks) t p ∧ loc (w.setCells b f val.cells.toList) (.box ks) c p = loc w (.box ks) c p := by
  have hcs := t_cells hv hval
  have hlen := hcs.len
  have h' := h
  simp only [RO] at h
  rcases h with ⟨rfl, _⟩ | ⟨b, cur, e, Fs, rfl, h1, h2, rfl, h3⟩
  · simp [T.isAny] at hany
  obtain ⟨l1, l2⟩ := h2.getK
  have hsz : val.cells.size = n := by simp at hlen; omega
  simp at l2
  obtain ⟨cur', s1, s2⟩ := setCells_block b val.cells.toList f w h1 (by simp; omega)
  obtain ⟨g1, g2, g3, g4, g5⟩ := setCells_frame b val.cells.toList f w
  have hAw : ∀ x, A x → (w.setCells b f val.cells.toList).heap[x]? = w.heap[x]? := fun x hx => g5 x (fun e => hA x hx (by simp [e]))
  have hFw : ∀ x ∈ Fs, (w.setCells b f val.cells.toList).heap[x]? = w.heap[x]? := fun x hx => g5 x (fun e => by subst e; simp at hnd; exact hnd.1 hx)
  refine ⟨b, cur, e, rfl, h1, by omega, by simp, hsz, fun A' hA' => ?_, ?_⟩
  · simp only [RO]
    refine .inr ⟨b, cur', e, Fs, rfl, s1, ?_, rfl, putPart_noTup hv⟩
    rw [putPart_leaves l1 hn h0 hf, s2]
    have hm := ROs.mono (A' := A') (fun x hx => ⟨hA' x hx, hAw x hx⟩) ks _ _ Fs hFw h2
    have hvm := RS.mono (w' := w.setCells b f val.cells.toList) (A' := A') (fun x hx => ⟨hA' x hx, hAw x hx⟩) _ _ hcs
    have := ROs.write f hm (by omega) (by rw [hn]; exact hks) hvm
    rw [hn] at this
    rw [show val.cells.toList.length = n by simpa using hsz]
    exact this
  · refine ways_keep h' (.inl ⟨ks, rfl⟩) (fun j g hk => ?_) hAw (by simpa using hFw)
    refine ⟨⟨hk.1, hany⟩, ?_⟩
    by_cases hg : f ≤ g ∧ g < f + n
    · refine .inl ?_
      have : (ks.getD g .sh).isSh = true := by
        have := List.all_eq_true.1 hks (ks.getD g .sh) (by
          have hk1 : g < ks.length := hk.1
          rw [List.mem_iff_getElem]
          refine ⟨g - f, by simp; omega, ?_⟩
          simp [List.getElem_take, List.getElem_drop, show f + (g - f) = g by omega, hk1])
        exact this
      show ks.getD g .sh = .sh
      cases hq : ks.getD g .sh <;> simp_all [K.isSh]
    · refine .inr ⟨?_, ?_⟩
      · show (T.putPart ks.length f n t v).leaves.getD g default = t.leaves.getD g default
        rw [putPart_leaves l1 hn h0 hf, ← hn]
        exact getD_splice _ _ _ _ _ (by omega) (by omega)
      · simp only [kidV]
        rw [cell_of_row _ b g cur' e (0, 0) s1, cell_of_row _ b g cur e (0, 0) h1, ← Array.getElem?_toList, ← Array.getElem?_toList, s2]
        rcases Nat.lt_or_ge g f with hg' | hg'
        · rw [List.append_assoc, List.getElem?_append_left (by simp; omega), List.getElem?_take, if_pos hg']
        · rw [List.getElem?_append_right (by simp; omega), List.getElem?_drop]
          congr 1
          simp; omega

theorem splice_at {α : Type} (cur vs : List α) (o L s f : Nat) (hf : s + f + vs.length ≤ L) (hL : o + L ≤ cur.length) :
    ((cur.take (o + s + f) ++ vs ++ cur.drop (o + s + f + vs.length)).drop o).take L = ((cur.drop o).take L).take (s + f) ++ vs ++ ((cur.drop o).take L).drop (s + f + vs.length) := by
  apply List.ext_getElem?
  intro j
  rw [List.getElem?_take, List.getElem?_drop]
  by_cases hj : j < L
  · rw [if_pos hj]
    rcases Nat.lt_or_ge j (s + f) with h1 | h1
    · rw [List.append_assoc, List.getElem?_append_left (by simp; omega), List.append_assoc, List.getElem?_append_left (by simp; omega)]
      simp only [List.getElem?_take, List.getElem?_drop]
      rw [if_pos (by omega), if_pos h1, if_pos hj]
    · rcases Nat.lt_or_ge j (s + f + vs.length) with h2 | h2
      · rw [List.append_assoc, List.getElem?_append_right (by simp; omega), List.getElem?_append_left (by simp; omega)]
        rw [List.append_assoc, List.getElem?_append_right (by simp; omega), List.getElem?_append_left (by simp; omega)]
        congr 1
        simp; omega
      · rw [List.getElem?_append_right (by simp; omega), List.getElem?_append_right (by simp; omega)]
        simp only [List.getElem?_take, List.getElem?_drop, List.length_append, List.length_take, List.length_drop]
        rw [if_pos (by omega)]
        congr 1
        omega
  · rw [if_neg hj]
    symm
    rw [List.getElem?_eq_none]
    simp; omega
end
end Go.Proofs.Ytaefhdklkbohmaa
/- An element of a row that is owned is written: data over data. Generic. -/
namespace Go.Proofs.Ytaefhdklkbohmaa
open Go Go.RowKit

section
variable {w : World} {A : Nat → Prop}
theorem RO.writeSl {ks : List K} {t : T} {c : Value} {F : List Nat} (h : RO w A (.sl ks) t c F) {i : Nat} (hi : i < t.elems.length) {f n : Nat} {v : T} {val : Value} (hv : v.solid = true) (hval : RT w A v val) (hn : v.leaves.length = n) (h0 : 0 < n)
    (hf : f + n ≤ ks.length) (hks : ((ks.drop f).take n).all K.isSh = true) (hnd : F.Nodup) (hA : ∀ b, A b → b ∉ F) :
    ∃ b o m cap cur e, c = .slice (some ⟨b, o, none⟩) m cap ∧ w.heap[b]? = some (.cells cur e (0, 0)) ∧ o + i * ks.length + f + val.cells.size ≤ cur.size ∧ b ∈ F ∧ val.cells.size = n ∧
      (∀ A' : Nat → Prop, (∀ b, A b → A' b) → RO (w.setCells b (o + i * ks.length + f) val.cells.toList) A' (.sl ks) (T.putAt (.sl ks) t i f n v) c F) ∧
      ∀ p, okP (.sl ks) (T.putAt (.sl ks) t i f n v) p → (kindAt (.sl ks) p).isOwn = true → okP (.sl ks) t p ∧ loc (w.setCells b (o + i * ks.length + f) val.cells.toList) (.sl ks) c p = loc w (.sl ks) c p := by
  have hcs := t_cells hv hval
  have hlen := hcs.len
  have h' := h
  simp only [RO] at h
  rcases h with ⟨rfl, _⟩ | ⟨xs, rfl, h⟩
  · simp [T.elems] at hi
  simp only [T.elems] at hi
  rcases h with ⟨rfl, _⟩ | ⟨b, o, cap, cur, e, Fs, rfl, h1, h2, h3, h4, h5, rfl⟩
  · simp at hi
  have hsz : val.cells.size = n := by simp at hlen; omega
  have hvl : val.cells.toList.length = n := by simpa using hsz
  obtain ⟨d1, d2, d3, Ga, G, Gb, g1, g2, g3, rfl, g4, g5⟩ := Each.at h5 i hi
  obtain ⟨l1, l2⟩ := g4.getK
  have hmul : i * ks.length + ks.length ≤ xs.length * ks.length := by
    rw [← Nat.succ_mul]; exact Nat.mul_le_mul_right _ hi
  have hcap : xs.length * ks.length ≤ cap * ks.length := Nat.mul_le_mul_right _ h1
  have hin : o + i * ks.length + f + val.cells.toList.length ≤ cur.size := by omega
  obtain ⟨cur', s1, s2⟩ := setCells_block b val.cells.toList (o + i * ks.length + f) w h3 hin
  obtain ⟨q1, q2, q3, q4, q5⟩ := setCells_frame b val.cells.toList (o + i * ks.length + f) w
  have hAw : ∀ x, A x → (w.setCells b (o + i * ks.length + f) val.cells.toList).heap[x]? = w.heap[x]? := fun x hx => q5 x (fun e => hA x hx (by simp [e]))
  have hFw : ∀ x ∈ Ga ++ G ++ Gb, (w.setCells b (o + i * ks.length + f) val.cells.toList).heap[x]? = w.heap[x]? := fun x hx => q5 x (fun e => by
    subst e
    rw [List.nodup_cons] at hnd
    exact hnd.1 hx)
  have hsp := splice_at cur.toList val.cells.toList o (xs.length * ks.length) (i * ks.length) f (by omega) (by simp; omega)
  have hcells : ((cur'.toList.drop o).take (xs.length * ks.length)) = d1 ++ (d2.take f ++ val.cells.toList ++ d2.drop (f + n)) ++ d3 := by
    rw [s2, hsp, g1]
    rw [hvl]
    have e1 : (d1 ++ d2 ++ d3).take (i * ks.length + f) = d1 ++ d2.take f := by
      rw [List.append_assoc, List.take_append, List.take_of_length_le (by omega), g2, Nat.add_sub_cancel_left, List.take_append_of_le_length (by omega)]
    have e2 : (d1 ++ d2 ++ d3).drop (i * ks.length + f + n) = d2.drop (f + n) ++ d3 := by
      rw [List.append_assoc, List.drop_append, List.drop_eq_nil_of_le (by omega), g2, show i * ks.length + f + n - i * ks.length = f + n by omega, List.drop_append_of_le_length (by omega), List.nil_append]
    rw [e1, e2]
    simp
  refine ⟨b, o, xs.length, cap, cur, e, rfl, h3, by omega, by simp, hsz, fun A' hA' => ?_, ?_⟩
  · simp only [RO, T.putAt, T.elems]
    refine .inr ⟨_, rfl, .inr ⟨b, o, cap, cur', e, Ga ++ G ++ Gb, by simp, by simpa using h1, h2, s1, ?_, ?_, rfl⟩⟩
    · have : cur'.size = cur.size := by
        rw [← Array.length_toList, s2]; simp; omega
      omega
    · rw [List.length_set, hcells]
      refine g5 (fun ts cs F => ROs (w.setCells b (o + i * ks.length + f) val.cells.toList) A' ks ts cs F) _ _ G (by simp; omega) (fun ts cs F' hF' hh => ?_) ?_
      · exact ROs.mono (fun x hx => ⟨hA' x hx, hAw x hx⟩) ks ts cs F' (fun x hx => hFw x (by have := hF' x hx; simp at this ⊢; rcases this with h | h <;> simp [h])) hh
      · rw [putPart_leaves l1 hn h0 hf]
        have hm := ROs.mono (A' := A') (fun x hx => ⟨hA' x hx, hAw x hx⟩) ks _ _ G (fun x hx => hFw x (by simp [hx])) g4
        have hvm := RS.mono (w' := w.setCells b (o + i * ks.length + f) val.cells.toList) (A' := A') (fun x hx => ⟨hA' x hx, hAw x hx⟩) _ _ hcs
        have := ROs.write f hm (by omega) (by rw [hn]; exact hks) hvm
        rwa [hn] at this
  · refine ways_keep h' (.inr ⟨ks, rfl⟩) (fun j g hk => ?_) hAw (by simpa using hFw)
    obtain ⟨hk1, hk2⟩ := hk
    simp only [T.putAt, T.elems, List.length_set] at hk2
    refine ⟨⟨hk1, hk2⟩, ?_⟩
    simp only [K.kids] at hk1
    by_cases hg : j = i ∧ f ≤ g ∧ g < f + n
    · refine .inl ?_
      have : (ks.getD g .sh).isSh = true := by
        exact List.all_eq_true.1 hks (ks.getD g .sh) (by
          rw [List.mem_iff_getElem]
          refine ⟨g - f, by simp; omega, ?_⟩
          simp [List.getElem_take, List.getElem_drop, show f + (g - f) = g by omega, hk1])
      show ks.getD g .sh = .sh
      cases hq : ks.getD g .sh <;> simp_all [K.isSh]
    · refine .inr ⟨?_, ?_⟩
      · simp only [T.kid, T.putAt, T.elems]
        by_cases hj : j = i
        · subst hj
          rw [getD_set_same _ _ _ _ hi, putPart_leaves l1 hn h0 hf, ← hn]
          exact getD_splice _ _ _ _ _ (by omega) (by omega)
        · rw [getD_set_ne _ _ _ _ _ (Ne.symm hj)]
      · simp only [kidV]
        rw [cell_of_row _ b _ cur' e (0, 0) s1, cell_of_row _ b _ cur e (0, 0) h3, ← Array.getElem?_toList, ← Array.getElem?_toList, s2]
        have hne : o + (j * ks.length + g) < o + i * ks.length + f ∨ o + i * ks.length + f + n ≤ o + (j * ks.length + g) := by
          rcases Nat.lt_trichotomy j i with h | h | h
          · have : j * ks.length + ks.length ≤ i * ks.length := by rw [← Nat.succ_mul]; exact Nat.mul_le_mul_right _ h
            omega
          · subst h; omega
          · have : i * ks.length + ks.length ≤ j * ks.length := by rw [← Nat.succ_mul]; exact Nat.mul_le_mul_right _ h
            omega
        rcases hne with hg' | hg'
        · rw [List.append_assoc, List.getElem?_append_left (by simp; omega), List.getElem?_take, if_pos hg']
        · rw [List.getElem?_append_right (by simp; omega), List.getElem?_drop]
          congr 1
          simp; omega
end
end Go.Proofs.Ytaefhdklkbohmaa
/- The store of data. Generic. -/
namespace Go.Proofs.Ytaefhdklkbohmaa
open Go Go.RowKit

def okSto (ks : List K) (f n : Nat) (v : T) : Prop :=
  v.solid = true ∧ v.leaves.all T.solid = true ∧ v.leaves.length = n ∧ 0 < n ∧ f + n ≤ ks.length ∧ ((ks.drop f).take n).all K.isSh = true
/-- 'n' cells are written where the address leads: the root, and what it is then. -/
def stoW (τ : Nat → W) (n : Nat) (x v : Opd) : Prop × Nat × W :=
  match evG true τ x, evT true τ v with
  | (cx, X), (cv, V) => match toAddr true τ X with
    | (d, .adr r p i f) => match nodeAt true τ r p, rootAt true τ r with
      | (cn, .box ks, t1), (_, k, t) => (cx ∧ cv ∧ d ∧ cn ∧ t1.isAny = false ∧ okSto ks f n V ∧ (t1.isLeaf = true → (T.putPart ks.length f n t1 V).isLeaf = true), r, .own k (putT k t p (T.putPart ks.length f n t1 V)))
      | (cn, .sl ks, t1), (_, k, t) => (cx ∧ cv ∧ d ∧ cn ∧ i < t1.elems.length ∧ okSto ks f n V, r, .own k (putT k t p (T.putAt (.sl ks) t1 i f n V)))
      | _, _ => (False, 0, .dead)
    | _ => (False, 0, .dead)

theorem fitsAt_step {w : World} {A : Nat → Prop} {k : K} {t t' : T} : ∀ (p : Way) (_ : fitsAt k p t) (_ : t.isLeaf = true → t'.isLeaf = true) (_ : ∀ us, t' ≠ .tup us), fitsAt k p t'
  | [], _, _, _ => trivial
  | [(i, f)], h, hl, ht => by
    cases k <;> simp only [fitsAt, K.fits] at h ⊢ <;> first | exact hl h | exact ht
  | (i, f) :: q :: p, h, hl, ht => fitsAt_step (w := w) (A := A) (k := k.kid f) (q :: p) h hl ht

section
variable {P : Program} {w0 : World} {I : Nat → Prop} {N : Nat} {σ τ : Nat → W} {fp : Nat → List Nat} {a : Act} {w : World}
theorem sto_does (h : Rel w0 I N σ fp a w) (hs : Sub τ σ) (o : Oper) (hd : o.dst = none) {ty : TypeId} {X V : Operand} (ho : o.op = .store ty X V) {x v : Opd} (hX : matO X x = true) (hV : matO V v = true) {n : Nat}
    {it : TypeInfo} (hi : P.info? ty = some it) (hsz : it.size = n) (hc : (stoW τ n x v).1) : Does P w0 I N o a w (upd σ (stoW τ n x v).2.1 (stoW τ n x v).2.2) := by
  unfold stoW at hc ⊢
  have hx0 := evG_sound h hs hX (x := x)
  have hv0 := evT_sound h hs hV (x := v)
  generalize evG true τ x = ex at hc hx0 ⊢
  generalize evT true τ v = ev at hc hv0 ⊢
  obtain ⟨cx, vx⟩ := ex
  obtain ⟨cv, vv⟩ := ev
  simp only at hc hx0 hv0 ⊢
  generalize hta : toAddr true τ vx = ta at hc ⊢
  obtain ⟨d, ad⟩ := ta
  cases ad with
  | adr r p i f =>
    simp only at hc ⊢
    have hrt : ∀ (hcr : (rootAt true τ r).1), Root σ r (rootAt true τ r).2.1 (rootAt true τ r).2.2 := fun hcr => rootAt_sound hs hcr
    have hnd : nodeAt true τ r p = ((rootAt true τ r).1 ∧ okP (rootAt true τ r).2.1 (rootAt true τ r).2.2 p, kindAt (rootAt true τ r).2.1 p, subT (rootAt true τ r).2.1 (rootAt true τ r).2.2 p) := rfl
    rw [hnd] at hc ⊢
    generalize rootAt true τ r = rt at hc hrt ⊢
    obtain ⟨cr, k, t⟩ := rt
    simp only at hc hrt ⊢
    generalize hkn : kindAt k p = kn at hc ⊢
    generalize htn : subT k t p = tn at hc ⊢
    cases kn with
    | box ks =>
      simp only at hc ⊢
      obtain ⟨c1, c2, c3, ⟨c4, c5⟩, c6, ⟨o1, o2, o3, o4, o5, o6⟩, o7⟩ := hc
      have hr := hrt c4
      obtain ⟨d1, _⟩ := toAddr_sound h hs (hx0 c1).2 (by rw [hta]; exact c3)
      rw [hta] at d1
      obtain ⟨u1, Fa, F1, Fb, e1, e2, e3, e4, e5⟩ := h.node hr c5
      rw [hkn, htn] at e3
      rw [htn] at e4
      obtain ⟨u2, g1, g2⟩ := d1 k t hr c5 (by rw [hkn]; rfl)
      rw [e1] at g1
      simp only [Option.some.injEq] at g1
      subst g1
      have hnod := h.nodup r
      rw [e2, List.nodup_append, List.nodup_append] at hnod
      have hin : ∀ b ∈ F1, b ∈ fp r := fun b hb => by rw [e2]; simp [hb]
      obtain ⟨b, cur, e, q1, q2, q3, q4, q5, q6, q7⟩ := e3.writeBox c6 o1 (hv0 c2) o3 o4 o5 o6 hnod.1.2.1 (fun x hx h1 => hx.2 r (hin x h1))
      subst q1
      rw [hkn] at g2
      simp only [adrV] at g2
      obtain ⟨f1, f2, f3, f4, f5⟩ := setCells_frame b (a.eval V).cells.toList f w
      intro K Q hK
      unfold Oper.wp
      have hrun := run_storeAt' (P := P) w ty b f (a.eval V) q2 q3 hi (by rw [hsz, q5]) (RS_oneCell (t_cells o1 (hv0 c2)) o2)
      rw [← g2] at hrun
      have hex : (execOp a.eval o).run P w = .ok .skip (w.setCells b f (a.eval V).cells.toList) := by
        simp only [execOp, ho, Sem.run_bind, hrun, Result.andThen_ok, Sem.run_pure]
      rw [hex]
      simp only [Oper.upon, hd, put_none]
      refine hK _ _ _ (e5 _ _ F1 f1 f2 f3 (by omega) (fun x _ hx => f5 x (fun e => hx (e ▸ q4))) hnod.1.2.1 (fun x hx => .inl hx) ?_ ?_ ?_)
      · exact fitsAt_step (w := w) (A := Free w fp) p e4 o7 (putPart_noTup o1)
      · intro A' hA'
        rw [hkn]; exact q6 A' hA'
      · intro p' hp' ho'
        rw [hkn] at hp' ho' ⊢
        rw [htn]
        exact q7 p' hp' ho'
    | sl ks =>
      simp only at hc ⊢
      obtain ⟨c1, c2, c3, ⟨c4, c5⟩, c6, o1, o2, o3, o4, o5, o6⟩ := hc
      have hr := hrt c4
      obtain ⟨d1, _⟩ := toAddr_sound h hs (hx0 c1).2 (by rw [hta]; exact c3)
      rw [hta] at d1
      obtain ⟨u1, Fa, F1, Fb, e1, e2, e3, e4, e5⟩ := h.node hr c5
      rw [hkn, htn] at e3
      rw [htn] at e4
      obtain ⟨u2, g1, g2⟩ := d1 k t hr c5 (by rw [hkn]; rfl)
      rw [e1] at g1
      simp only [Option.some.injEq] at g1
      subst g1
      have hnod := h.nodup r
      rw [e2, List.nodup_append, List.nodup_append] at hnod
      have hin : ∀ b ∈ F1, b ∈ fp r := fun b hb => by rw [e2]; simp [hb]
      obtain ⟨b, oo, m, cap, cur, e, q1, q2, q3, q4, q5, q6, q7⟩ := e3.writeSl c6 o1 (hv0 c2) o3 o4 o5 o6 hnod.1.2.1 (fun x hx h1 => hx.2 r (hin x h1))
      subst q1
      rw [hkn] at g2
      simp only [adrV, ← Nat.add_assoc] at g2
      obtain ⟨f1, f2, f3, f4, f5⟩ := setCells_frame b (a.eval V).cells.toList (oo + i * ks.length + f) w
      intro K Q hK
      unfold Oper.wp
      have hrun := run_storeAt' (P := P) w ty b (oo + i * ks.length + f) (a.eval V) q2 q3 hi (by rw [hsz, q5]) (RS_oneCell (t_cells o1 (hv0 c2)) o2)
      rw [← g2] at hrun
      have hex : (execOp a.eval o).run P w = .ok .skip (w.setCells b (oo + i * ks.length + f) (a.eval V).cells.toList) := by
        simp only [execOp, ho, Sem.run_bind, hrun, Result.andThen_ok, Sem.run_pure]
      rw [hex]
      simp only [Oper.upon, hd, put_none]
      refine hK _ _ _ (e5 _ _ F1 f1 f2 f3 (by omega) (fun x _ hx => f5 x (fun e => hx (e ▸ q4))) hnod.1.2.1 (fun x hx => .inl hx) ?_ ?_ ?_)
      · exact fitsAt_step (w := w) (A := Free w fp) p e4 (fun _ => rfl) (fun us e => by simp [T.putAt] at e)
      · intro A' hA'
        rw [hkn]; exact q6 A' hA'
      · intro p' hp' ho'
        rw [hkn] at hp' ho' ⊢
        rw [htn]
        exact q7 p' hp' ho'
    | _ => exact hc.elim
  | _ => exact hc.elim
end
end Go.Proofs.Ytaefhdklkbohmaa
/- What is owned changes hands; calls. Generic. -/
namespace Go.Proofs.Ytaefhdklkbohmaa
open Go Go.RowKit

section
variable {P : Program} {w0 : World} {I : Nat → Prop} {N : Nat} {σ τ : Nat → W} {fp : Nat → List Nat} {a : Act} {w : World}
theorem Rel.take (h : Rel w0 I N σ fp a w) {d x : Nat} (hd : d < N) (hdx : x ≠ d) (hn : NoName σ d) {k : K} {t : T} (hr : Root σ x k t) :
    Rel w0 I N (upd (upd σ x (.ref d [])) d (.own k t)) (upd (upd fp x []) d (fp x)) (a.put (some d) (Act.at a x)) w := by
  have hd' : d < a.tmps.size := by rw [h.size]; exact hd
  have hfp : ∀ s b, b ∈ upd (upd fp x []) d (fp x) s → (s = d ∧ b ∈ fp x) ∨ (s ≠ d ∧ s ≠ x ∧ b ∈ fp s) := by
    intro s b hb
    by_cases e : s = d
    · subst e; rw [upd_same] at hb; exact .inl ⟨rfl, hb⟩
    · rw [upd_ne _ _ _ e] at hb
      by_cases e' : s = x
      · subst e'; rw [upd_same] at hb; cases hb
      · rw [upd_ne _ _ _ e'] at hb; exact .inr ⟨e, e', hb⟩
  have hfree : ∀ b, Free w fp b → Free w (upd (upd fp x []) d (fp x)) b ∧ w.heap[b]? = w.heap[b]? := by
    intro b hb
    refine ⟨⟨hb.1, fun s hs => ?_⟩, rfl⟩
    rcases hfp s b hs with ⟨_, h1⟩ | ⟨_, _, h1⟩ <;> exact hb.2 _ h1
  refine h.next (by rw [put_size]; exact h.size) (by rw [put_defers]; exact h.defers) rfl rfl rfl (Nat.le_refl _) hfree ?_ ?_ ?_ ?_
  · intro s
    rw [at_put a d _ hd']
    by_cases e : s = d
    · subst e
      rw [upd_same, upd_same, upd_same]
      exact .inr (RO.mono hfree k t _ _ (fun _ _ => rfl) (h.root hr))
    · by_cases e' : s = x
      · subst e'
        rw [upd_ne _ _ _ e, upd_same, upd_ne _ _ _ e, upd_same, upd_ne _ _ _ e]
        refine .inr ⟨rfl, fun k' t' hr' _ _ => ?_⟩
        rw [upd_same]; rfl
      · refine .inl ⟨by rw [upd_ne _ _ _ e, upd_ne _ _ _ e'], by rw [upd_ne _ _ _ e, upd_ne _ _ _ e'], by rw [upd_ne _ _ _ e], fun _ _ => rfl, fun r hrn => ?_⟩
        by_cases er : r = d
        · subst er; rw [hn s e] at hrn; cases hrn
        · intro k' t' hr'
          by_cases er' : r = x
          · subst er'
            have := hr'.isRoot
            rw [upd_ne _ _ _ er, upd_same] at this; cases this
          · have hr'' : Root σ r k' t' := by
              cases hr' with
              | own e => rw [upd_ne _ _ _ er, upd_ne _ _ _ er'] at e; exact .own e
              | gd e => rw [upd_ne _ _ _ er, upd_ne _ _ _ er'] at e; exact .gd e
            exact ⟨t', hr'', fun p hp _ => ⟨hp, by rw [upd_ne _ _ _ er]⟩⟩
  · intro s
    by_cases e : s = d
    · subst e; rw [upd_same]; exact h.nodup x
    · rw [upd_ne _ _ _ e]
      by_cases e' : s = x
      · subst e'; rw [upd_same]; exact List.nodup_nil
      · rw [upd_ne _ _ _ e']; exact h.nodup s
  · intro s s' b hs hs'
    rcases hfp s b hs with ⟨h1, h2⟩ | ⟨h1, h2, h3⟩ <;> rcases hfp s' b hs' with ⟨g1, g2⟩ | ⟨g1, g2, g3⟩
    · rw [h1, g1]
    · exact absurd (h.disj x s' b h2 g3).symm g2
    · exact absurd (h.disj s x b h3 g2) h2
    · exact h.disj s s' b h3 g3
  · intro s b hs
    rcases hfp s b hs with ⟨_, h2⟩ | ⟨_, _, h2⟩ <;> exact h.there _ b h2

theorem take_does (h : Rel w0 I N σ fp a w) (hs : Sub τ σ) (o : Oper) {d x : Nat} (hd : o.dst = some d) (hN : d < N) (hdx : x ≠ d) (hn : NoName σ d) (ho : o.op = .move (.tmp x) ∨ o.op = .assign (.tmp x)) (hc : (rootAt true τ x).1) :
    Does P w0 I N o a w (upd (upd σ x (.ref d [])) d (.own (rootAt true τ x).2.1 (rootAt true τ x).2.2)) := by
  have hex : (execOp a.eval o).run P w = .ok (.value (Act.at a x)) w := by
    rcases ho with ho | ho <;> simp [execOp, ho, Act.eval, Act.at, pure]
  refine does_value hex (fp' := upd (upd fp x []) d (fp x)) ?_
  rw [hd]
  exact h.take hN hdx hn (rootAt_sound hs hc)

/-- A row that nobody else sees: the nil slice, as one's own. -/
theorem Rel.nilOwn (h : Rel w0 I N σ fp a w) {d : Nat} (hd : d < N) (hn : NoName σ d) (ks : List K) :
    Rel w0 I N (upd σ d (.own (.sl ks) (.sl ks.length []))) (upd fp d []) (a.put (some d) (.slice none 0 0)) w := by
  refine h.put hd _ _ _ (Ext.refl w) ?_ List.nodup_nil (by simp) (.inr hn)
  simp only [WW, RO]
  exact .inr ⟨[], rfl, .inl (by simp)⟩
theorem nilOwn_does (h : Rel w0 I N σ fp a w) (o : Oper) {d : Nat} (hd : o.dst = some d) (hN : d < N) (hn : NoName σ d) (ho : o.op = .move (.const (.slice none 0 0)) ∨ o.op = .assign (.const (.slice none 0 0))) (ks : List K) :
    Does P w0 I N o a w (upd σ d (.own (.sl ks) (.sl ks.length []))) := by
  have hex : (execOp a.eval o).run P w = .ok (.value (.slice none 0 0)) w := by
    rcases ho with ho | ho <;> simp [execOp, ho, Act.eval, pure]
  refine does_value hex (fp' := upd fp d []) ?_
  rw [hd]
  exact h.nilOwn hN hn ks

/-! ### Calls -/
/-- What a call gave. -/
structure Ret (w : World) (A : Nat → Prop) (w' : World) (k : K) (t : T) (c : Value) (F : List Nat) : Prop where
  ext : Ext w w'
  nodup : F.Nodup
  new : ∀ b ∈ F, w.heap.size ≤ b ∧ b < w'.heap.size
  val : RO w' (fun b => b < w'.heap.size ∧ (A b ∨ w.heap.size ≤ b) ∧ b ∉ F) k t c F
/-- A function, by its arguments and what it gives: it writes nothing that was there. -/
def ACalls (P : Program) (f : FuncId) (args : List T) (k : K) (t : T) : Prop :=
  ∀ (w : World) (A : Nat → Prop) (vs : List Value), (∀ b, A b → b < w.heap.size) → R0s w A args vs →
    Calls P f vs.toArray w fun e w' => ∃ c F, e = .returned c ∧ Ret w A w' k t c F
theorem Rel.called (h : Rel w0 I N σ fp a w) {d : Nat} (hd : d < N) (hn : NoName σ d) {w' : World} {k : K} {t : T} {c : Value} {F : List Nat} (hr : Ret w (Free w fp) w' k t c F) :
    Rel w0 I N (upd σ d (.own k t)) (upd fp d F) (a.put (some d) c) w' := by
  refine h.put hd c _ F hr.ext ?_ hr.nodup hr.new (.inr hn)
  simp only [WW]
  refine RO.mono (fun b hb => ⟨?_, rfl⟩) k t c F (fun _ _ => rfl) hr.val
  obtain ⟨h1, h2, h3⟩ := hb
  refine ⟨h1, fun s hs => ?_⟩
  by_cases e : s = d
  · subst e; rw [upd_same] at hs; exact h3 hs
  · rw [upd_ne _ _ _ e] at hs
    rcases h2 with h2 | h2
    · exact h2.2 s hs
    · have := (h.there s b hs).1; omega
theorem Rel.calledSh (h : Rel w0 I N σ fp a w) {d : Nat} (hd : d < N) {w' : World} {k : K} {t : T} {c : Value} {F : List Nat} (hr : Ret w (Free w fp) w' k t c F) (hk : k.plain = true) :
    Rel w0 I N (upd σ d (.t t)) (upd fp d []) (a.put (some d) c) w' := by
  refine h.put hd c _ [] hr.ext ?_ List.nodup_nil (by simp) (.inl rfl)
  refine ⟨rfl, ?_⟩
  have hfr : ∀ b, b < w'.heap.size → (Free w fp b ∨ w.heap.size ≤ b) → Free w' (upd fp d []) b := by
    intro b h1 h2
    refine ⟨h1, fun s hs => ?_⟩
    by_cases e : s = d
    · subst e; rw [upd_same] at hs; cases hs
    · rw [upd_ne _ _ _ e] at hs
      rcases h2 with h2 | h2
      · exact h2.2 s hs
      · have := (h.there s b hs).1; omega
  exact RO.read (fun b hb => hfr b hb.1 hb.2.1) k t c F hk (fun b hb => hfr b (hr.new b hb).2 (.inr (hr.new b hb).1)) hr.val
end
end Go.Proofs.Ytaefhdklkbohmaa
/- The operation that calls. Generic. -/
namespace Go.Proofs.Ytaefhdklkbohmaa
open Go Go.RowKit

def isFn (P : Program) (f : FuncId) : Bool :=
  match P.funcs[f]? with
  | some fn => !(fn.name == "runtime.NumGoroutine") && fn.body.isSome
  | none => false
theorem run_enter {P : Program} {f : FuncId} (h : isFn P f = true) (args : Array Value) (w : World) : (callFunc f args).run P w = .ok (.enter f args) w := by
  unfold isFn at h
  split at h
  · rename_i fn hf
    simp only [Bool.and_eq_true, Bool.not_eq_true'] at h
    obtain ⟨c, hc⟩ := Option.isSome_iff_exists.1 h.2
    exact MuLone.run_callFunc_enter hf h.1 hc args w
  · cases h
def isCall (o : Oper) : Option (FuncId × List Operand) :=
  match o.op with
  | .call c => match c.callee with
    | .value (.func f) => some (f, c.args.toList)
    | _ => none
  | _ => none
def matOs : List Operand → List Opd → Bool
  | [], [] => true
  | X :: Xs, x :: xs => matO X x && matOs Xs xs
  | _, _ => false
/-- Data, all of them. -/
def evTs (g : Bool) (τ : Nat → W) : List Opd → Prop × List T
  | [] => (True, [])
  | x :: xs => match evT g τ x, evTs g τ xs with
    | (c, t), (d, ts) => (c ∧ (match t with | .tup _ => False | _ => True) ∧ d, t :: ts)

section
variable {P : Program} {w0 : World} {I : Nat → Prop} {N : Nat} {σ τ : Nat → W} {fp : Nat → List Nat} {a : Act} {w : World}
theorem evTs_sound (h : Rel w0 I N σ fp a w) (hs : Sub τ σ) : ∀ {Xs : List Operand} {xs : List Opd}, matOs Xs xs = true → (evTs true τ xs).1 → R0s w (Free w fp) (evTs true τ xs).2 (Xs.map a.eval)
  | [], [], _, _ => by simp [evTs, R0s]
  | [], _ :: _, h, _ => by simp [matOs] at h
  | _ :: _, [], h, _ => by simp [matOs] at h
  | X :: Xs, x :: xs, hm, hc => by
    simp only [matOs, Bool.and_eq_true] at hm
    simp only [evTs] at hc ⊢
    obtain ⟨c1, c2, c3⟩ := hc
    refine ⟨_, _, rfl, R0s_leaf (evT_sound h hs hm.1 c1) (fun us e => ?_), evTs_sound h hs hm.2 c3⟩
    rw [e] at c2; exact c2
theorem exec_call (o : Oper) {f : FuncId} {Xs : List Operand} (ho : isCall o = some (f, Xs)) (hf : isFn P f = true) : (execOp a.eval o).run P w = .ok (.enter f (Xs.map a.eval).toArray) w := by
  unfold isCall at ho
  split at ho
  · rename_i c hc
    split at ho
    · rename_i f' hcal
      simp only [Option.some.injEq, Prod.mk.injEq] at ho
      obtain ⟨rfl, rfl⟩ := ho
      simp [execOp, hc, resolve, hcal, Deferred.ofValue, Act.eval, invoke, run_enter hf]
      exact Array.toList_inj.1 (by simp)
    · cases ho
  · cases ho
theorem call_does (h : Rel w0 I N σ fp a w) (hs : Sub τ σ) (o : Oper) {d : Nat} (hd : o.dst = some d) (hN : d < N) (hn : NoName σ d) {f : FuncId} {Xs : List Operand} (ho : isCall o = some (f, Xs)) (hf : isFn P f = true)
    {xs : List Opd} (hm : matOs Xs xs = true) (hc : (evTs true τ xs).1) {k : K} {t : T} (hk : ACalls P f (evTs true τ xs).2 k t) : Does P w0 I N o a w (upd σ d (.own k t)) := by
  intro K Q hK
  unfold Oper.wp
  rw [exec_call o ho hf]
  refine Calls.mono (hk w (Free w fp) _ (fun b hb => hb.1) (evTs_sound h hs hm hc)) ?_
  rintro e w' ⟨c, F, rfl, hr⟩
  simp only [hd]
  exact hK _ _ _ (h.called hN hn hr)
theorem callSh_does (h : Rel w0 I N σ fp a w) (hs : Sub τ σ) (o : Oper) {d : Nat} (hd : o.dst = some d) (hN : d < N) {f : FuncId} {Xs : List Operand} (ho : isCall o = some (f, Xs)) (hf : isFn P f = true)
    {xs : List Opd} (hm : matOs Xs xs = true) (hc : (evTs true τ xs).1) {k : K} {t : T} (hp : k.plain = true) (hk : ACalls P f (evTs true τ xs).2 k t) : Does P w0 I N o a w (upd σ d (.t t)) := by
  intro K Q hK
  unfold Oper.wp
  rw [exec_call o ho hf]
  refine Calls.mono (hk w (Free w fp) _ (fun b hb => hb.1) (evTs_sound h hs hm hc)) ?_
  rintro e w' ⟨c, F, rfl, hr⟩
  simp only [hd]
  exact hK _ _ _ (h.calledSh hN hr hp)
end
end Go.Proofs.Ytaefhdklkbohmaa
