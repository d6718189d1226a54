import PyProof.Rows.All
import Wide.All
import OpenK.AllK
import Wide.FinOn
import PyProof.ReprBulk
import PyProof.EqLayable
import HandS.ForMost
import HandS.TupAny
import HandS.IsInst
import HandS.More
import HandS.Codes
import PySem.PyData
import PySem.Challenge.RW_shiptrace_k12_whole_normal_form
set_option Elab.async false
set_option linter.all false
set_option maxRecDepth 100000
set_option maxHeartbeats 8000000
/-! Expressions of the law, their rewritings, one normal form: plain Lean, no program in sight. -/
namespace K12
open PySem

/-- a character: its sign, its index (the change is always 1) -/
structure Ch where
  sg : Str
  ix : Int
  deriving DecidableEq
abbrev Tx := List Ch

inductive UK where | slice (i j : Nat) | dyn deriving DecidableEq
inductive BK where | concat | find | after | before | coin (c : Nat) deriving DecidableEq
inductive TK where | repl | ite deriving DecidableEq
inductive AK where | file | ofile | target | cfiles deriving DecidableEq

inductive Ex (α : Type) where
  | lit (t : α)
  | atom (k : AK) (n : Str)
  | un (k : UK) (a : Ex α)
  | bin (k : BK) (a b : Ex α)
  | tri (k : TK) (a b c : Ex α)
  deriving DecidableEq

def cut {β : Type} (t : List β) (i j : Nat) : List β := (t.drop i).take (j - i)

/-! ### the rules -/
def cat3 : Ex Tx → Ex Tx → List (Ex Tx)
  | .lit s, .lit t => if s.length + t.length ≤ 120 then [.lit (s ++ t)] else []
  | _, _ => []
def sl4 (i j : Nat) : Ex Tx → List (Ex Tx)
  | .lit t => [.lit (cut t i j)]
  | _ => []
def sl5 (k l : Nat) : Ex Tx → List (Ex Tx)
  | .un (.slice i j) e => [.un (.slice (i + k) (min j (i + l))) e]
  | _ => []
def isLit : Ex Tx → Bool
  | .lit _ => true
  | _ => false
def pick10 (d e : Ex Tx) : Ex Tx → List (Ex Tx)
  | .lit t => [if t = [] then e else d]
  | _ => []
def topB (k : BK) (a b : Ex Tx) : List (Ex Tx) :=
  match k with
  | .concat => (if a = .lit [] then [b] else []) ++ (if b = .lit [] then [a] else []) ++ cat3 a b
  | .find => if b = .lit [] then [.un (.slice 0 0) a] else []
  | .before => if b = .lit [] then [.un (.slice 0 0) a] else []
  | .after => if b = .lit [] then [a] else []
  | .coin _ => []
def topU (k : UK) (a : Ex Tx) : List (Ex Tx) :=
  match k with
  | .slice i j => sl4 i j a ++ sl5 i j a ++ (if i ≠ 0 ∧ j ≤ i then [.un (.slice 0 0) a] else [])
  | .dyn => []
def topT (k : TK) (a b c : Ex Tx) : List (Ex Tx) :=
  match k with
  | .repl => if b = .lit [] then (if isLit c = true then [a] else []) else []
  | .ite => pick10 b c a
def top : Ex Tx → List (Ex Tx)
  | .lit _ => []
  | .atom _ _ => []
  | .un k a => topU k a
  | .bin k a b => topB k a b
  | .tri k a b c => topT k a b c
def rws : Ex Tx → List (Ex Tx)
  | .lit _ => []
  | .atom _ _ => []
  | .un k a => topU k a ++ (rws a).map (.un k)
  | .bin k a b => topB k a b ++ ((rws a).map (fun x => .bin k x b) ++ (rws b).map (fun x => .bin k a x))
  | .tri k a b c => topT k a b c ++ ((rws a).map (fun x => .tri k x b c) ++ ((rws b).map (fun x => .tri k a x c) ++ (rws c).map (fun x => .tri k a b x)))

inductive Top : Ex Tx → Ex Tx → Prop
  | r1 (e : Ex Tx) : Top (.bin .concat (.lit []) e) e
  | r2 (e : Ex Tx) : Top (.bin .concat e (.lit [])) e
  | r3 (s t : Tx) (h : s.length + t.length ≤ 120) : Top (.bin .concat (.lit s) (.lit t)) (.lit (s ++ t))
  | r4 (t : Tx) (i j : Nat) : Top (.un (.slice i j) (.lit t)) (.lit (cut t i j))
  | r5 (e : Ex Tx) (i j k l : Nat) : Top (.un (.slice k l) (.un (.slice i j) e)) (.un (.slice (i + k) (min j (i + l))) e)
  | r6 (e : Ex Tx) (i j : Nat) (h : i ≠ 0) (h2 : j ≤ i) : Top (.un (.slice i j) e) (.un (.slice 0 0) e)
  | r7f (e : Ex Tx) : Top (.bin .find e (.lit [])) (.un (.slice 0 0) e)
  | r7b (e : Ex Tx) : Top (.bin .before e (.lit [])) (.un (.slice 0 0) e)
  | r8 (e : Ex Tx) : Top (.bin .after e (.lit [])) e
  | r9 (e : Ex Tx) (t : Tx) : Top (.tri .repl e (.lit []) (.lit t)) e
  | r10 (t : Tx) (d e : Ex Tx) : Top (.tri .ite (.lit t) d e) (if t = [] then e else d)
inductive Step : Ex Tx → Ex Tx → Prop
  | top {a b : Ex Tx} (h : Top a b) : Step a b
  | un {k : UK} {a a' : Ex Tx} (h : Step a a') : Step (.un k a) (.un k a')
  | bin1 {k : BK} {a a' b : Ex Tx} (h : Step a a') : Step (.bin k a b) (.bin k a' b)
  | bin2 {k : BK} {a b b' : Ex Tx} (h : Step b b') : Step (.bin k a b) (.bin k a b')
  | tri1 {k : TK} {a a' b c : Ex Tx} (h : Step a a') : Step (.tri k a b c) (.tri k a' b c)
  | tri2 {k : TK} {a b b' c : Ex Tx} (h : Step b b') : Step (.tri k a b c) (.tri k a b' c)
  | tri3 {k : TK} {a b c c' : Ex Tx} (h : Step c c') : Step (.tri k a b c) (.tri k a b c')
inductive Steps : Ex Tx → Ex Tx → Prop
  | refl (a : Ex Tx) : Steps a a
  | head {a b c : Ex Tx} (h : Step a b) (t : Steps b c) : Steps a c

theorem Steps.one {a b : Ex Tx} (h : Step a b) : Steps a b := .head h (.refl _)
theorem Steps.trans {a b c : Ex Tx} (h : Steps a b) (g : Steps b c) : Steps a c := by
  induction h with
  | refl => exact g
  | head s _ ih => exact .head s (ih g)
theorem Steps.un {k : UK} {a b : Ex Tx} (h : Steps a b) : Steps (.un k a) (.un k b) := by
  induction h with
  | refl => exact .refl _
  | head s _ ih => exact .head (.un s) ih
theorem Steps.bin1 {k : BK} {a b c : Ex Tx} (h : Steps a b) : Steps (.bin k a c) (.bin k b c) := by
  induction h with
  | refl => exact .refl _
  | head s _ ih => exact .head (.bin1 s) ih
theorem Steps.bin2 {k : BK} {a b c : Ex Tx} (h : Steps a b) : Steps (.bin k c a) (.bin k c b) := by
  induction h with
  | refl => exact .refl _
  | head s _ ih => exact .head (.bin2 s) ih
theorem Steps.tri1 {k : TK} {a b c d : Ex Tx} (h : Steps a b) : Steps (.tri k a c d) (.tri k b c d) := by
  induction h with
  | refl => exact .refl _
  | head s _ ih => exact .head (.tri1 s) ih
theorem Steps.tri2 {k : TK} {a b c d : Ex Tx} (h : Steps a b) : Steps (.tri k c a d) (.tri k c b d) := by
  induction h with
  | refl => exact .refl _
  | head s _ ih => exact .head (.tri2 s) ih
theorem Steps.tri3 {k : TK} {a b c d : Ex Tx} (h : Steps a b) : Steps (.tri k c d a) (.tri k c d b) := by
  induction h with
  | refl => exact .refl _
  | head s _ ih => exact .head (.tri3 s) ih

/-! ### the list of rewritings and the relation -/
theorem top_of_mem {e x : Ex Tx} (h : x ∈ top e) : Top e x := by
  cases e with
  | lit t => exact absurd h List.not_mem_nil
  | atom k n => exact absurd h List.not_mem_nil
  | un k a =>
    cases k with
    | dyn => exact absurd h List.not_mem_nil
    | slice i j =>
      rcases List.mem_append.mp h with h | h
      · rcases List.mem_append.mp h with h | h
        · cases a with
          | lit t =>
            cases List.mem_singleton.mp h
            exact .r4 t i j
          | _ => exact absurd h List.not_mem_nil
        · cases a with
          | un k b =>
            cases k with
            | slice i' j' =>
              cases List.mem_singleton.mp h
              exact .r5 b i' j' i j
            | dyn => exact absurd h List.not_mem_nil
          | _ => exact absurd h List.not_mem_nil
      · split at h
        · rename_i hc
          cases List.mem_singleton.mp h
          exact .r6 a i j hc.1 hc.2
        · exact absurd h List.not_mem_nil
  | bin k a b =>
    cases k with
    | coin c => exact absurd h List.not_mem_nil
    | concat =>
      rcases List.mem_append.mp h with h | h
      · rcases List.mem_append.mp h with h | h
        · split at h
          · rename_i hc
            cases List.mem_singleton.mp h
            subst hc
            exact .r1 _
          · exact absurd h List.not_mem_nil
        · split at h
          · rename_i hc
            cases List.mem_singleton.mp h
            subst hc
            exact .r2 _
          · exact absurd h List.not_mem_nil
      · cases a with
        | lit s =>
          cases b with
          | lit t =>
            have h' : x ∈ (if s.length + t.length ≤ 120 then [Ex.lit (s ++ t)] else []) := h
            split at h'
            · rename_i hc
              cases List.mem_singleton.mp h'
              exact .r3 s t hc
            · exact absurd h' List.not_mem_nil
          | _ => exact absurd h List.not_mem_nil
        | _ => exact absurd h (by cases b <;> exact List.not_mem_nil)
    | find =>
      have h' : x ∈ (if b = .lit [] then [Ex.un (.slice 0 0) a] else []) := h
      split at h'
      · rename_i hc
        cases List.mem_singleton.mp h'
        subst hc
        exact .r7f a
      · exact absurd h' List.not_mem_nil
    | before =>
      have h' : x ∈ (if b = .lit [] then [Ex.un (.slice 0 0) a] else []) := h
      split at h'
      · rename_i hc
        cases List.mem_singleton.mp h'
        subst hc
        exact .r7b a
      · exact absurd h' List.not_mem_nil
    | after =>
      have h' : x ∈ (if b = .lit [] then [a] else []) := h
      split at h'
      · rename_i hc
        cases List.mem_singleton.mp h'
        subst hc
        exact .r8 _
      · exact absurd h' List.not_mem_nil
  | tri k a b c =>
    cases k with
    | repl =>
      have h' : x ∈ (if b = .lit [] then (if isLit c = true then [a] else []) else []) := h
      split at h'
      · rename_i hc
        subst hc
        cases c with
        | lit t =>
          cases List.mem_singleton.mp h'
          exact .r9 _ t
        | _ => exact absurd h' List.not_mem_nil
      · exact absurd h' List.not_mem_nil
    | ite =>
      cases a with
      | lit t =>
        cases List.mem_singleton.mp h
        exact .r10 t b c
      | _ => exact absurd h List.not_mem_nil
theorem mem_of_top {e x : Ex Tx} (h : Top e x) : x ∈ top e := by
  cases h with
  | r1 e =>
    show x ∈ (if (Ex.lit [] : Ex Tx) = .lit [] then [x] else []) ++ _ ++ _
    rw [if_pos rfl]
    simp
  | r2 e =>
    show x ∈ _ ++ (if (Ex.lit [] : Ex Tx) = .lit [] then [x] else []) ++ _
    rw [if_pos rfl]
    simp
  | r3 s t h =>
    show _ ∈ _ ++ _ ++ (if s.length + t.length ≤ 120 then [Ex.lit (s ++ t)] else [])
    rw [if_pos h]
    simp
  | r4 t i j =>
    show _ ∈ [Ex.lit (cut t i j)] ++ _ ++ _
    simp
  | r5 e i j k l =>
    show _ ∈ _ ++ [Ex.un (.slice (i + k) (min j (i + l))) e] ++ _
    simp
  | r6 e i j h h2 =>
    show _ ∈ _ ++ _ ++ (if i ≠ 0 ∧ j ≤ i then [Ex.un (.slice 0 0) e] else [])
    rw [if_pos ⟨h, h2⟩]
    simp
  | r7f e =>
    show _ ∈ (if (Ex.lit [] : Ex Tx) = .lit [] then [Ex.un (.slice 0 0) e] else [])
    rw [if_pos rfl]
    simp
  | r7b e =>
    show _ ∈ (if (Ex.lit [] : Ex Tx) = .lit [] then [Ex.un (.slice 0 0) e] else [])
    rw [if_pos rfl]
    simp
  | r8 e =>
    show _ ∈ (if (Ex.lit [] : Ex Tx) = .lit [] then [x] else [])
    rw [if_pos rfl]
    simp
  | r9 e t =>
    show _ ∈ (if (Ex.lit [] : Ex Tx) = .lit [] then [x] else [])
    rw [if_pos rfl]
    simp
  | r10 t d e => exact List.mem_singleton.mpr rfl
theorem step_of_mem : ∀ {e x : Ex Tx}, x ∈ rws e → Step e x
  | .lit _, _, h => absurd h List.not_mem_nil
  | .atom _ _, _, h => absurd h List.not_mem_nil
  | .un k a, x, h => by
    rcases List.mem_append.mp h with h | h
    · exact .top (top_of_mem (e := .un k a) h)
    · obtain ⟨y, hy, rfl⟩ := List.mem_map.mp h
      exact .un (step_of_mem hy)
  | .bin k a b, x, h => by
    rcases List.mem_append.mp h with h | h
    · exact .top (top_of_mem (e := .bin k a b) h)
    · rcases List.mem_append.mp h with h | h
      · obtain ⟨y, hy, rfl⟩ := List.mem_map.mp h
        exact .bin1 (step_of_mem hy)
      · obtain ⟨y, hy, rfl⟩ := List.mem_map.mp h
        exact .bin2 (step_of_mem hy)
  | .tri k a b c, x, h => by
    rcases List.mem_append.mp h with h | h
    · exact .top (top_of_mem (e := .tri k a b c) h)
    · rcases List.mem_append.mp h with h | h
      · obtain ⟨y, hy, rfl⟩ := List.mem_map.mp h
        exact .tri1 (step_of_mem hy)
      · rcases List.mem_append.mp h with h | h
        · obtain ⟨y, hy, rfl⟩ := List.mem_map.mp h
          exact .tri2 (step_of_mem hy)
        · obtain ⟨y, hy, rfl⟩ := List.mem_map.mp h
          exact .tri3 (step_of_mem hy)
theorem top_sub {e x : Ex Tx} (h : x ∈ top e) : x ∈ rws e := by
  cases e with
  | lit t => exact h
  | atom k n => exact h
  | un k a => exact List.mem_append_left _ h
  | bin k a b => exact List.mem_append_left _ h
  | tri k a b c => exact List.mem_append_left _ h
theorem mem_of_step {e x : Ex Tx} (h : Step e x) : x ∈ rws e := by
  induction h with
  | top h => exact top_sub (mem_of_top h)
  | un h ih => exact List.mem_append_right _ (List.mem_map.mpr ⟨_, ih, rfl⟩)
  | bin1 h ih => exact List.mem_append_right _ (List.mem_append_left _ (List.mem_map.mpr ⟨_, ih, rfl⟩))
  | bin2 h ih => exact List.mem_append_right _ (List.mem_append_right _ (List.mem_map.mpr ⟨_, ih, rfl⟩))
  | tri1 h ih => exact List.mem_append_right _ (List.mem_append_left _ (List.mem_map.mpr ⟨_, ih, rfl⟩))
  | tri2 h ih => exact List.mem_append_right _ (List.mem_append_right _ (List.mem_append_left _ (List.mem_map.mpr ⟨_, ih, rfl⟩)))
  | tri3 h ih => exact List.mem_append_right _ (List.mem_append_right _ (List.mem_append_right _ (List.mem_map.mpr ⟨_, ih, rfl⟩)))
def Normal (e : Ex Tx) : Prop := rws e = []
theorem Normal.no {e x : Ex Tx} (n : Normal e) (h : Step e x) : False := by
  have q := mem_of_step h
  rw [n] at q
  exact List.not_mem_nil q

/-! ### every step lowers a measure -/
def M {α : Type} : Ex α → Nat
  | .lit _ => 1
  | .atom _ _ => 1
  | .un (.slice i _) a => M a + 1 + (if i = 0 then 0 else 1)
  | .un .dyn a => M a + 1
  | .bin _ a b => M a + M b + 1
  | .tri _ a b c => M a + M b + M c + 1
def size {α : Type} : Ex α → Nat
  | .lit _ => 1
  | .atom _ _ => 1
  | .un _ a => size a + 1
  | .bin _ a b => size a + size b + 1
  | .tri _ a b c => size a + size b + size c + 1
theorem M_pos {α : Type} (e : Ex α) : 1 ≤ M e := by
  cases e with
  | lit t => exact Nat.le_refl _
  | atom k n => exact Nat.le_refl _
  | un k a =>
    cases k with
    | slice i j => show 1 ≤ M a + 1 + _; omega
    | dyn => show 1 ≤ M a + 1; omega
  | bin k a b => show 1 ≤ M a + M b + 1; omega
  | tri k a b c => show 1 ≤ M a + M b + M c + 1; omega
theorem M_size {α : Type} : ∀ e : Ex α, M e + 1 ≤ 2 * size e
  | .lit _ => Nat.le_refl _
  | .atom _ _ => Nat.le_refl _
  | .un (.slice i _) a => by
    have := M_size a
    show M a + 1 + (if i = 0 then 0 else 1) + 1 ≤ 2 * (size a + 1)
    split <;> omega
  | .un .dyn a => by
    have := M_size a
    show M a + 1 + 1 ≤ 2 * (size a + 1)
    omega
  | .bin _ a b => by
    have h1 := M_size a
    have h2 := M_size b
    show M a + M b + 1 + 1 ≤ 2 * (size a + size b + 1)
    omega
  | .tri _ a b c => by
    have h1 := M_size a
    have h2 := M_size b
    have h3 := M_size c
    show M a + M b + M c + 1 + 1 ≤ 2 * (size a + size b + size c + 1)
    omega
theorem M_un {α : Type} (k : UK) {a b : Ex α} (h : M b < M a) : M (.un k b) < M (.un k a) := by
  cases k with
  | slice i j => show M b + 1 + _ < M a + 1 + _; omega
  | dyn => show M b + 1 < M a + 1; omega
theorem M_top {a b : Ex Tx} (h : Top a b) : M b < M a := by
  cases h with
  | r1 e => show M b < 1 + M b + 1; omega
  | r2 e => show M b < M b + 1 + 1; omega
  | r3 s t h => show 1 < 1 + 1 + 1; omega
  | r4 t i j => show 1 < 1 + 1 + _; omega
  | r5 e i j k l =>
    show M e + 1 + (if i + k = 0 then 0 else 1) < M e + 1 + (if i = 0 then 0 else 1) + 1 + (if k = 0 then 0 else 1)
    by_cases hi : i = 0
    · by_cases hk : k = 0
      · rw [if_pos hi, if_pos hk, if_pos (by omega)]; omega
      · rw [if_pos hi, if_neg hk, if_neg (by omega)]; omega
    · rw [if_neg hi, if_neg (show ¬ i + k = 0 by omega)]
      split <;> omega
  | r6 e i j h h2 =>
    show M e + 1 + (if (0 : Nat) = 0 then 0 else 1) < M e + 1 + (if i = 0 then 0 else 1)
    rw [if_pos rfl, if_neg h]; omega
  | r7f e => show M e + 1 + (if (0 : Nat) = 0 then 0 else 1) < M e + 1 + 1; rw [if_pos rfl]; omega
  | r7b e => show M e + 1 + (if (0 : Nat) = 0 then 0 else 1) < M e + 1 + 1; rw [if_pos rfl]; omega
  | r8 e => show M b < M b + 1 + 1; omega
  | r9 e t => show M b < M b + 1 + 1 + 1; omega
  | r10 t d e =>
    show M (if t = [] then e else d) < 1 + M d + M e + 1
    split <;> omega
theorem M_step {a b : Ex Tx} (h : Step a b) : M b < M a := by
  induction h with
  | top h => exact M_top h
  | un h ih => exact M_un _ ih
  | @bin1 k a a' b h ih => show M a' + M b + 1 < M a + M b + 1; omega
  | @bin2 k a b b' h ih => show M a + M b' + 1 < M a + M b + 1; omega
  | @tri1 k a a' b c h ih => show M a' + M b + M c + 1 < M a + M b + M c + 1; omega
  | @tri2 k a b b' c h ih => show M a + M b' + M c + 1 < M a + M b + M c + 1; omega
  | @tri3 k a b c c' h ih => show M a + M b + M c' + 1 < M a + M b + M c + 1; omega
theorem M_steps {a b : Ex Tx} (h : Steps a b) : M b ≤ M a := by
  induction h with
  | refl => exact Nat.le_refl _
  | head s _ ih =>
    have := M_step s
    omega

/-! ### two steps from one expression meet again -/
def Meet (a b : Ex Tx) : Prop := ∃ d, Steps a d ∧ Steps b d
theorem Meet.symm {a b : Ex Tx} (h : Meet a b) : Meet b a := let ⟨d, x, y⟩ := h; ⟨d, y, x⟩
theorem Meet.same (a : Ex Tx) : Meet a a := ⟨a, .refl _, .refl _⟩
theorem Meet.eq {a b : Ex Tx} (h : a = b) : Meet a b := h ▸ Meet.same a
theorem no_lit {t : Tx} {x : Ex Tx} (h : Step (.lit t) x) : False := by
  cases h with
  | top h => cases h
theorem cut_cut {β : Type} (t : List β) (i j k l : Nat) : cut (cut t i j) k l = cut t (i + k) (min j (i + l)) := by
  unfold cut
  rw [List.drop_take, List.drop_drop, List.take_take]
  congr 1
  omega
theorem slice_zero (e : Ex Tx) (i j : Nat) (h : j ≤ i) : Steps (.un (.slice i j) e) (.un (.slice 0 0) e) := by
  by_cases hi : i = 0
  · subst hi
    have : j = 0 := by omega
    subst this
    exact .refl _
  · exact .one (.top (.r6 e i j hi h))
theorem top_top {e a b : Ex Tx} (h : Top e a) (g : Top e b) : Meet a b := by
  cases h with
  | r1 e =>
    cases g with
    | r1 => exact Meet.same _
    | r2 => exact Meet.same _
    | r3 s t h => exact Meet.eq (by simp)
  | r2 e =>
    cases g with
    | r1 => exact Meet.same _
    | r2 => exact Meet.same _
    | r3 s t h => exact Meet.eq (by simp)
  | r3 s t h =>
    cases g with
    | r1 => exact Meet.eq (by simp)
    | r2 => exact Meet.eq (by simp)
    | r3 s t h => exact Meet.same _
  | r4 t i j =>
    cases g with
    | r4 => exact Meet.same _
    | r6 e i j h h2 =>
      refine ⟨_, .refl _, ?_⟩
      have e1 : cut t i j = cut t 0 0 := by
        unfold cut
        rw [show j - i = 0 by omega]
        simp
      rw [e1]
      exact .one (.top (.r4 t 0 0))
  | r5 x i j k l =>
    cases g with
    | r5 => exact Meet.same _
    | r6 e i' j' h h2 =>
      refine ⟨.un (.slice 0 0) x, slice_zero x _ _ (by omega), ?_⟩
      refine .head (.top (.r5 x i j 0 0)) (slice_zero x _ _ (by omega))
  | r6 x i j h h2 =>
    cases g with
    | r4 t =>
      refine ⟨_, ?_, .refl _⟩
      have e1 : cut t i j = cut t 0 0 := by
        unfold cut
        rw [show j - i = 0 by omega]
        simp
      rw [e1]
      exact .one (.top (.r4 t 0 0))
    | r5 y i' j' =>
      refine ⟨.un (.slice 0 0) y, ?_, slice_zero y _ _ (by omega)⟩
      refine .head (.top (.r5 y i' j' 0 0)) (slice_zero y _ _ (by omega))
    | r6 => exact Meet.same _
  | r7f e =>
    cases g with
    | r7f => exact Meet.same _
  | r7b e =>
    cases g with
    | r7b => exact Meet.same _
  | r8 e =>
    cases g with
    | r8 => exact Meet.same _
  | r9 e t =>
    cases g with
    | r9 => exact Meet.same _
  | r10 t d e =>
    cases g with
    | r10 => exact Meet.same _
theorem top_inner {e a b : Ex Tx} (h : Top e a) (g : Step e b) : Meet a b := by
  cases g with
  | top g => exact top_top h g
  | @un k x x' g =>
    cases h with
    | r4 t i j => exact (no_lit g).elim
    | r5 y i j k l =>
      cases g with
      | top g =>
        cases g with
        | r4 t =>
          refine ⟨_, .one (.top (.r4 _ _ _)), ?_⟩
          rw [← cut_cut]
          exact .one (.top (.r4 _ _ _))
        | r5 z p q =>
          refine ⟨_, .one (.top (.r5 z p q (i + k) (min j (i + l)))), ?_⟩
          have q1 : p + (i + k) = p + i + k := by omega
          have q2 : min q (p + min j (i + l)) = min (min q (p + j)) (p + i + l) := by omega
          rw [q1, q2]
          exact .one (.top (.r5 z (p + i) (min q (p + j)) k l))
        | r6 _ _ _ hi hj =>
          refine ⟨.un (.slice 0 0) y, slice_zero y _ _ (by omega), ?_⟩
          exact .head (.top (.r5 y 0 0 k l)) (slice_zero y _ _ (by omega))
      | un g => exact ⟨_, .one (.un g), .one (.top (.r5 _ i j k l))⟩
    | r6 y i j hi hj => exact ⟨_, .one (.un g), .one (.top (.r6 _ i j hi hj))⟩
  | @bin1 k x x' y g =>
    cases h with
    | r1 => exact (no_lit g).elim
    | r2 => exact ⟨_, .one g, .one (.top (.r2 _))⟩
    | r3 => exact (no_lit g).elim
    | r7f => exact ⟨_, .one (.un g), .one (.top (.r7f _))⟩
    | r7b => exact ⟨_, .one (.un g), .one (.top (.r7b _))⟩
    | r8 => exact ⟨_, .one g, .one (.top (.r8 _))⟩
  | @bin2 k x y y' g =>
    cases h with
    | r1 => exact ⟨_, .one g, .one (.top (.r1 _))⟩
    | r2 => exact (no_lit g).elim
    | r3 => exact (no_lit g).elim
    | r7f => exact (no_lit g).elim
    | r7b => exact (no_lit g).elim
    | r8 => exact (no_lit g).elim
  | @tri1 k x x' y z g =>
    cases h with
    | r9 => exact ⟨_, .one g, .one (.top (.r9 _ _))⟩
    | r10 => exact (no_lit g).elim
  | @tri2 k x y y' z g =>
    cases h with
    | r9 => exact (no_lit g).elim
    | r10 t d e =>
      refine ⟨_, ?_, .one (.top (.r10 t _ _))⟩
      by_cases ht : t = []
      · rw [if_pos ht, if_pos ht]; exact .refl _
      · rw [if_neg ht, if_neg ht]; exact .one g
  | @tri3 k x y z z' g =>
    cases h with
    | r9 => exact (no_lit g).elim
    | r10 t d e =>
      refine ⟨_, ?_, .one (.top (.r10 t _ _))⟩
      by_cases ht : t = []
      · rw [if_pos ht, if_pos ht]; exact .one g
      · rw [if_neg ht, if_neg ht]; exact .refl _
theorem local_meet {e a b : Ex Tx} (h : Step e a) (g : Step e b) : Meet a b := by
  induction h generalizing b with
  | top h => exact top_inner h g
  | un h ih =>
    cases g with
    | top g => exact (top_inner g (.un h)).symm
    | un g =>
      obtain ⟨d, x, y⟩ := ih g
      exact ⟨_, x.un, y.un⟩
  | bin1 h ih =>
    cases g with
    | top g => exact (top_inner g (.bin1 h)).symm
    | bin1 g =>
      obtain ⟨d, x, y⟩ := ih g
      exact ⟨_, x.bin1, y.bin1⟩
    | bin2 g => exact ⟨_, .one (.bin2 g), .one (.bin1 h)⟩
  | bin2 h ih =>
    cases g with
    | top g => exact (top_inner g (.bin2 h)).symm
    | bin1 g => exact ⟨_, .one (.bin1 g), .one (.bin2 h)⟩
    | bin2 g =>
      obtain ⟨d, x, y⟩ := ih g
      exact ⟨_, x.bin2, y.bin2⟩
  | tri1 h ih =>
    cases g with
    | top g => exact (top_inner g (.tri1 h)).symm
    | tri1 g =>
      obtain ⟨d, x, y⟩ := ih g
      exact ⟨_, x.tri1, y.tri1⟩
    | tri2 g => exact ⟨_, .one (.tri2 g), .one (.tri1 h)⟩
    | tri3 g => exact ⟨_, .one (.tri3 g), .one (.tri1 h)⟩
  | tri2 h ih =>
    cases g with
    | top g => exact (top_inner g (.tri2 h)).symm
    | tri1 g => exact ⟨_, .one (.tri1 g), .one (.tri2 h)⟩
    | tri2 g =>
      obtain ⟨d, x, y⟩ := ih g
      exact ⟨_, x.tri2, y.tri2⟩
    | tri3 g => exact ⟨_, .one (.tri3 g), .one (.tri2 h)⟩
  | tri3 h ih =>
    cases g with
    | top g => exact (top_inner g (.tri3 h)).symm
    | tri1 g => exact ⟨_, .one (.tri1 g), .one (.tri3 h)⟩
    | tri2 g => exact ⟨_, .one (.tri2 g), .one (.tri3 h)⟩
    | tri3 g =>
      obtain ⟨d, x, y⟩ := ih g
      exact ⟨_, x.tri3, y.tri3⟩
theorem meet : ∀ (n : Nat) {e a b : Ex Tx}, M e ≤ n → Steps e a → Steps e b → Meet a b := by
  intro n
  induction n with
  | zero =>
    intro e a b hn
    have := M_pos e
    omega
  | succ n ih =>
    intro e a b hn h g
    cases h with
    | refl => exact ⟨b, g, .refl _⟩
    | @head _ x _ s h =>
      cases g with
      | refl => exact ⟨a, .refl _, .head s h⟩
      | @head _ y _ s' g =>
        have hx := M_step s
        have hy := M_step s'
        obtain ⟨d0, x0, y0⟩ := local_meet s s'
        obtain ⟨d1, a1, c1⟩ := ih (by omega) h x0
        obtain ⟨d2, b2, c2⟩ := ih (by omega) g y0
        have h0 := M_steps x0
        obtain ⟨d3, p, q⟩ := ih (by omega) c1 c2
        exact ⟨d3, a1.trans p, b2.trans q⟩
theorem Steps.of_normal {a b : Ex Tx} (n : Normal a) (h : Steps a b) : a = b := by
  cases h with
  | refl => rfl
  | head s _ => exact (n.no s).elim
/-- ONE NORMAL FORM -/
theorem unique {e a b : Ex Tx} (h : Steps e a) (g : Steps e b) (na : Normal a) (nb : Normal b) : a = b := by
  obtain ⟨d, x, y⟩ := meet (M e) (Nat.le_refl _) h g
  exact (x.of_normal na).trans (y.of_normal nb).symm
end K12

/-! What an expression is as data, its parts, what stays bounded on the road. -/
namespace K12
open PySem

/-! ### parts -/
def subs {α : Type} : Ex α → List (Ex α)
  | .lit t => [.lit t]
  | .atom k n => [.atom k n]
  | .un k a => .un k a :: subs a
  | .bin k a b => .bin k a b :: (subs a ++ subs b)
  | .tri k a b c => .tri k a b c :: (subs a ++ (subs b ++ subs c))
def depth {α : Type} : Ex α → Nat
  | .lit _ => 1
  | .atom _ _ => 1
  | .un _ a => depth a + 1
  | .bin _ a b => max (depth a) (depth b) + 1
  | .tri _ a b c => max (max (depth a) (depth b)) (depth c) + 1
theorem subs_length {α : Type} : ∀ e : Ex α, (subs e).length = size e
  | .lit _ => rfl
  | .atom _ _ => rfl
  | .un _ a => by
    show (subs a).length + 1 = size a + 1
    rw [subs_length a]
  | .bin _ a b => by
    show (subs a ++ subs b).length + 1 = size a + size b + 1
    rw [List.length_append, subs_length a, subs_length b]
  | .tri _ a b c => by
    show (subs a ++ (subs b ++ subs c)).length + 1 = size a + size b + size c + 1
    rw [List.length_append, List.length_append, subs_length a, subs_length b, subs_length c]
    omega
theorem depth_pos {α : Type} (e : Ex α) : 1 ≤ depth e := by
  cases e with
  | lit t => exact Nat.le_refl _
  | atom k n => exact Nat.le_refl _
  | un k a => exact Nat.succ_le_succ (Nat.zero_le _)
  | bin k a b => exact Nat.succ_le_succ (Nat.zero_le _)
  | tri k a b c => exact Nat.succ_le_succ (Nat.zero_le _)
theorem pow3_le {a b : Nat} (h : a ≤ b) : 3 ^ a ≤ 3 ^ b := Nat.pow_le_pow_right (by decide) h
theorem size_depth {α : Type} : ∀ e : Ex α, 2 * size e + 1 ≤ 3 ^ depth e
  | .lit _ => by show 2 * 1 + 1 ≤ 3 ^ 1; decide
  | .atom _ _ => by show 2 * 1 + 1 ≤ 3 ^ 1; decide
  | .un _ a => by
    have h := size_depth a
    show 2 * (size a + 1) + 1 ≤ 3 ^ (depth a + 1)
    rw [Nat.pow_succ]
    omega
  | .bin _ a b => by
    have h1 := size_depth a
    have h2 := size_depth b
    have g1 := pow3_le (Nat.le_max_left (depth a) (depth b))
    have g2 := pow3_le (Nat.le_max_right (depth a) (depth b))
    show 2 * (size a + size b + 1) + 1 ≤ 3 ^ (max (depth a) (depth b) + 1)
    rw [Nat.pow_succ]
    omega
  | .tri _ a b c => by
    have h1 := size_depth a
    have h2 := size_depth b
    have h3 := size_depth c
    have g1 := pow3_le (show depth a ≤ max (max (depth a) (depth b)) (depth c) by omega)
    have g2 := pow3_le (show depth b ≤ max (max (depth a) (depth b)) (depth c) by omega)
    have g3 := pow3_le (show depth c ≤ max (max (depth a) (depth b)) (depth c) by omega)
    show 2 * (size a + size b + size c + 1) + 1 ≤ 3 ^ (max (max (depth a) (depth b)) (depth c) + 1)
    rw [Nat.pow_succ]
    omega
theorem size40 {α : Type} {e : Ex α} (h : depth e ≤ 4) : size e ≤ 40 := by
  have h1 := size_depth e
  have h2 := pow3_le h
  have e4 : (3 : Nat) ^ 4 = 81 := by decide
  omega

/-! ### letters and targets -/
def ltOf : Ex Tx → List Ch
  | .lit t => t
  | _ => []
def tgOf {α : Type} : Ex α → List Str
  | .atom .target n => [n]
  | _ => []
def letters (e : Ex Tx) : List Ch := (subs e).flatMap ltOf
def targets {α : Type} (e : Ex α) : List Str := (subs e).flatMap tgOf
theorem letters_lit (t : Tx) : letters (.lit t) = t := by simp [letters, subs, ltOf]
theorem letters_atom (k : AK) (n : Str) : letters (.atom k n) = [] := rfl
theorem letters_un (k : UK) (a : Ex Tx) : letters (.un k a) = letters a := by simp [letters, subs, ltOf]
theorem letters_bin (k : BK) (a b : Ex Tx) : letters (.bin k a b) = letters a ++ letters b := by simp [letters, subs, ltOf]
theorem letters_tri (k : TK) (a b c : Ex Tx) : letters (.tri k a b c) = letters a ++ (letters b ++ letters c) := by simp [letters, subs, ltOf]
theorem targets_lit {α : Type} (t : α) : targets (.lit t) = [] := rfl
theorem targets_un {α : Type} (k : UK) (a : Ex α) : targets (.un k a) = targets a := by simp [targets, subs, tgOf]
theorem targets_bin {α : Type} (k : BK) (a b : Ex α) : targets (.bin k a b) = targets a ++ targets b := by simp [targets, subs, tgOf]
theorem targets_tri {α : Type} (k : TK) (a b c : Ex α) : targets (.tri k a b c) = targets a ++ (targets b ++ targets c) := by simp [targets, subs, tgOf]

theorem cut_sub {β : Type} (t : List β) (i j : Nat) : (cut t i j).Sublist t := (List.take_sublist _ _).trans (List.drop_sublist _ _)
theorem letters_top {a b : Ex Tx} (h : Top a b) : (letters b).Sublist (letters a) := by
  cases h with
  | r1 e => rw [letters_bin]; exact List.sublist_append_right _ _
  | r2 e => rw [letters_bin]; exact List.sublist_append_left _ _
  | r3 s t h => rw [letters_bin, letters_lit, letters_lit, letters_lit]; exact List.Sublist.refl _
  | r4 t i j => rw [letters_un, letters_lit, letters_lit]; exact cut_sub t i j
  | r5 e i j k l => rw [letters_un, letters_un, letters_un]; exact List.Sublist.refl _
  | r6 e i j h h2 => rw [letters_un, letters_un]; exact List.Sublist.refl _
  | r7f e => rw [letters_un, letters_bin]; exact List.sublist_append_left _ _
  | r7b e => rw [letters_un, letters_bin]; exact List.sublist_append_left _ _
  | r8 e => rw [letters_bin]; exact List.sublist_append_left _ _
  | r9 e t => rw [letters_tri]; exact List.sublist_append_left _ _
  | r10 t d e =>
    rw [letters_tri]
    refine List.Sublist.trans ?_ (List.sublist_append_right _ _)
    split
    · exact List.sublist_append_right _ _
    · exact List.sublist_append_left _ _
theorem letters_step {a b : Ex Tx} (h : Step a b) : (letters b).Sublist (letters a) := by
  induction h with
  | top h => exact letters_top h
  | un h ih => rw [letters_un, letters_un]; exact ih
  | bin1 h ih => rw [letters_bin, letters_bin]; exact List.Sublist.append ih (List.Sublist.refl _)
  | bin2 h ih => rw [letters_bin, letters_bin]; exact List.Sublist.append (List.Sublist.refl _) ih
  | tri1 h ih => rw [letters_tri, letters_tri]; exact List.Sublist.append ih (List.Sublist.refl _)
  | tri2 h ih => rw [letters_tri, letters_tri]; exact List.Sublist.append (List.Sublist.refl _) (List.Sublist.append ih (List.Sublist.refl _))
  | tri3 h ih => rw [letters_tri, letters_tri]; exact List.Sublist.append (List.Sublist.refl _) (List.Sublist.append (List.Sublist.refl _) ih)
theorem letters_steps {a b : Ex Tx} (h : Steps a b) : (letters b).Sublist (letters a) := by
  induction h with
  | refl => exact List.Sublist.refl _
  | head s _ ih => exact ih.trans (letters_step s)
theorem targets_top {a b : Ex Tx} (h : Top a b) : (targets b).Sublist (targets a) := by
  cases h with
  | r1 e => rw [targets_bin]; exact List.sublist_append_right _ _
  | r2 e => rw [targets_bin]; exact List.sublist_append_left _ _
  | r3 s t h => rw [targets_lit]; exact List.nil_sublist _
  | r4 t i j => rw [targets_lit]; exact List.nil_sublist _
  | r5 e i j k l => rw [targets_un, targets_un, targets_un]; exact List.Sublist.refl _
  | r6 e i j h h2 => rw [targets_un, targets_un]; exact List.Sublist.refl _
  | r7f e => rw [targets_un, targets_bin]; exact List.sublist_append_left _ _
  | r7b e => rw [targets_un, targets_bin]; exact List.sublist_append_left _ _
  | r8 e => rw [targets_bin]; exact List.sublist_append_left _ _
  | r9 e t => rw [targets_tri]; exact List.sublist_append_left _ _
  | r10 t d e =>
    rw [targets_tri]
    refine List.Sublist.trans ?_ (List.sublist_append_right _ _)
    split
    · exact List.sublist_append_right _ _
    · exact List.sublist_append_left _ _
theorem targets_step {a b : Ex Tx} (h : Step a b) : (targets b).Sublist (targets a) := by
  induction h with
  | top h => exact targets_top h
  | un h ih => rw [targets_un, targets_un]; exact ih
  | bin1 h ih => rw [targets_bin, targets_bin]; exact List.Sublist.append ih (List.Sublist.refl _)
  | bin2 h ih => rw [targets_bin, targets_bin]; exact List.Sublist.append (List.Sublist.refl _) ih
  | tri1 h ih => rw [targets_tri, targets_tri]; exact List.Sublist.append ih (List.Sublist.refl _)
  | tri2 h ih => rw [targets_tri, targets_tri]; exact List.Sublist.append (List.Sublist.refl _) (List.Sublist.append ih (List.Sublist.refl _))
  | tri3 h ih => rw [targets_tri, targets_tri]; exact List.Sublist.append (List.Sublist.refl _) (List.Sublist.append (List.Sublist.refl _) ih)
theorem targets_steps {a b : Ex Tx} (h : Steps a b) : (targets b).Sublist (targets a) := by
  induction h with
  | refl => exact List.Sublist.refl _
  | head s _ ih => exact ih.trans (targets_step s)

/-! ### no deeper -/
theorem depth_top {a b : Ex Tx} (h : Top a b) : depth b ≤ depth a := by
  cases h with
  | r1 e => show depth b ≤ max 1 (depth b) + 1; omega
  | r2 e => show depth b ≤ max (depth b) 1 + 1; omega
  | r3 s t h => exact Nat.succ_le_succ (Nat.zero_le _)
  | r4 t i j => exact Nat.succ_le_succ (Nat.zero_le _)
  | r5 e i j k l => show depth e + 1 ≤ depth e + 1 + 1; omega
  | r6 e i j h h2 => exact Nat.le_refl _
  | r7f e => show depth e + 1 ≤ max (depth e) 1 + 1; omega
  | r7b e => show depth e + 1 ≤ max (depth e) 1 + 1; omega
  | r8 e => show depth b ≤ max (depth b) 1 + 1; omega
  | r9 e t => show depth b ≤ max (max (depth b) 1) 1 + 1; omega
  | r10 t d e =>
    show depth (if t = [] then e else d) ≤ max (max 1 (depth d)) (depth e) + 1
    split <;> omega
theorem depth_step {a b : Ex Tx} (h : Step a b) : depth b ≤ depth a := by
  induction h with
  | top h => exact depth_top h
  | @un k a a' h ih => show depth a' + 1 ≤ depth a + 1; omega
  | @bin1 k a a' b h ih => show max (depth a') (depth b) + 1 ≤ max (depth a) (depth b) + 1; omega
  | @bin2 k a b b' h ih => show max (depth a) (depth b') + 1 ≤ max (depth a) (depth b) + 1; omega
  | @tri1 k a a' b c h ih => show max (max (depth a') (depth b)) (depth c) + 1 ≤ max (max (depth a) (depth b)) (depth c) + 1; omega
  | @tri2 k a b b' c h ih => show max (max (depth a) (depth b')) (depth c) + 1 ≤ max (max (depth a) (depth b)) (depth c) + 1; omega
  | @tri3 k a b c c' h ih => show max (max (depth a) (depth b)) (depth c') + 1 ≤ max (max (depth a) (depth b)) (depth c) + 1; omega
theorem depth_steps {a b : Ex Tx} (h : Steps a b) : depth b ≤ depth a := by
  induction h with
  | refl => exact Nat.le_refl _
  | head s _ ih => exact Nat.le_trans ih (depth_step s)

/-! ### what is bounded -/
def asc (x : Str) : Prop := ∀ c ∈ x.cps.toList, c < 128
def okN (n : Str) : Prop := n.length ≤ 16 ∧ asc n
def okU : UK → Prop
  | .slice _ j => j ≤ 1000000000
  | .dyn => True
def okB : BK → Prop
  | .coin c => c < 3
  | _ => True
def okC (c : Ch) : Prop := c.sg.length = 1 ∧ asc c.sg ∧ 0 ≤ c.ix ∧ c.ix ≤ 100000
/-- names, ends of slices, coins, and of the literals P -/
def Ok {α : Type} (P : α → Prop) : Ex α → Prop
  | .lit t => P t
  | .atom _ n => okN n
  | .un k a => okU k ∧ Ok P a
  | .bin k a b => okB k ∧ Ok P a ∧ Ok P b
  | .tri _ a b c => Ok P a ∧ Ok P b ∧ Ok P c
def okT (t : Tx) : Prop := t.length ≤ 120 ∧ ∀ c ∈ t, okC c
/-- the sum of the slices' starts -/
def starts {α : Type} : Ex α → Nat
  | .lit _ => 0
  | .atom _ _ => 0
  | .un (.slice i _) a => i + starts a
  | .un .dyn a => starts a
  | .bin _ a b => starts a + starts b
  | .tri _ a b c => starts a + starts b + starts c
theorem okT_cut {t : Tx} (h : okT t) (i j : Nat) : okT (cut t i j) :=
  ⟨Nat.le_trans (cut_sub t i j).length_le h.1, fun c hc => h.2 c ((cut_sub t i j).subset hc)⟩
theorem ok_top {a b : Ex Tx} (h : Top a b) (o : Ok okT a) : Ok okT b := by
  cases h with
  | r1 e => exact o.2.2
  | r2 e => exact o.2.1
  | r3 s t h =>
    obtain ⟨_, o1, o2⟩ := o
    exact ⟨by rw [List.length_append]; exact h, fun c hc => (List.mem_append.mp hc).elim (fun q => o1.2 c q) fun q => o2.2 c q⟩
  | r4 t i j => exact okT_cut o.2 i j
  | r5 e i j k l =>
    obtain ⟨o1, o2, o3⟩ := o
    have o2' : j ≤ 1000000000 := o2
    exact ⟨show min j (i + l) ≤ 1000000000 by omega, o3⟩
  | r6 e i j h h2 => exact ⟨show 0 ≤ 1000000000 by omega, o.2⟩
  | r7f e => exact ⟨show 0 ≤ 1000000000 by omega, o.2.1⟩
  | r7b e => exact ⟨show 0 ≤ 1000000000 by omega, o.2.1⟩
  | r8 e => exact o.2.1
  | r9 e t => exact o.1
  | r10 t d e =>
    obtain ⟨_, o1, o2⟩ := o
    split
    · exact o2
    · exact o1
theorem ok_step {a b : Ex Tx} (h : Step a b) (o : Ok okT a) : Ok okT b := by
  induction h with
  | top h => exact ok_top h o
  | un h ih => exact ⟨o.1, ih o.2⟩
  | bin1 h ih => exact ⟨o.1, ih o.2.1, o.2.2⟩
  | bin2 h ih => exact ⟨o.1, o.2.1, ih o.2.2⟩
  | tri1 h ih => exact ⟨ih o.1, o.2.1, o.2.2⟩
  | tri2 h ih => exact ⟨o.1, ih o.2.1, o.2.2⟩
  | tri3 h ih => exact ⟨o.1, o.2.1, ih o.2.2⟩
theorem starts_top {a b : Ex Tx} (h : Top a b) : starts b ≤ starts a := by
  cases h with
  | r1 e => show starts b ≤ 0 + starts b; omega
  | r2 e => show starts b ≤ starts b + 0; omega
  | r3 s t h => exact Nat.zero_le _
  | r4 t i j => exact Nat.zero_le _
  | r5 e i j k l => show i + k + starts e ≤ k + (i + starts e); omega
  | r6 e i j h h2 => show 0 + starts e ≤ i + starts e; omega
  | r7f e => show 0 + starts e ≤ starts e + 0; omega
  | r7b e => show 0 + starts e ≤ starts e + 0; omega
  | r8 e => show starts b ≤ starts b + 0; omega
  | r9 e t => show starts b ≤ starts b + 0 + 0; omega
  | r10 t d e =>
    show starts (if t = [] then e else d) ≤ 0 + starts d + starts e
    split <;> omega
theorem starts_step {a b : Ex Tx} (h : Step a b) : starts b ≤ starts a := by
  induction h with
  | top h => exact starts_top h
  | @un k a a' h ih =>
    cases k with
    | slice i j => show i + starts a' ≤ i + starts a; omega
    | dyn => exact ih
  | @bin1 k a a' b h ih => show starts a' + starts b ≤ starts a + starts b; omega
  | @bin2 k a b b' h ih => show starts a + starts b' ≤ starts a + starts b; omega
  | @tri1 k a a' b c h ih => show starts a' + starts b + starts c ≤ starts a + starts b + starts c; omega
  | @tri2 k a b b' c h ih => show starts a + starts b' + starts c ≤ starts a + starts b + starts c; omega
  | @tri3 k a b c c' h ih => show starts a + starts b + starts c' ≤ starts a + starts b + starts c; omega
/-- all that is told of an expression on the road -/
structure Fine (e : Ex Tx) : Prop where
  ok : Ok okT e
  dp : depth e ≤ 4
  st : starts e ≤ 5000
theorem Fine.step {a b : Ex Tx} (f : Fine a) (h : Step a b) : Fine b := ⟨ok_step h f.ok, Nat.le_trans (depth_step h) f.dp, Nat.le_trans (starts_step h) f.st⟩
theorem Fine.steps {a b : Ex Tx} (f : Fine a) (h : Steps a b) : Fine b := by
  induction h with
  | refl => exact f
  | head s _ ih => exact ih (f.step s)
theorem Fine.mem {a b : Ex Tx} (f : Fine a) (h : b ∈ rws a) : Fine b := f.step (step_of_mem h)

/-! ### as data -/
def wU : UK → Str | .slice _ _ => "slice" | .dyn => "dynamic file"
def wB : BK → Str | .concat => "concat" | .find => "find" | .after => "after" | .before => "before" | .coin _ => "coin"
def wT : TK → Str | .repl => "replace all" | .ite => "if"
def wA : AK → Str | .file => "file" | .ofile => "optional file" | .target => "target" | .cfiles => "concat files"
def wL : Str := "literal"
def uArgs : UK → List PyData | .slice i j => [.int i, .int j] | .dyn => []
def bArgs : BK → List PyData | .coin c => [.int c] | _ => []
def chData (c : Ch) : PyData := .tuple [.str c.sg, .int 1, .int c.ix]
def txData (t : Tx) : PyData := .tuple (t.map chData)
def ds {α : Type} (f : α → PyData) (g : Ex α → PyData) : Ex α → List PyData
  | .lit t => [.str wL, f t]
  | .atom k n => [.str (wA k), .str n]
  | .un k a => .str (wU k) :: g a :: uArgs k
  | .bin k a b => .str (wB k) :: (bArgs k ++ [g a, g b])
  | .tri k a b c => [.str (wT k), g a, g b, g c]
def data {α : Type} (f : α → PyData) : Ex α → PyData
  | .lit t => .tuple [.str wL, f t]
  | .atom k n => .tuple [.str (wA k), .str n]
  | .un k a => .tuple (.str (wU k) :: data f a :: uArgs k)
  | .bin k a b => .tuple (.str (wB k) :: (bArgs k ++ [data f a, data f b]))
  | .tri k a b c => .tuple [.str (wT k), data f a, data f b, data f c]
theorem data_eq {α : Type} (f : α → PyData) (e : Ex α) : data f e = .tuple (ds f (data f) e) := by cases e <;> rfl
abbrev dS : Ex Tx → PyData := data txData
abbrev dW : Ex Str → PyData := data PyData.str

/-! ### places -/
def places {α : Type} : Ex α → List Nat
  | .lit _ => []
  | .atom _ _ => []
  | .un _ _ => [1]
  | .bin (.coin _) _ _ => [2, 3]
  | .bin _ _ _ => [1, 2]
  | .tri _ _ _ _ => [1, 2, 3]
def isCoin : BK → Bool | .coin _ => true | _ => false
def kid {α : Type} : Ex α → Nat → Ex α
  | .un _ a, _ => a
  | .bin k a b, p => if p = (if isCoin k = true then 2 else 1) then a else b
  | .tri _ a b c, p => if p = 1 then a else if p = 2 then b else c
  | e, _ => e
def put {α : Type} : Ex α → Nat → Ex α → Ex α
  | .un k _, _, x => .un k x
  | .bin k a b, p, x => if p = (if isCoin k = true then 2 else 1) then .bin k x b else .bin k a x
  | .tri k a b c, p, x => if p = 1 then .tri k x b c else if p = 2 then .tri k a x c else .tri k a b x
  | e, _, _ => e
theorem rws_places (e : Ex Tx) : rws e = top e ++ (places e).flatMap fun p => (rws (kid e p)).map (put e p) := by
  cases e with
  | lit t => rfl
  | atom k n => rfl
  | un k a => simp [rws, top, places, kid, put]
  | bin k a b => cases k <;> (simp [rws, top, places, kid, isCoin]; rfl)
  | tri k a b c => simp [rws, top, places, kid]; rfl
theorem kid_depth {α : Type} {e : Ex α} {p : Nat} (h : p ∈ places e) : depth (kid e p) + 1 ≤ depth e := by
  cases e with
  | lit t => exact absurd h List.not_mem_nil
  | atom k n => exact absurd h List.not_mem_nil
  | un k a => exact Nat.le_refl _
  | bin k a b =>
    show depth (if p = (if isCoin k = true then 2 else 1) then a else b) + 1 ≤ max (depth a) (depth b) + 1
    generalize (if isCoin k = true then 2 else 1) = z
    split <;> omega
  | tri k a b c =>
    show depth (if p = 1 then a else if p = 2 then b else c) + 1 ≤ max (max (depth a) (depth b)) (depth c) + 1
    split
    · omega
    · split <;> omega
theorem kid_ds {α : Type} (f : α → PyData) (g : Ex α → PyData) {e : Ex α} {p : Nat} (h : p ∈ places e) : (ds f g e)[p]? = some (g (kid e p)) ∧ 1 ≤ p ∧ p < (ds f g e).length := by
  cases e with
  | lit t => exact absurd h List.not_mem_nil
  | atom k n => exact absurd h List.not_mem_nil
  | un k a =>
    have : p = 1 := List.mem_singleton.mp h
    subst this
    exact ⟨rfl, Nat.le_refl _, by show 1 < (uArgs k).length + 1 + 1; omega⟩
  | bin k a b =>
    cases k with
    | coin c =>
      have h' : p = 2 ∨ p = 3 := by simpa [places] using h
      rcases h' with rfl | rfl
      · exact ⟨rfl, by decide, by simp [ds, bArgs]⟩
      · exact ⟨rfl, by decide, by simp [ds, bArgs]⟩
    | concat =>
      have h' : p = 1 ∨ p = 2 := by simpa [places] using h
      rcases h' with rfl | rfl
      · exact ⟨rfl, by decide, by simp [ds, bArgs]⟩
      · exact ⟨rfl, by decide, by simp [ds, bArgs]⟩
    | find =>
      have h' : p = 1 ∨ p = 2 := by simpa [places] using h
      rcases h' with rfl | rfl
      · exact ⟨rfl, by decide, by simp [ds, bArgs]⟩
      · exact ⟨rfl, by decide, by simp [ds, bArgs]⟩
    | after =>
      have h' : p = 1 ∨ p = 2 := by simpa [places] using h
      rcases h' with rfl | rfl
      · exact ⟨rfl, by decide, by simp [ds, bArgs]⟩
      · exact ⟨rfl, by decide, by simp [ds, bArgs]⟩
    | before =>
      have h' : p = 1 ∨ p = 2 := by simpa [places] using h
      rcases h' with rfl | rfl
      · exact ⟨rfl, by decide, by simp [ds, bArgs]⟩
      · exact ⟨rfl, by decide, by simp [ds, bArgs]⟩
  | tri k a b c =>
    have h' : p = 1 ∨ p = 2 ∨ p = 3 := by simpa [places] using h
    rcases h' with rfl | rfl | rfl
    · exact ⟨rfl, by decide, by simp [ds, bArgs]⟩
    · exact ⟨rfl, by decide, by simp [ds, bArgs]⟩
    · exact ⟨rfl, by decide, by simp [ds, bArgs]⟩
theorem put_ds {α : Type} (f : α → PyData) (g : Ex α → PyData) {e : Ex α} {p : Nat} (x : Ex α) (h : p ∈ places e) : ds f g (put e p x) = (ds f g e).set p (g x) := by
  cases e with
  | lit t => exact absurd h List.not_mem_nil
  | atom k n => exact absurd h List.not_mem_nil
  | un k a =>
    have : p = 1 := List.mem_singleton.mp h
    subst this
    rfl
  | bin k a b =>
    cases k with
    | coin c =>
      have h' : p = 2 ∨ p = 3 := by simpa [places] using h
      rcases h' with rfl | rfl <;> rfl
    | concat =>
      have h' : p = 1 ∨ p = 2 := by simpa [places] using h
      rcases h' with rfl | rfl <;> rfl
    | find =>
      have h' : p = 1 ∨ p = 2 := by simpa [places] using h
      rcases h' with rfl | rfl <;> rfl
    | after =>
      have h' : p = 1 ∨ p = 2 := by simpa [places] using h
      rcases h' with rfl | rfl <;> rfl
    | before =>
      have h' : p = 1 ∨ p = 2 := by simpa [places] using h
      rcases h' with rfl | rfl <;> rfl
  | tri k a b c =>
    have h' : p = 1 ∨ p = 2 ∨ p = 3 := by simpa [places] using h
    rcases h' with rfl | rfl | rfl <;> rfl
theorem ds_length {α : Type} (f : α → PyData) (g : Ex α → PyData) (e : Ex α) : 2 ≤ (ds f g e).length ∧ (ds f g e).length ≤ 4 := by
  cases e with
  | lit t => simp [ds]
  | atom k n => simp [ds]
  | un k a => cases k <;> simp [ds, uArgs]
  | bin k a b => cases k <;> simp [ds, bArgs]
  | tri k a b c => simp [ds]

/-! ### how many rewritings -/
theorem top_length (e : Ex Tx) : (top e).length ≤ 3 := by
  cases e with
  | lit t => exact Nat.zero_le _
  | atom k n => exact Nat.zero_le _
  | un k a =>
    cases k with
    | dyn => exact Nat.zero_le _
    | slice i j =>
      show (sl4 i j a ++ sl5 i j a ++ (if i ≠ 0 ∧ j ≤ i then [Ex.un (.slice 0 0) a] else [])).length ≤ 3
      have h1 : (sl4 i j a).length ≤ 1 := by cases a <;> simp [sl4]
      have h2 : (sl5 i j a).length ≤ 1 := by
        cases a with
        | un k b => cases k <;> simp [sl5]
        | _ => simp [sl5]
      rw [List.length_append, List.length_append]
      split <;> simp <;> omega
  | bin k a b =>
    cases k with
    | concat =>
      show ((if a = .lit [] then [b] else []) ++ (if b = .lit [] then [a] else []) ++ cat3 a b).length ≤ 3
      have h1 : (cat3 a b).length ≤ 1 := by
        cases a with
        | lit s =>
          cases b with
          | lit t =>
            show (if s.length + t.length ≤ 120 then [Ex.lit (s ++ t)] else []).length ≤ 1
            split <;> simp
          | _ => simp [cat3]
        | _ => cases b <;> simp [cat3]
      rw [List.length_append, List.length_append]
      split <;> split <;> simp <;> omega
    | find =>
      show (if b = .lit [] then [Ex.un (.slice 0 0) a] else []).length ≤ 3
      split <;> simp
    | before =>
      show (if b = .lit [] then [Ex.un (.slice 0 0) a] else []).length ≤ 3
      split <;> simp
    | after =>
      show (if b = .lit [] then [a] else []).length ≤ 3
      split <;> simp
    | coin c => exact Nat.zero_le _
  | tri k a b c =>
    cases k with
    | repl =>
      show (if b = .lit [] then (if isLit c = true then [a] else []) else []).length ≤ 3
      split
      · split <;> simp
      · simp
    | ite =>
      show (pick10 b c a).length ≤ 3
      cases a <;> simp [pick10]
theorem rws_length : ∀ e : Ex Tx, (rws e).length ≤ 3 * size e
  | .lit _ => Nat.zero_le _
  | .atom _ _ => Nat.zero_le _
  | .un k a => by
    have h := rws_length a
    have g := top_length (.un k a)
    show (topU k a ++ (rws a).map (Ex.un k)).length ≤ 3 * (size a + 1)
    have g' : (topU k a).length ≤ 3 := g
    rw [List.length_append, List.length_map]
    omega
  | .bin k a b => by
    have h1 := rws_length a
    have h2 := rws_length b
    have g' : (topB k a b).length ≤ 3 := top_length (.bin k a b)
    show (topB k a b ++ ((rws a).map (fun x => Ex.bin k x b) ++ (rws b).map (fun x => Ex.bin k a x))).length ≤ 3 * (size a + size b + 1)
    rw [List.length_append, List.length_append, List.length_map, List.length_map]
    omega
  | .tri k a b c => by
    have h1 := rws_length a
    have h2 := rws_length b
    have h3 := rws_length c
    have g' : (topT k a b c).length ≤ 3 := top_length (.tri k a b c)
    show (topT k a b c ++ ((rws a).map (fun x => Ex.tri k x b c) ++ ((rws b).map (fun x => Ex.tri k a x c) ++ (rws c).map (fun x => Ex.tri k a b x)))).length ≤ 3 * (size a + size b + size c + 1)
    rw [List.length_append, List.length_append, List.length_append, List.length_map, List.length_map, List.length_map]
    omega
end K12

/-! Marking; that the data fit; the law's own comparisons. -/
namespace K12
open PySem

/-! ### cells -/
inductive Cell (α : Type) where
  | d (x : PyData)
  | e (x : Ex α)
def flatD : PyData → Bool | .str _ => true | .int _ => true | _ => false
def cells {α : Type} : Ex α → List (Cell α)
  | .lit _ => []
  | .atom k n => [.d (.str (wA k)), .d (.str n)]
  | .un k a => .d (.str (wU k)) :: .e a :: (uArgs k).map .d
  | .bin k a b => .d (.str (wB k)) :: ((bArgs k).map .d ++ [.e a, .e b])
  | .tri k a b c => [.d (.str (wT k)), .e a, .e b, .e c]
def cdata {α : Type} (g : Ex α → PyData) : Cell α → PyData
  | .d x => x
  | .e x => g x
def isL {α : Type} : Ex α → Bool | .lit _ => true | _ => false
def word {α : Type} : Ex α → Str
  | .lit _ => wL
  | .atom k _ => wA k
  | .un k _ => wU k
  | .bin k _ _ => wB k
  | .tri k _ _ _ => wT k
theorem word_head {α : Type} (f : α → PyData) (g : Ex α → PyData) (e : Ex α) : (ds f g e)[0]? = some (.str (word e)) := by cases e <;> rfl
theorem wA_ne (k : AK) : wA k ≠ wL := by cases k <;> decide +kernel
theorem wU_ne (k : UK) : wU k ≠ wL := by
  cases k
  · show (Str.ofString "slice") ≠ wL; decide +kernel
  · decide +kernel
theorem wB_ne (k : BK) : wB k ≠ wL := by
  cases k
  · decide +kernel
  · decide +kernel
  · decide +kernel
  · decide +kernel
  · show (Str.ofString "coin") ≠ wL; decide +kernel
theorem wT_ne (k : TK) : wT k ≠ wL := by cases k <;> decide +kernel
theorem word_lit {α : Type} (e : Ex α) : word e = wL ↔ isL e = true := by
  cases e with
  | lit t => exact ⟨fun _ => rfl, fun _ => rfl⟩
  | atom k n => exact ⟨fun h => absurd h (wA_ne k), fun h => Bool.noConfusion h⟩
  | un k a => exact ⟨fun h => absurd h (wU_ne k), fun h => Bool.noConfusion h⟩
  | bin k a b => exact ⟨fun h => absurd h (wB_ne k), fun h => Bool.noConfusion h⟩
  | tri k a b c => exact ⟨fun h => absurd h (wT_ne k), fun h => Bool.noConfusion h⟩
theorem cells_ds {α : Type} (f : α → PyData) (g : Ex α → PyData) {e : Ex α} (h : isL e = false) : ds f g e = (cells e).map (cdata g) := by
  cases e with
  | lit t => cases h
  | atom k n => rfl
  | un k a => cases k <;> rfl
  | bin k a b => cases k <;> rfl
  | tri k a b c => rfl
theorem cells_flat {α : Type} {e : Ex α} {x : PyData} (h : Cell.d x ∈ cells e) : flatD x = true := by
  cases e with
  | lit t => exact absurd h List.not_mem_nil
  | atom k n =>
    have h' : x = .str (wA k) ∨ x = .str n := by simpa [cells] using h
    rcases h' with rfl | rfl <;> rfl
  | un k a =>
    cases k with
    | slice i j =>
      have h' : x = .str (wU (.slice i j)) ∨ x = .int i ∨ x = .int j := by simpa [cells, uArgs] using h
      rcases h' with rfl | rfl | rfl <;> rfl
    | dyn =>
      have h' : x = .str (wU .dyn) := by simpa [cells, uArgs] using h
      rw [h']; rfl
  | bin k a b =>
    cases k with
    | coin c =>
      have h' : x = .str (wB (.coin c)) ∨ x = .int c := by simpa [cells, bArgs] using h
      rcases h' with rfl | rfl <;> rfl
    | concat =>
      have h' : x = .str (wB .concat) := by simpa [cells, bArgs] using h
      rw [h']; rfl
    | find =>
      have h' : x = .str (wB .find) := by simpa [cells, bArgs] using h
      rw [h']; rfl
    | after =>
      have h' : x = .str (wB .after) := by simpa [cells, bArgs] using h
      rw [h']; rfl
    | before =>
      have h' : x = .str (wB .before) := by simpa [cells, bArgs] using h
      rw [h']; rfl
  | tri k a b c =>
    have h' : x = .str (wT k) := by simpa [cells] using h
    rw [h']; rfl
theorem cells_depth {α : Type} {e x : Ex α} (h : Cell.e x ∈ cells e) : depth x + 1 ≤ depth e := by
  cases e with
  | lit t => exact absurd h List.not_mem_nil
  | atom k n => exact absurd h (by simp [cells])
  | un k a =>
    have h' : x = a := by cases k <;> simpa [cells, uArgs] using h
    rw [h']; exact Nat.le_refl _
  | bin k a b =>
    have h' : x = a ∨ x = b := by cases k <;> simpa [cells, bArgs] using h
    show depth x + 1 ≤ max (depth a) (depth b) + 1
    rcases h' with rfl | rfl <;> omega
  | tri k a b c =>
    have h' : x = a ∨ x = b ∨ x = c := by simpa [cells] using h
    show depth x + 1 ≤ max (max (depth a) (depth b)) (depth c) + 1
    rcases h' with rfl | rfl | rfl <;> omega
theorem cells_head {α : Type} {e : Ex α} (h : isL e = false) : cells e = .d (.str (word e)) :: (cells e).tail := by
  cases e with
  | lit t => cases h
  | atom k n => rfl
  | un k a => rfl
  | bin k a b => rfl
  | tri k a b c => rfl
def csubs {α : Type} : Cell α → List (Ex α)
  | .d _ => []
  | .e x => subs x
def cmax {α : Type} (m : Nat) : Cell α → Nat
  | .d _ => m
  | .e x => max m (depth x)
theorem subs_cells {α : Type} (e : Ex α) : subs e = e :: (cells e).tail.flatMap csubs := by
  cases e with
  | lit t => rfl
  | atom k n => rfl
  | un k a => cases k <;> simp [subs, cells, csubs, uArgs]
  | bin k a b => cases k <;> simp [subs, cells, csubs, bArgs]
  | tri k a b c => simp [subs, cells, csubs]
theorem depth_cells {α : Type} (e : Ex α) : depth e = (cells e).tail.foldl cmax 0 + 1 := by
  cases e with
  | lit t => rfl
  | atom k n => rfl
  | un k a => cases k <;> simp [depth, cells, cmax, uArgs]
  | bin k a b => cases k <;> simp [depth, cells, cmax, bArgs]
  | tri k a b c => simp [depth, cells, cmax]

/-! ### marking -/
def sgn (s : Str) (k : Nat) : Str := ⟨#[s.cps.getD k 0]⟩
def stampS (s : Str) (n : Int) : Tx := (List.range s.length).map fun k => ⟨sgn s k, n + k⟩
def mark : Ex Str → Int → Ex Tx × Int
  | .lit s, n => (.lit (stampS s n), n + s.length)
  | .atom k x, n => (.atom k x, n)
  | .un k a, n => (.un k (mark a n).1, (mark a n).2)
  | .bin k a b, n => (.bin k (mark a n).1 (mark b (mark a n).2).1, (mark b (mark a n).2).2)
  | .tri k a b c, n => (.tri k (mark a n).1 (mark b (mark a n).2).1 (mark c (mark b (mark a n).2).2).1, (mark c (mark b (mark a n).2).2).2)
def markC : Cell Str → Int → PyData × Int
  | .d x, n => (x, n)
  | .e x, n => (dS (mark x n).1, (mark x n).2)
def markCs : List (Cell Str) → Int → List PyData × Int
  | [], n => ([], n)
  | c :: r, n => ((markC c n).1 :: (markCs r (markC c n).2).1, (markCs r (markC c n).2).2)
theorem markCs_d : ∀ (l : List PyData) (n : Int), markCs (l.map .d) n = (l, n)
  | [], _ => rfl
  | x :: r, n => by
    show (x :: (markCs (r.map .d) n).1, (markCs (r.map .d) n).2) = _
    rw [markCs_d r n]
theorem mark_cells {e : Ex Str} (h : isL e = false) (n : Int) : markCs (cells e) n = (ds txData dS (mark e n).1, (mark e n).2) := by
  cases e with
  | lit t => cases h
  | atom k x => rfl
  | un k a => cases k <;> rfl
  | bin k a b => cases k <;> rfl
  | tri k a b c => rfl
theorem mark_isL (e : Ex Str) (n : Int) : isL (mark e n).1 = isL e := by cases e <;> rfl
theorem mark_depth : ∀ (e : Ex Str) (n : Int), depth (mark e n).1 = depth e
  | .lit _, _ => rfl
  | .atom _ _, _ => rfl
  | .un _ a, n => congrArg (· + 1) (mark_depth a n)
  | .bin _ a b, n => by
    show max (depth (mark a n).1) (depth (mark b (mark a n).2).1) + 1 = _
    rw [mark_depth a, mark_depth b]; rfl
  | .tri _ a b c, n => by
    show max (max (depth (mark a n).1) (depth (mark b (mark a n).2).1)) (depth (mark c (mark b (mark a n).2).2).1) + 1 = _
    rw [mark_depth a, mark_depth b, mark_depth c]; rfl
theorem mark_starts : ∀ (e : Ex Str) (n : Int), starts (mark e n).1 = starts e
  | .lit _, _ => rfl
  | .atom _ _, _ => rfl
  | .un (.slice i j) a, n => congrArg (i + ·) (mark_starts a n)
  | .un .dyn a, n => mark_starts a n
  | .bin _ a b, n => by
    show starts (mark a n).1 + starts (mark b (mark a n).2).1 = _
    rw [mark_starts a, mark_starts b]; rfl
  | .tri _ a b c, n => by
    show starts (mark a n).1 + starts (mark b (mark a n).2).1 + starts (mark c (mark b (mark a n).2).2).1 = _
    rw [mark_starts a, mark_starts b, mark_starts c]; rfl
/-- how many characters an expression is written with -/
def tot : Ex Str → Nat
  | .lit s => s.length
  | .atom _ _ => 0
  | .un _ a => tot a
  | .bin _ a b => tot a + tot b
  | .tri _ a b c => tot a + tot b + tot c
theorem mark_end : ∀ (e : Ex Str) (n : Int), (mark e n).2 = n + tot e
  | .lit _, _ => rfl
  | .atom _ _, n => by show n = n + ((0 : Nat) : Int); omega
  | .un _ a, n => mark_end a n
  | .bin _ a b, n => by
    show (mark b (mark a n).2).2 = n + ((tot a + tot b : Nat) : Int)
    rw [mark_end b, mark_end a]; omega
  | .tri _ a b c, n => by
    show (mark c (mark b (mark a n).2).2).2 = n + ((tot a + tot b + tot c : Nat) : Int)
    rw [mark_end c, mark_end b, mark_end a]; omega
/-- the characters' indices, from n on -/
def From (n : Int) (l : List Ch) : Prop := ∀ (k : Nat) (c : Ch), l[k]? = some c → c.ix = n + k
theorem From.app {n : Int} {l r : List Ch} (h : From n l) (g : From (n + l.length) r) : From n (l ++ r) := by
  intro k c e
  by_cases hk : k < l.length
  · rw [List.getElem?_append_left hk] at e
    exact h k c e
  · rw [List.getElem?_append_right (by omega)] at e
    have := g _ c e
    omega
theorem stampS_length (s : Str) (n : Int) : (stampS s n).length = s.length := by simp [stampS]
theorem stampS_get {s : Str} {n : Int} {k : Nat} {c : Ch} (e : (stampS s n)[k]? = some c) : k < s.length ∧ c = ⟨sgn s k, n + k⟩ := by
  unfold stampS at e
  rw [List.getElem?_map] at e
  obtain ⟨j, hj, e2⟩ := Option.map_eq_some_iff.mp e
  obtain ⟨h1, h2⟩ := List.getElem?_eq_some_iff.mp hj
  rw [List.getElem_range] at h2
  rw [List.length_range] at h1
  subst h2
  exact ⟨h1, e2.symm⟩
theorem mark_letters : ∀ (e : Ex Str) (n : Int), From n (letters (mark e n).1) ∧ (letters (mark e n).1).length = tot e
  | .lit s, n => by
    show From n (letters (.lit (stampS s n))) ∧ (letters (.lit (stampS s n))).length = s.length
    rw [letters_lit, stampS_length]
    refine ⟨fun k c e => ?_, rfl⟩
    rw [(stampS_get e).2]
  | .atom k x, n => ⟨fun k c e => by rw [show letters (mark (.atom _ x) n).1 = [] from rfl] at e; simp at e, rfl⟩
  | .un k a, n => by
    show From n (letters (.un k (mark a n).1)) ∧ (letters (.un k (mark a n).1)).length = tot a
    rw [letters_un]
    exact mark_letters a n
  | .bin k a b, n => by
    show From n (letters (.bin k (mark a n).1 (mark b (mark a n).2).1)) ∧ (letters (.bin k (mark a n).1 (mark b (mark a n).2).1)).length = tot a + tot b
    obtain ⟨a1, a2⟩ := mark_letters a n
    obtain ⟨b1, b2⟩ := mark_letters b (mark a n).2
    rw [letters_bin, List.length_append, a2, b2]
    refine ⟨a1.app ?_, rfl⟩
    rw [a2, ← mark_end]
    exact b1
  | .tri k a b c, n => by
    show From n (letters (.tri k (mark a n).1 (mark b (mark a n).2).1 (mark c (mark b (mark a n).2).2).1)) ∧ (letters (.tri k (mark a n).1 (mark b (mark a n).2).1 (mark c (mark b (mark a n).2).2).1)).length = tot a + tot b + tot c
    obtain ⟨a1, a2⟩ := mark_letters a n
    obtain ⟨b1, b2⟩ := mark_letters b (mark a n).2
    obtain ⟨c1, c2⟩ := mark_letters c (mark b (mark a n).2).2
    rw [letters_tri, List.length_append, List.length_append, a2, b2, c2]
    refine ⟨a1.app ?_, by omega⟩
    rw [a2, ← mark_end]
    refine b1.app ?_
    rw [b2, ← mark_end]
    exact c1

/-! ### what is written -/
def okW (s : Str) : Prop := s.length ≤ 61 ∧ asc s
def small {α : Type} : Ex α → Prop
  | .lit _ => True
  | .atom _ _ => True
  | .un (.slice i _) a => i ≤ 120 ∧ small a
  | .un .dyn a => small a
  | .bin _ a b => small a ∧ small b
  | .tri _ a b c => small a ∧ small b ∧ small c
theorem small_starts {α : Type} : ∀ {e : Ex α}, small e → starts e ≤ 120 * size e
  | .lit _, _ => Nat.zero_le _
  | .atom _ _, _ => Nat.zero_le _
  | .un (.slice i j) a, h => by
    have h2 := small_starts h.2
    have h1 : i ≤ 120 := h.1
    show i + starts a ≤ 120 * (size a + 1)
    omega
  | .un .dyn a, h => by
    have h2 := small_starts (e := a) h
    show starts a ≤ 120 * (size a + 1)
    omega
  | .bin _ a b, h => by
    have h1 := small_starts h.1
    have h2 := small_starts h.2
    show starts a + starts b ≤ 120 * (size a + size b + 1)
    omega
  | .tri _ a b c, h => by
    have h1 := small_starts h.1
    have h2 := small_starts h.2.1
    have h3 := small_starts h.2.2
    show starts a + starts b + starts c ≤ 120 * (size a + size b + size c + 1)
    omega
theorem tot_size : ∀ {e : Ex Str}, Ok okW e → tot e ≤ 61 * size e
  | .lit s, h => by
    have := h.1
    show s.length ≤ 61 * 1
    omega
  | .atom _ _, _ => Nat.zero_le _
  | .un _ a, h => by
    have := tot_size h.2
    show tot a ≤ 61 * (size a + 1)
    omega
  | .bin _ a b, h => by
    have h1 := tot_size h.2.1
    have h2 := tot_size h.2.2
    show tot a + tot b ≤ 61 * (size a + size b + 1)
    omega
  | .tri _ a b c, h => by
    have h1 := tot_size h.1
    have h2 := tot_size h.2.1
    have h3 := tot_size h.2.2
    show tot a + tot b + tot c ≤ 61 * (size a + size b + size c + 1)
    omega
theorem asc_sgn {s : Str} (h : asc s) (k : Nat) : asc (sgn s k) := by
  intro c hc
  have hc' : c = s.cps.getD k 0 := by simpa [sgn] using hc
  rw [hc', Array.getD_eq_getD_getElem?]
  cases e : s.cps[k]? with
  | none => show 0 < 128; decide
  | some x =>
    refine h x ?_
    have := Array.mem_of_getElem? e
    simpa using this
theorem okT_stamp {s : Str} {n : Int} (h : okW s) (h0 : 0 ≤ n) (h1 : n + s.length ≤ 100000) : okT (stampS s n) := by
  refine ⟨by rw [stampS_length]; have := h.1; omega, fun c hc => ?_⟩
  obtain ⟨k, hk⟩ := List.getElem?_of_mem hc
  obtain ⟨h2, rfl⟩ := stampS_get hk
  refine ⟨rfl, asc_sgn h.2 k, ?_, ?_⟩
  · show 0 ≤ n + (k : Int); omega
  · show n + (k : Int) ≤ 100000; omega
theorem mark_ok : ∀ (e : Ex Str) (n : Int), Ok okW e → 0 ≤ n → n + tot e ≤ 100000 → Ok okT (mark e n).1
  | .lit s, n, h, h0, h1 => okT_stamp h h0 h1
  | .atom _ _, _, h, _, _ => h
  | .un _ a, n, h, h0, h1 => ⟨h.1, mark_ok a n h.2 h0 h1⟩
  | .bin _ a b, n, h, h0, h1 => by
    have h1' : n + ((tot a + tot b : Nat) : Int) ≤ 100000 := h1
    refine ⟨h.1, mark_ok a n h.2.1 h0 (by omega), mark_ok b _ h.2.2 ?_ ?_⟩
    · rw [mark_end]; omega
    · rw [mark_end]; omega
  | .tri _ a b c, n, h, h0, h1 => by
    have h1' : n + ((tot a + tot b + tot c : Nat) : Int) ≤ 100000 := h1
    refine ⟨mark_ok a n h.1 h0 (by omega), mark_ok b _ h.2.1 ?_ ?_, mark_ok c _ h.2.2 ?_ ?_⟩
    · rw [mark_end]; omega
    · rw [mark_end]; omega
    · rw [mark_end, mark_end]; omega
    · rw [mark_end, mark_end]; omega
/-- what the law writes: at most d deep -/
structure Gen (d : Nat) (e : Ex Str) : Prop where
  ok : Ok okW e
  sm : small e
  dp : depth e ≤ d
theorem Gen.mono {d d' : Nat} {e : Ex Str} (g : Gen d e) (h : d ≤ d') : Gen d' e := ⟨g.ok, g.sm, Nat.le_trans g.dp h⟩
theorem Gen.fine {e : Ex Str} (g : Gen 4 e) {n : Int} (h0 : 0 ≤ n) (h1 : n ≤ 1000) : Fine (mark e n).1 := by
  have s := size40 g.dp
  have t := tot_size g.ok
  refine ⟨mark_ok e n g.ok h0 (by omega), by rw [mark_depth]; exact g.dp, ?_⟩
  rw [mark_starts]
  have := small_starts g.sm
  omega

/-! ### the data fit -/
structure Gd (d : PyData) : Prop where
  can : d.canLay0 = true
  sho : d.showable = true
  lvs : d.leavesShort 13 = true
theorem gd_str {x : Str} (h : asc x) : Gd (.str x) := by
  refine ⟨?_, rfl, ?_⟩
  · show PyData.strOk x = true
    unfold PyData.strOk
    rw [← Array.all_toList, List.all_eq_true]
    intro c hc
    have := h c hc
    exact decide_eq_true (by omega)
  · show (x.cps.toList.all fun c => decide (c < 16 ^ 8)) = true
    rw [List.all_eq_true]
    intro c hc
    have := h c hc
    have e8 : (16 : Nat) ^ 8 = 4294967296 := by decide
    exact decide_eq_true (by omega)
theorem log2_lt {n : Nat} (h : n < 10 ^ 12) : n.log2 < 1920 := by
  by_cases h0 : n = 0
  · subst h0; decide
  · have h1 : n.log2 < 40 := (Nat.log2_lt h0).mpr (Nat.lt_of_lt_of_le h (by decide))
    exact Nat.lt_of_lt_of_le h1 (by decide)
theorem gd_int {i : Int} (h : i.natAbs < 10 ^ 12) : Gd (.int i) := by
  refine ⟨rfl, ?_, ?_⟩
  · show decide (i.natAbs.log2 < 1920) = true
    exact decide_eq_true (log2_lt h)
  · show decide ((PyData.shown (.int i)).length ≤ 13) = true
    exact decide_eq_true (PyData.shown_int_le h)
theorem gd_all : ∀ {l : List PyData}, (∀ x ∈ l, Gd x) → PyData.canLayAll0 l = true ∧ PyData.showableAll l = true ∧ PyData.leavesShortAll 13 l = true
  | [], _ => ⟨rfl, rfl, rfl⟩
  | x :: r, h => by
    obtain ⟨a, b, c⟩ := h x List.mem_cons_self
    obtain ⟨a', b', c'⟩ := gd_all (l := r) fun y hy => h y (List.mem_cons_of_mem _ hy)
    simp only [PyData.canLayAll0, PyData.showableAll, PyData.leavesShortAll, a, b, c, a', b', c', Bool.and_self, and_self]
theorem gd_tup {l : List PyData} (h : ∀ x ∈ l, Gd x) : Gd (.tuple l) := by
  obtain ⟨a, b, c⟩ := gd_all h
  exact ⟨by simpa only [PyData.canLay0] using a, by simpa only [PyData.showable] using b, by simpa only [PyData.leavesShort] using c⟩
theorem gd_ch {c : Ch} (h : okC c) : Gd (chData c) := by
  obtain ⟨h1, h2, h3, h4⟩ := h
  refine gd_tup fun x hx => ?_
  have hx' : x = .str c.sg ∨ x = .int 1 ∨ x = .int c.ix := by simpa [chData] using hx
  rcases hx' with rfl | rfl | rfl
  · exact gd_str h2
  · exact gd_int (by decide)
  · exact gd_int (by omega)
theorem gd_tx {t : Tx} (h : okT t) : Gd (txData t) := by
  refine gd_tup fun x hx => ?_
  obtain ⟨c, hc, rfl⟩ := List.mem_map.mp hx
  exact gd_ch (h.2 c hc)
theorem asc_of {x : Str} (h : (x.cps.toList.all fun c => decide (c < 128)) = true) : asc x := fun c hc => of_decide_eq_true (List.all_eq_true.mp h c hc)
theorem asc_wL : asc wL := asc_of (by decide +kernel)
theorem asc_wA (k : AK) : asc (wA k) := by cases k <;> exact asc_of (by decide +kernel)
theorem asc_slice : asc (Str.ofString "slice") := asc_of (by decide +kernel)
theorem asc_coin : asc (Str.ofString "coin") := asc_of (by decide +kernel)
theorem asc_wU (k : UK) : asc (wU k) := by
  cases k
  · exact asc_slice
  · exact asc_of (by decide +kernel)
theorem asc_wB (k : BK) : asc (wB k) := by
  cases k
  · exact asc_of (by decide +kernel)
  · exact asc_of (by decide +kernel)
  · exact asc_of (by decide +kernel)
  · exact asc_of (by decide +kernel)
  · exact asc_coin
theorem asc_wT (k : TK) : asc (wT k) := by cases k <;> exact asc_of (by decide +kernel)
theorem gd_ex {α : Type} {f : α → PyData} {P : α → Prop} (hf : ∀ t, P t → Gd (f t)) : ∀ {e : Ex α}, Ok P e → starts e ≤ 5000 → Gd (data f e)
  | .lit t, h, _ => by
    refine gd_tup fun x hx => ?_
    have hx' : x = .str wL ∨ x = f t := by simpa using hx
    rcases hx' with rfl | rfl
    · exact gd_str asc_wL
    · exact hf t h
  | .atom k n, h, _ => by
    refine gd_tup fun x hx => ?_
    have hx' : x = .str (wA k) ∨ x = .str n := by simpa using hx
    rcases hx' with rfl | rfl
    · exact gd_str (asc_wA k)
    · exact gd_str h.2
  | .un k a, h, hs => by
    have ha : Gd (data f a) := gd_ex hf h.2 (by
      cases k with
      | slice i j => have : i + starts a ≤ 5000 := hs; omega
      | dyn => exact hs)
    refine gd_tup fun x hx => ?_
    cases k with
    | slice i j =>
      have hx' : x = .str (wU (.slice i j)) ∨ x = data f a ∨ x = .int i ∨ x = .int j := by simpa [uArgs] using hx
      have hj : j ≤ 1000000000 := h.1
      have hi : i + starts a ≤ 5000 := hs
      rcases hx' with rfl | rfl | rfl | rfl
      · exact gd_str (asc_wU _)
      · exact ha
      · exact gd_int (by omega)
      · exact gd_int (by omega)
    | dyn =>
      have hx' : x = .str (wU .dyn) ∨ x = data f a := by simpa [uArgs] using hx
      rcases hx' with rfl | rfl
      · exact gd_str (asc_wU _)
      · exact ha
  | .bin k a b, h, hs => by
    have hs' : starts a + starts b ≤ 5000 := hs
    have ha : Gd (data f a) := gd_ex hf h.2.1 (by omega)
    have hb : Gd (data f b) := gd_ex hf h.2.2 (by omega)
    refine gd_tup fun x hx => ?_
    have hx' : x = .str (wB k) ∨ x ∈ bArgs k ∨ x = data f a ∨ x = data f b := by simpa using hx
    rcases hx' with rfl | hx' | rfl | rfl
    · exact gd_str (asc_wB _)
    · cases k with
      | coin c =>
        have hc : c < 3 := h.1
        rw [show x = .int c by simpa [bArgs] using hx']
        exact gd_int (by omega)
      | _ => exact absurd hx' (by simp [bArgs])
    · exact ha
    · exact hb
  | .tri k a b c, h, hs => by
    have hs' : starts a + starts b + starts c ≤ 5000 := hs
    have ha : Gd (data f a) := gd_ex hf h.1 (by omega)
    have hb : Gd (data f b) := gd_ex hf h.2.1 (by omega)
    have hc : Gd (data f c) := gd_ex hf h.2.2 (by omega)
    refine gd_tup fun x hx => ?_
    have hx' : x = .str (wT k) ∨ x = data f a ∨ x = data f b ∨ x = data f c := by simpa using hx
    rcases hx' with rfl | rfl | rfl | rfl
    · exact gd_str (asc_wT _)
    · exact ha
    · exact hb
    · exact hc
theorem Fine.gd {e : Ex Tx} (f : Fine e) : Gd (dS e) := gd_ex (fun _ h => gd_tx h) f.ok f.st
/-! depth and bulk -/
theorem dep_all {n : Nat} : ∀ {l : List PyData}, (∀ x ∈ l, x.depth ≤ n) → PyData.depthAll l ≤ n
  | [], _ => Nat.zero_le _
  | x :: r, h => by
    have h1 := h x List.mem_cons_self
    have h2 := dep_all (l := r) fun y hy => h y (List.mem_cons_of_mem _ hy)
    simp only [PyData.depthAll]
    omega
theorem dep_tup {n : Nat} {l : List PyData} (h : ∀ x ∈ l, x.depth ≤ n) : (PyData.tuple l).depth ≤ n + 1 := by
  have := dep_all h
  simp only [PyData.depth]
  omega
theorem dep_ch (c : Ch) : (chData c).depth = 1 := by simp [chData, PyData.depth, PyData.depthAll]
theorem dep_tx (t : Tx) : (txData t).depth ≤ 2 := by
  refine dep_tup (n := 1) fun x hx => ?_
  obtain ⟨c, _, rfl⟩ := List.mem_map.mp hx
  rw [dep_ch]
  exact Nat.le_refl _
theorem dep_ds : ∀ e : Ex Tx, (dS e).depth ≤ depth e + 2
  | .lit t => by
    refine dep_tup (n := 2) fun x hx => ?_
    have hx' : x = .str wL ∨ x = txData t := by simpa using hx
    rcases hx' with rfl | rfl
    · simp [PyData.depth]
    · exact dep_tx t
  | .atom k n => by
    refine dep_tup (n := 2) fun x hx => ?_
    have hx' : x = .str (wA k) ∨ x = .str n := by simpa using hx
    rcases hx' with rfl | rfl <;> simp [PyData.depth]
  | .un k a => by
    have h := dep_ds a
    refine dep_tup (n := depth a + 2) fun x hx => ?_
    cases k with
    | slice i j =>
      have hx' : x = .str (wU (.slice i j)) ∨ x = dS a ∨ x = .int i ∨ x = .int j := by simpa [uArgs] using hx
      rcases hx' with rfl | rfl | rfl | rfl
      · simp [PyData.depth]
      · exact h
      · simp [PyData.depth]
      · simp [PyData.depth]
    | dyn =>
      have hx' : x = .str (wU .dyn) ∨ x = dS a := by simpa [uArgs] using hx
      rcases hx' with rfl | rfl
      · simp [PyData.depth]
      · exact h
  | .bin k a b => by
    have h1 := dep_ds a
    have h2 := dep_ds b
    refine dep_tup (n := max (depth a) (depth b) + 2) fun x hx => ?_
    have hx' : x = .str (wB k) ∨ x ∈ bArgs k ∨ x = dS a ∨ x = dS b := by simpa using hx
    rcases hx' with rfl | hx' | rfl | rfl
    · simp [PyData.depth]
    · cases k with
      | coin c =>
        rw [show x = .int c by simpa [bArgs] using hx']
        simp [PyData.depth]
      | _ => exact absurd hx' (by simp [bArgs])
    · omega
    · omega
  | .tri k a b c => by
    have h1 := dep_ds a
    have h2 := dep_ds b
    have h3 := dep_ds c
    refine dep_tup (n := max (max (depth a) (depth b)) (depth c) + 2) fun x hx => ?_
    have hx' : x = .str (wT k) ∨ x = dS a ∨ x = dS b ∨ x = dS c := by simpa using hx
    rcases hx' with rfl | rfl | rfl | rfl
    · simp [PyData.depth]
    · omega
    · omega
    · omega
theorem shaped_of {d : PyData} (g : Gd d) (h : d.depth ≤ 64) : SeqAt.shaped d = true := by
  unfold SeqAt.shaped
  rw [g.can, decide_eq_true h]; rfl
theorem Fine.shaped {e : Ex Tx} (f : Fine e) : SeqAt.shaped (dS e) = true := shaped_of f.gd (by
  have h1 := dep_ds e
  have h2 := f.dp
  omega)
theorem bulk_txs : ∀ {t : List Ch}, (∀ c ∈ t, okC c) → PyData.bulkAll (t.map chData) ≤ 5 * t.length
  | [], _ => Nat.le_refl _
  | c :: r, h => by
    have ih := bulk_txs (t := r) fun x hx => h x (List.mem_cons_of_mem _ hx)
    have h1 : c.sg.cps.size = 1 := (h c List.mem_cons_self).1
    have e : PyData.bulk (chData c) = 4 := by simp [chData, PyData.bulk, PyData.bulkAll, h1]
    simp only [List.map_cons, PyData.bulkAll, e, List.length_cons]
    omega
theorem bulk_w : wL.cps.size ≤ 20 ∧ (∀ k, (wA k).cps.size ≤ 20) ∧ (∀ k, (wU k).cps.size ≤ 20) ∧ (∀ k, (wB k).cps.size ≤ 20) ∧ ∀ k, (wT k).cps.size ≤ 20 := by
  refine ⟨by decide +kernel, fun k => ?_, fun k => ?_, fun k => ?_, fun k => ?_⟩
  · cases k <;> decide +kernel
  · cases k
    · show (Str.ofString "slice").cps.size ≤ 20; decide +kernel
    · decide +kernel
  · cases k
    · decide +kernel
    · decide +kernel
    · decide +kernel
    · decide +kernel
    · show (Str.ofString "coin").cps.size ≤ 20; decide +kernel
  · cases k <;> decide +kernel
theorem bulk_ds : ∀ {e : Ex Tx}, Ok okT e → (dS e).bulk ≤ 700 * size e
  | .lit t, h => by
    have b := bulk_txs h.2
    have w := bulk_w.1
    have l := h.1
    show PyData.bulk (.str wL) + 1 + (PyData.bulk (txData t) + 1 + 0) ≤ 700 * 1
    have e1 : PyData.bulk (txData t) = PyData.bulkAll (t.map chData) := by simp [txData, PyData.bulk]
    have e2 : PyData.bulk (.str wL) = wL.cps.size := by simp [PyData.bulk]
    omega
  | .atom k n, h => by
    have w := bulk_w.2.1 k
    have l : n.cps.size ≤ 16 := h.1
    show PyData.bulk (.str (wA k)) + 1 + (PyData.bulk (.str n) + 1 + 0) ≤ 700 * 1
    have e1 : PyData.bulk (.str n) = n.cps.size := by simp [PyData.bulk]
    have e2 : PyData.bulk (.str (wA k)) = (wA k).cps.size := by simp [PyData.bulk]
    omega
  | .un k a, h => by
    have ih := bulk_ds h.2
    have w := bulk_w.2.2.1 k
    show PyData.bulk (.str (wU k)) + 1 + (PyData.bulk (dS a) + 1 + PyData.bulkAll (uArgs k)) ≤ 700 * (size a + 1)
    have e1 : PyData.bulkAll (uArgs k) ≤ 2 := by cases k <;> simp [uArgs, PyData.bulkAll, PyData.bulk]
    have e2 : PyData.bulk (.str (wU k)) = (wU k).cps.size := by simp [PyData.bulk]
    omega
  | .bin k a b, h => by
    have ih1 := bulk_ds h.2.1
    have ih2 := bulk_ds h.2.2
    have w := bulk_w.2.2.2.1 k
    have e2 : PyData.bulk (.str (wB k)) = (wB k).cps.size := by simp [PyData.bulk]
    have e1 : PyData.bulkAll (bArgs k ++ [dS a, dS b]) ≤ 1 + (PyData.bulk (dS a) + 1 + (PyData.bulk (dS b) + 1 + 0)) := by
      cases k <;> simp [bArgs, PyData.bulkAll, PyData.bulk]
    show PyData.bulk (.str (wB k)) + 1 + PyData.bulkAll (bArgs k ++ [dS a, dS b]) ≤ 700 * (size a + size b + 1)
    omega
  | .tri k a b c, h => by
    have ih1 := bulk_ds h.1
    have ih2 := bulk_ds h.2.1
    have ih3 := bulk_ds h.2.2
    have w := bulk_w.2.2.2.2 k
    have e2 : PyData.bulk (.str (wT k)) = (wT k).cps.size := by simp [PyData.bulk]
    show PyData.bulk (.str (wT k)) + 1 + (PyData.bulk (dS a) + 1 + (PyData.bulk (dS b) + 1 + (PyData.bulk (dS c) + 1 + 0))) ≤ 700 * (size a + size b + size c + 1)
    omega
theorem Fine.fits {e : Ex Tx} (f : Fine e) : (dS e).shown.length ≤ sizeLine := by
  have b := bulk_ds f.ok
  have s := size40 f.dp
  refine PyData.shown_fits_bulk (B := 13) (by decide) (by decide) f.gd.lvs ?_
  have e20 : (2 : Nat) ^ 20 = 1048576 := by decide
  omega
/-! no literal has more than 120 characters -/
theorem Fine.lits {e : Ex Tx} (f : Fine e) : ∀ x ∈ subs e, Ok okT x := by
  have go : ∀ (e : Ex Tx), Ok okT e → ∀ x ∈ subs e, Ok okT x := by
    intro e
    induction e with
    | lit t =>
      intro h x hx
      rw [show x = .lit t by simpa [subs] using hx]
      exact h
    | atom k n =>
      intro h x hx
      rw [show x = .atom k n by simpa [subs] using hx]
      exact h
    | un k a iha =>
      intro h x hx
      rcases List.mem_cons.mp (show x ∈ Ex.un k a :: subs a from hx) with rfl | hx
      · exact h
      · exact iha h.2 x hx
    | bin k a b iha ihb =>
      intro h x hx
      rcases List.mem_cons.mp (show x ∈ Ex.bin k a b :: (subs a ++ subs b) from hx) with rfl | hx
      · exact h
      · rcases List.mem_append.mp hx with hx | hx
        · exact iha h.2.1 x hx
        · exact ihb h.2.2 x hx
    | tri k a b c iha ihb ihc =>
      intro h x hx
      rcases List.mem_cons.mp (show x ∈ Ex.tri k a b c :: (subs a ++ (subs b ++ subs c)) from hx) with rfl | hx
      · exact h
      · rcases List.mem_append.mp hx with hx | hx
        · exact iha h.1 x hx
        · rcases List.mem_append.mp hx with hx | hx
          · exact ihb h.2.1 x hx
          · exact ihc h.2.2 x hx
  exact go e f.ok

/-! ### rising, within -/
theorem From.pair {n : Int} {l : List Ch} (h : From n l) : l.Pairwise fun a b => a.ix < b.ix := by
  rw [List.pairwise_iff_getElem]
  intro i j hi hj hij
  have e1 := h i _ (List.getElem?_eq_getElem hi)
  have e2 := h j _ (List.getElem?_eq_getElem hj)
  omega
theorem From.at_ {n : Int} {l : List Ch} (h : From n l) {c : Ch} (hc : c ∈ l) : ∃ k : Nat, c.ix - n = k ∧ l[k]? = some c := by
  obtain ⟨k, hk⟩ := List.getElem?_of_mem hc
  have := h k c hk
  exact ⟨k, by omega, hk⟩
theorem sub_first {x : Str} : ∀ {l r : List Str} {j : Nat}, (x :: r).Sublist l → l[j]? = some x → (∀ m, m < j → l[m]? ≠ some x) → r.Sublist (l.drop (j + 1))
  | [], _, _, h, _, _ => by cases h
  | y :: l, r, 0, h, e, _ => by
    have e' : y = x := Option.some.inj e
    subst e'
    show r.Sublist l
    cases h with
    | cons _ h => exact (List.sublist_cons_self _ _).trans h
    | cons_cons _ h => exact h
  | y :: l, r, j + 1, h, e, hn => by
    have hy : y ≠ x := fun q => hn 0 (Nat.succ_pos _) (by rw [q]; rfl)
    show r.Sublist (l.drop (j + 1))
    refine sub_first (l := l) ?_ e fun m hm => hn (m + 1) (Nat.succ_lt_succ hm)
    cases h with
    | cons _ h => exact h
    | cons_cons _ h => exact absurd rfl hy
end K12

/-! Data over the abstract heap; the rules that the hand layer lacks. -/
namespace K12
open PySem PySem.Spec PyProof.Rows L2

/-! ### data that stand in tuples -/
/-- a tuple, tracked or written -/
def TT (K : PySem.W.Frag) (H : Hp) (a : Addr) (xs : List V) : Prop :=
  H a = some (.tup xs) ∨ ∃ (o : Obj) (its : Array Value) (n : Nat), K.lookup a = some o ∧ o.cls = .type "tuple" ∧ o.data = .seq its n ∧ its.size ≤ sizeLine ∧ Vals xs its.toList
theorem TT.sq {K : PySem.W.Frag} {H : Hp} {a : Addr} {xs : List V} (h : TT K H a xs) : SqT K H a xs := h.elim (fun q => .inl (.inl q)) .inr
mutual
inductive Tp (K : PySem.W.Frag) (H : Hp) : V → PyData → Prop
  | int (i : Int) : Tp K H (.int i) (.int i)
  | str (x : Str) : Tp K H (.str x) (.str x)
  | tup {a : Addr} {xs : List V} {l : List PyData} : TT K H a xs → Tps K H xs l → Tp K H (.ref a) (.tuple l)
inductive Tps (K : PySem.W.Frag) (H : Hp) : List V → List PyData → Prop
  | nil : Tps K H [] []
  | cons {v : V} {vs : List V} {d : PyData} {l : List PyData} : Tp K H v d → Tps K H vs l → Tps K H (v :: vs) (d :: l)
end
/-- tuples stay -/
def KeepT (H H' : Hp) : Prop := ∀ b xs, H b = some (.tup xs) → H' b = some (.tup xs)
theorem KeepT.refl (H : Hp) : KeepT H H := fun _ _ h => h
theorem KeepT.trans {H H1 H2 : Hp} (a : KeepT H H1) (b : KeepT H1 H2) : KeepT H H2 := fun x xs h => b x xs (a x xs h)
theorem keepT_same {H H' : Hp} (s : Same H H') : KeepT H H' := fun b xs h => s b _ h
theorem TT.keep {K : PySem.W.Frag} {H H' : Hp} {a : Addr} {xs : List V} (k : KeepT H H') (h : TT K H a xs) : TT K H' a xs := h.elim (fun q => .inl (k _ _ q)) .inr
section
variable {K : PySem.W.Frag} {H H' : Hp}
mutual
theorem Tp.keep (k : KeepT H H') : ∀ (d : PyData) (v : V), Tp K H v d → Tp K H' v d
  | .none, _, h => by cases h
  | .bool _, _, h => by cases h
  | .int i, _, h => by cases h; exact .int i
  | .str x, _, h => by cases h; exact .str x
  | .list _, _, h => by cases h
  | .dict _, _, h => by cases h
  | .tuple l, _, h => by
    cases h with
    | tup t a => exact .tup (t.keep k) (Tps.keep k l _ a)
theorem Tps.keep (k : KeepT H H') : ∀ (l : List PyData) (vs : List V), Tps K H vs l → Tps K H' vs l
  | [], _, h => by cases h; exact .nil
  | d :: l, _, h => by
    cases h with
    | cons a b => exact .cons (Tp.keep k d _ a) (Tps.keep k l _ b)
end
mutual
theorem Tp.dp : ∀ (d : PyData) (v : V), Tp K H v d → Dp K H v d
  | .none, _, h => by cases h
  | .bool _, _, h => by cases h
  | .int i, _, h => by cases h; exact .int i
  | .str x, _, h => by cases h; exact .str x
  | .list _, _, h => by cases h
  | .dict _, _, h => by cases h
  | .tuple l, _, h => by
    cases h with
    | tup t a => exact .tup t.sq (Tps.dp l _ a)
theorem Tps.dp : ∀ (l : List PyData) (vs : List V), Tps K H vs l → DpAll K H vs l
  | [], _, h => by cases h; exact .nil
  | d :: l, _, h => by
    cases h with
    | cons a b => exact .cons (Tp.dp d _ a) (Tps.dp l _ b)
end
theorem Tp.mono {v : V} {d : PyData} (h : Tp K H v d) (k : KeepT H H') : Tp K H' v d := Tp.keep k d v h
theorem Tps.mono {vs : List V} {l : List PyData} (h : Tps K H vs l) (k : KeepT H H') : Tps K H' vs l := Tps.keep k l vs h
theorem Tps.len : ∀ {vs : List V} {l : List PyData}, Tps K H vs l → vs.length = l.length
  | _, _, .nil => rfl
  | _, _, .cons _ t => congrArg (· + 1) (Tps.len t)
theorem Tps.get : ∀ {vs : List V} {l : List PyData} {i : Nat} {d : PyData}, Tps K H vs l → l[i]? = some d → ∃ v, vs[i]? = some v ∧ Tp K H v d
  | _, _, _, _, .nil, e => by simp at e
  | _, _, 0, d, .cons a _, e => by
    cases Option.some.inj e
    exact ⟨_, rfl, a⟩
  | _, _, i + 1, d, .cons _ t, e => Tps.get (i := i) t e
theorem Tps.get' : ∀ {vs : List V} {l : List PyData} {i : Nat} {v : V}, Tps K H vs l → vs[i]? = some v → ∃ d, l[i]? = some d ∧ Tp K H v d
  | _, _, _, _, .nil, e => by simp at e
  | _, _, 0, v, .cons a _, e => by
    cases Option.some.inj e
    exact ⟨_, rfl, a⟩
  | _, _, i + 1, v, .cons _ t, e => Tps.get' (i := i) t e
theorem Tps.app : ∀ {vs ws : List V} {l m : List PyData}, Tps K H vs l → Tps K H ws m → Tps K H (vs ++ ws) (l ++ m)
  | _, _, _, _, .nil, t => t
  | _, _, _, _, .cons a s, t => .cons a (Tps.app s t)
theorem Tps.take : ∀ {vs : List V} {l : List PyData} (n : Nat), Tps K H vs l → Tps K H (vs.take n) (l.take n)
  | _, _, 0, _ => .nil
  | _, _, _ + 1, .nil => .nil
  | _, _, n + 1, .cons a t => .cons a (Tps.take n t)
theorem Tps.drop : ∀ {vs : List V} {l : List PyData} (n : Nat), Tps K H vs l → Tps K H (vs.drop n) (l.drop n)
  | _, _, 0, t => t
  | _, _, _ + 1, .nil => .nil
  | _, _, n + 1, .cons _ t => Tps.drop n t
theorem Tps.set {v : V} {d : PyData} (h : Tp K H v d) : ∀ {vs : List V} {l : List PyData} (n : Nat), Tps K H vs l → Tps K H (vs.set n v) (l.set n d)
  | _, _, 0, .cons _ t => .cons h t
  | _, _, n + 1, .cons a t => .cons a (Tps.set h n t)
  | _, _, _, .nil => .nil
theorem Tps.one {v : V} {d : PyData} (h : Tp K H v d) : Tps K H [v] [d] := .cons h .nil
theorem Tp.tup_inv {v : V} {l : List PyData} (h : Tp K H v (.tuple l)) : ∃ a xs, v = .ref a ∧ TT K H a xs ∧ Tps K H xs l := by
  cases h with
  | tup t a => exact ⟨_, _, rfl, t, a⟩
theorem Tp.str_inv {v : V} {x : Str} (h : Tp K H v (.str x)) : v = .str x := by cases h; rfl
theorem Tp.int_inv {v : V} {i : Int} (h : Tp K H v (.int i)) : v = .int i := by cases h; rfl
/-- an expression -/
theorem Tp.ex_inv {α : Type} {f : α → PyData} {v : V} {e : Ex α} (h : Tp K H v (data f e)) : ∃ a xs, v = .ref a ∧ TT K H a xs ∧ Tps K H xs (ds f (data f) e) := by
  rw [data_eq] at h
  exact h.tup_inv
theorem Tp.ex {α : Type} {f : α → PyData} {a : Addr} {xs : List V} {e : Ex α} (t : TT K H a xs) (h : Tps K H xs (ds f (data f) e)) : Tp K H (.ref a) (data f e) := by
  rw [data_eq]
  exact .tup t h
theorem Tps.head {α : Type} {f : α → PyData} {g : Ex α → PyData} {xs : List V} {e : Ex α} (h : Tps K H xs (ds f g e)) : xs[0]? = some (.str (word e)) := by
  obtain ⟨v, h1, h2⟩ := h.get (word_head f g e)
  rw [h1, h2.str_inv]
end
/-! ### one place is written -/
/-- all but t is as it was -/
def Bt (t : Addr) (H H' : Hp) : Prop := ∀ b o, b ≠ t → H b = some o → H' b = some o
theorem Bt.refl (t : Addr) (H : Hp) : Bt t H H := fun _ _ _ h => h
theorem Bt.trans {t : Addr} {H H1 H2 : Hp} (a : Bt t H H1) (b : Bt t H1 H2) : Bt t H H2 := fun x o n h => b x o n (a x o n h)
theorem Bt.of {t : Addr} {H H' : Hp} (s : Same H H') : Bt t H H' := fun b o _ h => s b o h
theorem Bt.keep {t : Addr} {H H' : Hp} {l : List V} (b : Bt t H H') (h : H t = some (.lst l)) : KeepT H H' := fun a xs e =>
  b a _ (fun z => by rw [z, h] at e; cases e) e
theorem Bt.new {t : Addr} {H H' : Hp} {p : Addr} {o : HO} (b : Bt t H H') (h : H' p = none) : Bt t H (upd H' p o) := fun a u n e => by
  have q := b a u n e
  rw [upd_ne (ne_of_none q h)]
  exact q
theorem Bt.put {t : Addr} {H H' : Hp} {o : HO} (b : Bt t H H') : Bt t H (upd H' t o) := fun a u n e => by
  rw [upd_ne n]
  exact b a u n e
theorem Bt.seq {K : PySem.W.Frag} {t a : Addr} {H H' : Hp} {xs : List V} (b : Bt t H H') (n : a ≠ t) (h : SqL K H a xs) : SqL K H' a xs := by
  rcases h with (h | ⟨o, h⟩) | h
  · exact .inl (.inl (b _ _ n h))
  · exact .inl (.inr ⟨o, b _ _ n h⟩)
  · exact .inr h
theorem same_new {H : Hp} {p : Addr} {o : HO} (h : H p = none) : Same H (upd H p o) := fun b x e => by
  rw [upd_ne (ne_of_none e h)]
  exact e
theorem keepT_new {H : Hp} {p : Addr} {o : HO} (h : H p = none) : KeepT H (upd H p o) := keepT_same (same_new h)
theorem keepT_lst {H : Hp} {p : Addr} {l : List V} {o : HO} (h : H p = some (.lst l)) : KeepT H (upd H p o) := fun b xs e => by
  rw [upd_ne (fun z => by rw [z, h] at e; cases e)]
  exact e

/-! ### d.get(k, x) of a written dict with text keys -/
structure KD (K : PySem.W.Frag) (w : World) (d : Addr) : Prop where
  ex : ∃ es n, K.lookup d = some ⟨.type "dict", none, .dict es n, #[]⟩ ∧ PySem.W.KeysLit w.params es.toList
  low : (d == sysModules) = false
def KA (K : PySem.W.Frag) (d : Addr) (x : Str) (r : Option V) : Prop := ∃ u, PySem.W.nsIn K d x = some u ∧ RelO r u
def tKGet (K : PySem.W.Frag) (w : World) (td ty tx : TE) : TE := fun σ H Q => td σ H fun x H1 => ∃ d, x = .ref d ∧ KD K w d ∧ ty σ H1 fun y H2 => tx σ H2 fun z H3 => ∃ k r, y = .str k ∧ KA K d k r ∧ Q (r.getD z) H3
section
variable {X : Cx} {o e f : Expr} {apos cpos : Pos} {td ty tx : TE}
theorem pe_kget (ho : PE X o td) (he : PE X e ty) (hf : PE X f tx) (m : M2 X o "get" apos e f cpos) : PE X (.Call (.Attribute o "get" apos) [e, f] [] cpos) (tKGet X.K X.w td ty tx) := by
  constructor
  intro pins s σ H Q I h
  refine wpAny_Call_method m.base m.few m.line PySem.F.plainAttrs_dict PySem.F.slot_dict_get PySem.F.type_dict_get ?_
  refine thn (ho.run pins s σ H _ I h) ?_
  rintro u s1 ⟨x, H1, I1, rx, d, ex, ⟨⟨es, n, hl, hk⟩, low⟩, q1⟩
  subst ex
  obtain rfl : u = Value.ref d := rx
  have hm1 := PySem.W.mapOf_K (prog := X.prog) (w := X.w) I1.kIn hl hk
  refine ⟨hm1.typeIs, fun b q => ?_, ?_⟩
  · cases q
    exact ⟨_, I1.kIn _ _ hl, rfl⟩
  rw [m.trees]
  refine Calls.callWith_builtin rfl (Calls.evalArgs_plain (Calls.spliced_cons ?_))
  refine thn (he.run pins s1 σ H1 _ I1 q1) ?_
  rintro iv s2 ⟨y, H2, I2, ry, q2⟩
  refine Calls.spliced_cons (thn (hf.run pins s2 σ H2 _ I2 q2) ?_)
  rintro fv s3 ⟨z, H3, I3, rz, k, r, ey, ⟨ru, hn, hr⟩, q3⟩
  refine Calls.spliced_nil ?_
  subst ey
  obtain ⟨t, rfl⟩ := ry
  have hm := PySem.W.mapOf_K (prog := X.prog) (w := X.w) I3.kIn hl hk
  refine call_meetsIn PySem.F.slot_dict_get hm.typeIs PySem.F.entry_dict_get (PySem.F.args_dict_get_3 _ _ _)
    (meets_dict_get_default (strKind X.prog X.w) d (strKind_is X.prog X.w k t) low fv) ⟨_, hm, ?_⟩
  refine ⟨r.getD z, H3, I3.tok _, ?_, q3⟩
  show RelV (r.getD z) ((findBy Value.isStrOf es k).getD fv)
  rw [PySem.W.find_K hl hn]
  cases r with
  | none => cases ru with
    | none => exact rz
    | some _ => exact hr.elim
  | some a => cases ru with
    | none => exact hr.elim
    | some _ => exact hr
end

/-! ### repr of data -/
theorem call_repr_data {X : Cx} (hg : X.A.guards = some []) (hu : X.A.units + 100 < cLine) :
    CallR X (.builtin "repr") (fun xs H Q => ∃ v d, xs = [v] ∧ (∃ a, v = .ref a) ∧ Tp X.K H v d ∧ Gd d ∧ d.depth ≤ 64 ∧ d.shown.length ≤ sizeLine ∧ Q (.str d.shown) H) := by
  intro pins s σ H xs us Q I r h
  obtain ⟨v, d, rfl, ⟨a, rfl⟩, tp, g, dl, sz, q⟩ := h
  obtain ⟨u, rfl, ru⟩ := vals1 r
  obtain rfl : u = Value.ref a := ru
  obtain ⟨as, rd⟩ := Dp.reads I d _ _ (Tp.dp d _ tp) (show RelV (.ref a) (Value.ref a) from rfl)
  exact repr_of_reads' rd g.sho (PyData.noDict_hsm (PyData.hasDict_of_canLay d g.can)) hg (by omega) (fun _ _ z => z)
    (fun h' u tk k => ⟨.str d.shown, H, I.kept k, ⟨u, rfl⟩, q⟩) sz

/-! ### "xy" * 30 -/
def xy30 : Str := ⟨(List.replicate 30 (Str.ofString "xy").cps).foldl (· ++ ·) #[]⟩
theorem op_xy30 {X : Cx} : OpR X (binaryOp .Mult) (fun x y H Q => x = .str (Str.ofString "xy") ∧ y = .int 30 ∧ Q (.str xy30) H) := by
  intro pins s σ H x y v u Q I rx ry h
  obtain ⟨rfl, rfl, q⟩ := h
  obtain ⟨t, rfl⟩ := rx
  obtain ⟨t', rfl⟩ := ry
  refine PySem.P.mul_str (by decide) (fun _ _ => by decide +kernel) (fun _ _ => by decide +kernel) ?_
  rw [if_neg (by decide), if_neg (by decide +kernel)]
  exact ⟨by decide +kernel, ⟨.str xy30, H, I.tok _, ⟨_, rfl⟩, q⟩⟩
theorem xy30_len : xy30.length = 60 := by decide +kernel
theorem xy30_asc : asc xy30 := asc_of (by decide +kernel)
end K12

/-! The defs by their places in the text; what the top leaves; small readings. -/
namespace K12
open PySem PySem.Spec PyProof.Rows L2
def topS (i : Nat) : Stmt := PySem.Challenge.pw_shiptrace_k12_whole_normal_form.main.body.getD i (.Pass ⟨0, 0, 0, 0⟩)
abbrev sPlaces : Stmt := topS 2
abbrev sConcat : Stmt := topS 6
abbrev sSlice : Stmt := topS 7
abbrev sSearch : Stmt := topS 8
abbrev sTop : Stmt := topS 9
abbrev sRws : Stmt := topS 10
abbrev sNorm : Stmt := topS 11
abbrev sTape : Stmt := topS 13
abbrev sDraw : Stmt := topS 14
abbrev sString : Stmt := topS 15
abbrev sStamped : Stmt := topS 16
abbrev sName : Stmt := topS 17
abbrev sNames : Stmt := topS 18
abbrev sLiteral : Stmt := topS 19
abbrev sLeaf : Stmt := topS 20
abbrev sExpr : Stmt := topS 21
abbrev sMarked : Stmt := topS 22
abbrev sPlain : Stmt := topS 23
abbrev sRedex : Stmt := topS 24
abbrev sVisited : Stmt := topS 25
abbrev sDepth : Stmt := topS 26
abbrev sWithin : Stmt := topS 27
abbrev sRising : Stmt := topS 28
abbrev sLetters : Stmt := topS 29
abbrev sTargets : Stmt := topS 30
abbrev sLaw : Stmt := topS 31

/-- a def of the text, by its name -/
structure Dfn (K : PySem.W.Frag) (mg : Str → Option Value) (x : Str) (st : Stmt) (ps : List Str) (f : Addr) (fd : FuncData) : Prop where
  F : Fun K x x st f fd
  g : mg x = some (.ref f)
  b : Binds K fd ps []
/-- the written part of a tuple of ints -/
def KInts (K : PySem.W.Frag) (c : Addr) (ns : List Nat) : Prop :=
  ∃ (o : Obj) (its : Array Value) (n : Nat), K.lookup c = some o ∧ o.cls = .type "tuple" ∧ o.data = .seq its n ∧ its.size ≤ sizeLine ∧ Vals (ns.map fun p : Nat => V.int p) its.toList
def PlaceAt (K : PySem.W.Frag) (d : Addr) (x : Str) (ns : List Nat) : Prop := ∃ c, KA K d x (some (.ref c)) ∧ KInts K c ns
/-- what the program's top leaves -/
structure Txt (K : PySem.W.Frag) (w : World) (mg : Str → Option Value) (dP eE : Addr) (tM : Tok) : Prop where
  mP : mg "PLACES" = some (.ref dP)
  kd : KD K w dP
  pC : PlaceAt K dP "concat" [1, 2]
  pS : PlaceAt K dP "slice" [1]
  pF : PlaceAt K dP "find" [1, 2]
  pA : PlaceAt K dP "after" [1, 2]
  pB : PlaceAt K dP "before" [1, 2]
  pR : PlaceAt K dP "replace all" [1, 2, 3]
  pI : PlaceAt K dP "if" [1, 2, 3]
  pD : PlaceAt K dP "dynamic file" [1]
  pO : PlaceAt K dP "coin" [2, 3]
  nL : KA K dP "literal" none
  nF : KA K dP "file" none
  nO : KA K dP "optional file" none
  nT : KA K dP "target" none
  nC : KA K dP "concat files" none
  mE : mg "EMPTY_LITERAL" = some (.ref eE)
  tE : ∀ H, Tp K H (.ref eE) (dS (.lit []))
  mM : mg "MOST_CHARACTERS" = some (.int 120 tM)
  len : mg "len" = none
  min : mg "min" = none
  max : mg "max" = none
  abs : mg "abs" = none
  int : mg "int" = none
  tuple : mg "tuple" = none
  list : mg "list" = none
  range : mg "range" = none
  isinstance : mg "isinstance" = none
  repr : mg "repr" = none

section
variable {K : PySem.W.Frag} {w : World} {mg : Str → Option Value} {dP eE : Addr} {tM : Tok}
theorem KInts.tt {c : Addr} {ns : List Nat} (h : KInts K c ns) (H : Hp) : TT K H c (ns.map fun p : Nat => V.int p) := .inr h
/-- PLACES.get of an expression's word -/
theorem Txt.place {α : Type} (T : Txt K w mg dP eE tM) (e : Ex α) :
    (∃ c, KA K dP (word e) (some (.ref c)) ∧ KInts K c (places e)) ∨ (KA K dP (word e) none ∧ places e = []) := by
  cases e with
  | lit t => exact .inr ⟨T.nL, rfl⟩
  | atom k n =>
    cases k with
    | file => exact .inr ⟨T.nF, rfl⟩
    | ofile => exact .inr ⟨T.nO, rfl⟩
    | target => exact .inr ⟨T.nT, rfl⟩
    | cfiles => exact .inr ⟨T.nC, rfl⟩
  | un k a =>
    cases k with
    | slice i j => exact .inl T.pS
    | dyn => exact .inl T.pD
  | bin k a b =>
    cases k with
    | concat => exact .inl T.pC
    | find => exact .inl T.pF
    | after => exact .inl T.pA
    | before => exact .inl T.pB
    | coin c => exact .inl T.pO
  | tri k a b c =>
    cases k with
    | repl => exact .inl T.pR
    | ite => exact .inl T.pI
end

/-! ### == of an expression and the empty literal -/
theorem eqv_head {x : Str} {l r : List PyData} (h : x ≠ wL) : PyData.eqv (.tuple (.str x :: l)) (.tuple (.str wL :: r)) = false := by
  have e : (x == wL) = false := beq_eq_false_iff_ne.mpr h
  simp only [PyData.eqv, PyData.eqvAll, e, Bool.false_and]
theorem eqv_empty (a : Ex Tx) : PyData.eqv (dS a) (dS (.lit [])) = decide (a = .lit []) := by
  cases a with
  | lit t =>
    show PyData.eqv (.tuple [.str wL, .tuple (t.map chData)]) (.tuple [.str wL, .tuple []]) = _
    cases t with
    | nil =>
      rw [decide_eq_true rfl]
      simp only [List.map_nil, PyData.eqv, PyData.eqvAll, beq_self_eq_true, Bool.true_and]
    | cons c r =>
      rw [decide_eq_false (by intro z; cases z)]
      simp only [List.map_cons, PyData.eqv, PyData.eqvAll, Bool.and_false, Bool.false_and]
  | atom k n =>
    rw [decide_eq_false (by intro z; cases z)]
    exact eqv_head (wA_ne k)
  | un k a =>
    rw [decide_eq_false (by intro z; cases z)]
    exact eqv_head (wU_ne k)
  | bin k a b =>
    rw [decide_eq_false (by intro z; cases z)]
    exact eqv_head (wB_ne k)
  | tri k a b c =>
    rw [decide_eq_false (by intro z; cases z)]
    exact eqv_head (wT_ne k)
theorem shaped_empty : SeqAt.shaped (dS (.lit [])) = true := by
  refine shaped_of (gd_tup fun x hx => ?_) (Nat.le_trans (dep_ds _) (by decide))
  have hx' : x = .str wL ∨ x = txData [] := by simpa using hx
  rcases hx' with rfl | rfl
  · exact gd_str asc_wL
  · exact gd_tx ⟨Nat.zero_le _, fun c hc => absurd hc List.not_mem_nil⟩

/-! ### small readings -/
section
variable {K : PySem.W.Frag} {H H' : Hp} {σ : L2.St} {Q : VK}
/-- t[k], t in the slot i -/
theorem rd_ix {i k : Nat} {a : Addr} {xs : List V} {x : V} {z : Int} (h : σ[i]? = some (some (.ref a))) (t : TT K H a xs) (ez : z = (k : Int)) (g : xs[k]? = some x) (q : Q x H) : tOp (rIxT K) (tVar i) (tC (.int z)) σ H Q := by
  subst ez
  exact ⟨_, h, a, xs, _, x, rfl, rfl, t.sq, atI_nat g, q⟩
theorem samePut {o : Addr} {u : HO} (s : Same H H') (n : H o = none) : Same H (upd H' o u) := fun b x e => by
  rw [upd_ne (ne_of_none e n)]
  exact s b x e
theorem sameNew {o : Addr} {u : HO} (s : Same H H') (n : H' o = none) : Same H (upd H' o u) := s.trans (same_new n)
theorem dec_strV (x y : Str) : decide (V.str x = V.str y) = decide (x = y) := by
  by_cases h : x = y
  · subst h; simp
  · rw [decide_eq_false h, decide_eq_false (fun z => h (V.str.inj z))]
end
theorem iteTe {b : Bool} {A B : Prop} (h : b = true) (x : A) : if b = true then A else B := by
  rw [if_pos h]
  exact x
theorem iteFe {b : Bool} {A B : Prop} (h : b = false) (x : B) : if b = true then A else B := by
  subst h
  exact iteF x
theorem small_le {n : Nat} (h : n ≤ 10000) : n < sizeLine := Nat.lt_of_le_of_lt h (by decide)
theorem line1 : 1 ≤ sizeLine := by decide
theorem line2 : 2 ≤ sizeLine := by decide
theorem line3 : 3 ≤ sizeLine := by decide
theorem line4 : 4 ≤ sizeLine := by decide
theorem le_line {n : Nat} (h : n ≤ 10000) : n ≤ sizeLine := Nat.le_of_lt (small_le h)
end K12

/-! Walks: part_places, concat_rewritings. -/
namespace K12
open PySem PySem.Spec PyProof.Rows L2
section
variable {P : Program} {w : World} {K : PySem.W.Frag} {mg : Str → Option Value} {base : Heap} {dP eE : Addr} {tM : Tok}

/-! ### part_places -/
theorem scPlaces : FnScope ["expression"] ["expression"] (defScope sPlaces) := ⟨rfl, rfl, rfl, by decide +kernel, rfl, by decide +kernel, by decide +kernel⟩
def spPlaces (K : PySem.W.Frag) : Sp := fun vs H Q _ => ∃ v, ∃ e : Ex Tx, vs = [v] ∧ Tp K H v (dS e) ∧ ∀ H' q, Same H H' → TT K H' q ((places e).map fun p : Nat => V.int p) → Q (.ref q) H'
theorem ok_places {f : Addr} {fd : FuncData} {k : Nat} (F : Fun K "part_places" "part_places" sPlaces f fd) (T : Txt K w mg dP eE tM) : FnOk P w K mg base CX0 (k + 1) f fd ["expression"] (spPlaces K) := by
  refine F.ok scPlaces (fun vs H Q E h => ?_) (fun cdv A outer s H vs Q E hr h => ?_)
  · obtain ⟨v, e, rfl, _⟩ := h
    rfl
  · obtain ⟨v, e, rfl, te, q⟩ := h
    obtain ⟨a, xs, rfl, tt, ts⟩ := te.ex_inv
    refine ⟨_, pss_one (ps_ret (pe_kget (pe_glob (v := .ref dP) rfl T.mP rfl) (pe_ix ix_tup (pv 0) pe_int (fun _ _ => rfl)) (pe_tup pa_nil) ⟨rfl, rfl, rfl, rfl⟩)), ?_⟩
    refine ⟨dP, rfl, T.kd, rd_ix (k := 0) rfl tt rfl ts.head ⟨Nat.zero_le _, fun p np => ?_⟩⟩
    rcases T.place e with ⟨c, ka, ki⟩ | ⟨ka, pe⟩
    · exact ⟨word e, _, rfl, ka, q _ c (same_new np) (ki.tt _)⟩
    · refine ⟨word e, _, rfl, ka, q _ p (same_new np) (.inl ?_)⟩
      rw [pe, upd_same]
      rfl

/-! ### concat_rewritings -/
theorem scConcat : FnScope ["left", "right", "found"] ["left", "right"] (defScope sConcat) := ⟨rfl, rfl, rfl, by decide +kernel, rfl, by decide +kernel, by decide +kernel⟩
def spConcat (K : PySem.W.Frag) : Sp := fun vs H Q _ => ∃ va vb, ∃ a b : Ex Tx, vs = [va, vb] ∧ Tp K H va (dS a) ∧ Tp K H vb (dS b) ∧ Fine a ∧ Fine b ∧
  ∀ H' p xs, Same H H' → H p = none → H' p = some (.lst xs) → Tps K H' xs ((topB .concat a b).map dS) → Q (.ref p) H'
theorem lit_parts {H : Hp} {v : V} {t : Tx} (h : Tp K H v (dS (.lit t))) : ∃ a b xs, v = .ref a ∧ TT K H a [.str wL, .ref b] ∧ TT K H b xs ∧ Tps K H xs (t.map chData) := by
  obtain ⟨a, xs, rfl, tt, ts⟩ := h.ex_inv
  cases ts with
  | cons h1 r =>
    cases r with
    | cons h2 r =>
      cases r
      cases h1.str_inv
      obtain ⟨b, ys, rfl, t2, s2⟩ := h2.tup_inv
      exact ⟨a, b, ys, rfl, tt, t2, s2⟩
theorem ok_concat {f : Addr} {fd : FuncData} {k : Nat} (F : Fun K "concat_rewritings" "concat_rewritings" sConcat f fd) (T : Txt K w mg dP eE tM) : FnOk P w K mg base CX0 (k + 1) f fd ["left", "right"] (spConcat K) := by
  refine F.ok scConcat (fun vs H Q E h => ?_) (fun cdv A outer s H vs Q E hr h => ?_)
  · obtain ⟨va, vb, a, b, rfl, _⟩ := h
    rfl
  · obtain ⟨va, vb, a, b, rfl, ta, tb, fa, fb, q⟩ := h
    refine ⟨_, pss_cons (ps_set (i := 2) scConcat.nd rfl (.inl rfl) (pe_lst pa_nil))
      (C8.pss_cut (ps_if (pt_cmpR (op_eqD hr.units) (pv 0) (pe_glob (v := .ref eE) rfl T.mE rfl) (nomark _))
        (pss_one (ps_expr (pe_bm PySem.F.plainAttrs_list PySem.F.slot_list_append PySem.F.type_list_append mt_append (pv 2) (pa_cons (pv 1) pa_nil)))) pss_nil)
      (C8.pss_cut (ps_if (pt_cmpR (op_eqD hr.units) (pv 1) (pe_glob (v := .ref eE) rfl T.mE rfl) (nomark _))
        (pss_one (ps_expr (pe_bm PySem.F.plainAttrs_list PySem.F.slot_list_append PySem.F.type_list_append mt_append (pv 2) (pa_cons (pv 0) pa_nil)))) pss_nil)
      (C8.pss_cut (ps_if (PW.pt (pw_and (pt_cmpR op_eq (pe_ix ix_tup (pv 0) pe_int (fun _ _ => rfl)) pe_str (nomark _))
          (pw_and (pt_cmpR op_eq (pe_ix ix_tup (pv 1) pe_int (fun _ _ => rfl)) pe_str (nomark _))
          (pw_and1 (pt_cmpR op_le (pe_op op_add (pe_callB call_len_seq (by rfl) T.len PySem.boot_len (pa_cons (pe_ix ix_tup (pv 0) pe_int (fun _ _ => rfl)) pa_nil))
            (pe_callB call_len_seq (by rfl) T.len PySem.boot_len (pa_cons (pe_ix ix_tup (pv 1) pe_int (fun _ _ => rfl)) pa_nil))) (pe_glob (v := .int 120) rfl T.mM ⟨_, rfl⟩) (nomark _))))))
        (pss_one (ps_expr (pe_bm PySem.F.plainAttrs_list PySem.F.slot_list_append PySem.F.type_list_append mt_append (pv 2)
          (pa_cons (pe_tup (pa_cons pe_str (pa_cons (pe_op op_catA (pe_ix ix_tup (pv 0) pe_int (fun _ _ => rfl)) (pe_ix ix_tup (pv 1) pe_int (fun _ _ => rfl))) pa_nil))) pa_nil)))) pss_nil)
      (pss_one (ps_ret (pv 2)))))), ?_⟩
    refine ⟨Nat.zero_le _, fun o no => ?_⟩
    have s1 : Same H (upd H o (.lst [])) := same_new no
    -- behind the first if
    refine ⟨fun σ H' => σ = [some va, some vb, some (.ref o)] ∧ Same H H' ∧ ∃ xs, H' o = some (.lst xs) ∧ Tps K H' xs ((if a = .lit [] then [b] else []).map dS), ?_, ?_⟩
    · refine ⟨va, rfl, dS a, dS (.lit []), Tp.dp _ _ (ta.mono (keepT_same s1)), Tp.dp _ _ (T.tE _), fa.shaped, shaped_empty, _, rfl, ?_⟩
      rw [eqv_empty]
      by_cases he : a = .lit []
      · rw [decide_eq_true he, if_pos he]
        refine iteT ⟨.ref o, rfl, .inl ⟨rfl, _, .inl (.inl upd_same)⟩, vb, rfl, o, [], vb, rfl, rfl, upd_same, small_le (Nat.zero_le _), rfl, samePut s1 no, _, upd_same, ?_⟩
        exact .one (tb.mono ((keepT_same s1).trans (keepT_lst upd_same)))
      · rw [decide_eq_false he, if_neg he]
        exact iteF ⟨rfl, s1, _, upd_same, .nil⟩
    rintro σ' H1 ⟨rfl, sm1, xs1, ho1, tx1⟩
    have l1 : xs1.length ≤ 1 := by
      rw [tx1.len, List.length_map]
      split <;> simp
    -- behind the second if
    refine ⟨fun σ H' => σ = [some va, some vb, some (.ref o)] ∧ Same H H' ∧ ∃ xs, H' o = some (.lst xs) ∧ xs.length ≤ 2 ∧ Tps K H' xs (((if a = .lit [] then [b] else []) ++ (if b = .lit [] then [a] else [])).map dS), ?_, ?_⟩
    · refine ⟨vb, rfl, dS b, dS (.lit []), Tp.dp _ _ (tb.mono (keepT_same sm1)), Tp.dp _ _ (T.tE _), fb.shaped, shaped_empty, _, rfl, ?_⟩
      rw [eqv_empty]
      by_cases he : b = .lit []
      · rw [decide_eq_true he, if_pos he]
        refine iteT ⟨.ref o, rfl, .inl ⟨rfl, _, .inl (.inl ho1)⟩, va, rfl, o, xs1, va, rfl, rfl, ho1, small_le (by omega), rfl, samePut sm1 no, _, upd_same, ?_, ?_⟩
        · rw [List.length_append, List.length_singleton]; omega
        · rw [List.map_append]
          exact (tx1.mono (keepT_lst ho1)).app (.one (ta.mono ((keepT_same sm1).trans (keepT_lst ho1))))
      · rw [decide_eq_false he, if_neg he]
        refine iteF ⟨rfl, sm1, _, ho1, by omega, ?_⟩
        rw [List.append_nil]
        exact tx1
    rintro σ' H2 ⟨rfl, sm2, xs2, ho2, l2, tx2⟩
    -- behind the third if
    refine ⟨fun σ H' => σ = [some va, some vb, some (.ref o)] ∧ Same H H' ∧ ∃ xs, H' o = some (.lst xs) ∧ Tps K H' xs ((topB .concat a b).map dS), ?_, ?_⟩
    · have ta2 := ta.mono (keepT_same sm2)
      have tb2 := tb.mono (keepT_same sm2)
      have no3 : cat3 a b = [] → Tps K H2 xs2 ((topB .concat a b).map dS) := fun z => by
        show Tps K H2 xs2 (((if a = .lit [] then [b] else []) ++ (if b = .lit [] then [a] else []) ++ cat3 a b).map dS)
        rw [z, List.append_nil]
        exact tx2
      obtain ⟨pa, ya, rfl, tta, tsa⟩ := ta2.ex_inv
      obtain ⟨pb, yb, rfl, ttb, tsb⟩ := tb2.ex_inv
      refine rd_ix (k := 0) rfl tta rfl tsa.head ⟨rfl, _, rfl, ?_⟩
      rw [dec_strV]
      by_cases h1 : word a = wL
      · rw [show decide (word a = Str.ofString "literal") = true from decide_eq_true h1]
        refine iteT (rd_ix (k := 0) rfl ttb rfl tsb.head ⟨rfl, _, rfl, ?_⟩)
        rw [dec_strV]
        by_cases h2 : word b = wL
        · rw [show decide (word b = Str.ofString "literal") = true from decide_eq_true h2]
          cases a with
          | lit sa =>
            cases b with
            | lit sb =>
              obtain ⟨_, qa, za, ea, tla, ttxa, tcha⟩ := lit_parts ta2
              obtain ⟨_, qb, zb, eb, tlb, ttxb, tchb⟩ := lit_parts tb2
              cases ea
              cases eb
              have la : za.length = sa.length := by rw [tcha.len, List.length_map]
              have lb : zb.length = sb.length := by rw [tchb.len, List.length_map]
              refine iteT (rd_ix (k := 1) rfl tla rfl rfl ⟨qa, za, rfl, .inr ttxa.sq, rd_ix (k := 1) rfl tlb rfl rfl ⟨qb, zb, rfl, .inr ttxb.sq, _, _, rfl, rfl, _, _, rfl, rfl, _, rfl, ?_⟩⟩)
              rw [la, lb]
              have c3 : cat3 (.lit sa) (.lit sb) = if sa.length + sb.length ≤ 120 then [Ex.lit (sa ++ sb)] else [] := rfl
              by_cases h3 : sa.length + sb.length ≤ 120
              · rw [decide_eq_true (show (sa.length : Int) + (sb.length : Int) ≤ 120 by omega)]
                rw [if_pos h3] at c3
                -- the new text, in a heap H3 that agrees
                have fin : ∀ (H3 : Hp) (tx : Addr) (zs : List V), Same H2 H3 → TT K H3 tx zs → Tps K H3 zs ((sa ++ sb).map chData) →
                    ∀ p, H3 p = none → (∃ l xs y, V.ref o = .ref l ∧ [V.ref p] = [y] ∧ (upd H3 p (.tup [.str (Str.ofString "literal"), .ref tx])) l = some (.lst xs) ∧ xs.length < sizeLine ∧
                      ([some (V.ref pa), some (V.ref pb), some (V.ref o)] = [some (V.ref pa), some (V.ref pb), some (V.ref o)] ∧ Same H (upd (upd H3 p (.tup [.str (Str.ofString "literal"), .ref tx])) l (.lst (xs ++ [y]))) ∧
                        ∃ ys, (upd (upd H3 p (.tup [.str (Str.ofString "literal"), .ref tx])) l (.lst (xs ++ [y]))) o = some (.lst ys) ∧ Tps K (upd (upd H3 p (.tup [.str (Str.ofString "literal"), .ref tx])) l (.lst (xs ++ [y]))) ys ((topB .concat (.lit sa) (.lit sb)).map dS))) := by
                  intro H3 tx zs s3 ttx ttz p np
                  have ho3 : H3 o = some (.lst xs2) := s3 _ _ ho2
                  have ho4 : (upd H3 p (.tup [.str (Str.ofString "literal"), .ref tx])) o = some (.lst xs2) := by
                    rw [upd_ne (ne_of_none ho3 np)]
                    exact ho3
                  have k4 : KeepT H3 (upd (upd H3 p (.tup [.str (Str.ofString "literal"), .ref tx])) o (.lst (xs2 ++ [.ref p]))) := (keepT_new np).trans (keepT_lst ho4)
                  refine ⟨o, xs2, _, rfl, rfl, ho4, small_le (by omega), rfl, samePut (sameNew (sm2.trans s3) np) no, _, upd_same, ?_⟩
                  show Tps K _ _ (((if Ex.lit sa = .lit [] then [Ex.lit sb] else []) ++ (if Ex.lit sb = .lit [] then [Ex.lit sa] else []) ++ cat3 (.lit sa) (.lit sb)).map dS)
                  rw [c3, List.map_append]
                  refine (tx2.mono ((keepT_same s3).trans k4)).app (.one (.tup (show TT K _ p [.str (Str.ofString "literal"), .ref tx] from .inl ?_) (.cons (.str _) (.cons (.tup (ttx.keep k4) (ttz.mono k4)) .nil))))
                  rw [upd_ne (fun z => by rw [z, upd_same] at ho4; cases ho4), upd_same]
                refine iteT ⟨.ref o, rfl, .inl ⟨rfl, _, .inl (.inl ho2)⟩, rd_ix (k := 1) rfl tla rfl rfl (rd_ix (k := 1) rfl tlb rfl rfl ?_)⟩
                refine ⟨qa, qb, za, zb, rfl, rfl, ttxa.sq, ttxb.sq, le_line (by omega), fun e0 => ?_, fun e0 e1 => ?_, fun e0 e1 p np => ?_⟩
                · have : sa = [] := by
                    rw [e0] at la
                    exact List.length_eq_zero_iff.mp la.symm
                  subst this
                  exact ⟨line2, fun p np => fin H2 qb zb (Same.refl _) ttxb tchb p np⟩
                · have : sb = [] := by
                    rw [e1] at lb
                    exact List.length_eq_zero_iff.mp lb.symm
                  subst this
                  rw [List.append_nil] at fin
                  exact ⟨line2, fun p np => fin H2 qa za (Same.refl _) ttxa tcha p np⟩
                · refine ⟨line2, fun p' np' => fin _ p (za ++ zb) (same_new np) (.inl upd_same) ?_ p' np'⟩
                  rw [List.map_append]
                  exact (tcha.mono (keepT_new np)).app (tchb.mono (keepT_new np))
              · rw [decide_eq_false (show ¬ (sa.length : Int) + (sb.length : Int) ≤ 120 by omega)]
                rw [if_neg h3] at c3
                exact iteF ⟨rfl, sm2, _, ho2, no3 c3⟩
            | atom k n => exact absurd h2 (wA_ne k)
            | un k x => exact absurd h2 (wU_ne k)
            | bin k x y => exact absurd h2 (wB_ne k)
            | tri k x y z => exact absurd h2 (wT_ne k)
          | atom k n => exact absurd h1 (wA_ne k)
          | un k x => exact absurd h1 (wU_ne k)
          | bin k x y => exact absurd h1 (wB_ne k)
          | tri k x y z => exact absurd h1 (wT_ne k)
        · rw [show decide (word b = Str.ofString "literal") = false from decide_eq_false h2]
          refine iteF (iteF ⟨rfl, sm2, _, ho2, no3 ?_⟩)
          cases b with
          | lit t => exact absurd rfl h2
          | _ => cases a <;> rfl
      · rw [show decide (word a = Str.ofString "literal") = false from decide_eq_false h1]
        refine iteF (iteF ⟨rfl, sm2, _, ho2, no3 ?_⟩)
        cases a with
        | lit t => exact absurd rfl h1
        | _ => rfl
    rintro σ' H3 ⟨rfl, sm3, xs3, ho3, tx3⟩
    exact ⟨.ref o, rfl, q H3 o xs3 sm3 no ho3 tx3⟩
end
end K12

/-! Walks: slice_rewritings, search_rewritings, top_rewritings. -/
namespace K12
open PySem PySem.Spec PyProof.Rows L2
theorem cutV_nat (xs : List V) (i j : Nat) : cutV xs (some (i : Int)) (some (j : Int)) = cut xs i j := by
  unfold cutV cut
  rw [HT.sIx_nat, HT.sIx_nat]
  by_cases h : i ≤ xs.length
  · rw [Nat.min_eq_left h]
    by_cases hj : j ≤ xs.length
    · rw [Nat.min_eq_left hj]
    · have hj' : xs.length ≤ j := by omega
      rw [Nat.min_eq_right hj', List.take_of_length_le (by rw [List.length_drop]; omega), List.take_of_length_le (by rw [List.length_drop]; omega)]
  · have h' : xs.length ≤ i := by omega
    rw [Nat.min_eq_right h', List.drop_of_length_le (Nat.le_refl _), List.drop_of_length_le h', List.take_nil, List.take_nil]
theorem cut_whole {xs : List V} {i j : Nat} (h : HT.sIx xs.length 0 (some (i : Int)) = 0 ∧ HT.sIx xs.length xs.length (some (j : Int)) = xs.length) : cut xs i j = xs := by
  rw [HT.sIx_nat, HT.sIx_nat] at h
  rw [← cutV_nat]
  unfold cutV
  rw [HT.sIx_nat, HT.sIx_nat, h.1, h.2]
  simp
section
variable {P : Program} {w : World} {K : PySem.W.Frag} {mg : Str → Option Value} {base : Heap} {dP eE : Addr} {tM : Tok}
theorem Tps.cut {H : Hp} {xs : List V} {l : List PyData} (h : Tps K H xs l) (i j : Nat) : Tps K H (K12.cut xs i j) (K12.cut l i j) := (h.drop i).take (j - i)
theorem map_cut {α β : Type} (g : α → β) (t : List α) (i j : Nat) : (cut t i j).map g = cut (t.map g) i j := by
  unfold cut
  rw [List.map_take, List.map_drop]

/-! ### slice_rewritings -/
theorem scSlice : FnScope ["part", "start", "end", "found"] ["part", "start", "end"] (defScope sSlice) := ⟨rfl, rfl, rfl, by decide +kernel, rfl, by decide +kernel, by decide +kernel⟩
def spSlice (K : PySem.W.Frag) : Sp := fun vs H Q _ => ∃ va, ∃ (a : Ex Tx) (i j : Nat), vs = [va, .int i, .int j] ∧ Tp K H va (dS a) ∧
  ∀ H' p xs, Same H H' → H p = none → H' p = some (.lst xs) → Tps K H' xs ((topU (.slice i j) a).map dS) → Q (.ref p) H'
theorem wd_slice {α : Type} {e : Ex α} (h : word e = Str.ofString "slice") : ∃ i j a, e = .un (.slice i j) a := by
  cases e with
  | lit t => exact absurd (show wL = Str.ofString "slice" from h) (by decide +kernel)
  | atom k n => exact absurd (show wA k = Str.ofString "slice" from h) (by cases k <;> decide +kernel)
  | un k a =>
    cases k with
    | slice i j => exact ⟨i, j, a, rfl⟩
    | dyn => exact absurd (show wU .dyn = Str.ofString "slice" from h) (by decide +kernel)
  | bin k a b =>
    cases k with
    | coin c => exact absurd (show Str.ofString "coin" = Str.ofString "slice" from h) (by decide +kernel)
    | concat => exact absurd (show Str.ofString "concat" = Str.ofString "slice" from h) (by decide +kernel)
    | find => exact absurd (show Str.ofString "find" = Str.ofString "slice" from h) (by decide +kernel)
    | after => exact absurd (show Str.ofString "after" = Str.ofString "slice" from h) (by decide +kernel)
    | before => exact absurd (show Str.ofString "before" = Str.ofString "slice" from h) (by decide +kernel)
  | tri k a b c => exact absurd (show wT k = Str.ofString "slice" from h) (by cases k <;> decide +kernel)
theorem wd_lit {α : Type} {e : Ex α} (h : word e = wL) : ∃ t, e = .lit t := by
  have := (word_lit e).mp h
  cases e with
  | lit t => exact ⟨t, rfl⟩
  | _ => cases this
theorem sl_parts {H : Hp} {v : V} {i j : Nat} {a : Ex Tx} (h : Tp K H v (dS (.un (.slice i j) a))) : ∃ p x, v = .ref p ∧ TT K H p [.str (Str.ofString "slice"), x, .int i, .int j] ∧ Tp K H x (dS a) := by
  obtain ⟨p, xs, rfl, tt, ts⟩ := h.ex_inv
  cases ts with
  | cons h1 r =>
    cases r with
    | cons h2 r =>
      cases r with
      | cons h3 r =>
        cases r with
        | cons h4 r =>
          cases r
          cases h1.str_inv
          cases h3.int_inv
          cases h4.int_inv
          exact ⟨p, _, rfl, tt, h2⟩
theorem sl4_nil {i j : Nat} {a : Ex Tx} (h : word a ≠ wL) : sl4 i j a = [] := by
  cases a with
  | lit t => exact absurd rfl h
  | _ => rfl
theorem sl5_nil {i j : Nat} {a : Ex Tx} (h : word a ≠ Str.ofString "slice") : sl5 i j a = [] := by
  cases a with
  | un k b =>
    cases k with
    | slice i j => exact absurd rfl h
    | dyn => rfl
  | _ => rfl
theorem min_int (a b : Nat) : (if ((b : Nat) : Int) < ((a : Nat) : Int) then ((b : Nat) : Int) else ((a : Nat) : Int)) = ((min a b : Nat) : Int) := by
  split <;> omega
theorem ok_slice {f : Addr} {fd : FuncData} {k : Nat} (F : Fun K "slice_rewritings" "slice_rewritings" sSlice f fd) (T : Txt K w mg dP eE tM) : FnOk P w K mg base CX0 (k + 1) f fd ["part", "start", "end"] (spSlice K) := by
  refine F.ok scSlice (fun vs H Q E h => ?_) (fun cdv A outer s H vs Q E hr h => ?_)
  · obtain ⟨va, a, i, j, rfl, _⟩ := h
    rfl
  · obtain ⟨va, a, i, j, rfl, ta, q⟩ := h
    refine ⟨_, pss_cons (ps_set (i := 3) scSlice.nd rfl (.inl rfl) (pe_lst pa_nil))
      (C8.pss_cut (ps_if (pt_cmpR op_eq (pe_ix ix_tup (pv 0) pe_int (fun _ _ => rfl)) pe_str (nomark _))
        (pss_one (ps_expr (pe_bm PySem.F.plainAttrs_list PySem.F.slot_list_append PySem.F.type_list_append mt_append (pv 3)
          (pa_cons (pe_tup (pa_cons pe_str (pa_cons (pe_slice sl_tupA (pe_ix ix_tup (pv 0) pe_int (fun _ _ => rfl)) (po_some (pv 1)) (po_some (pv 2))) pa_nil))) pa_nil)))) pss_nil)
      (C8.pss_cut (ps_if (pt_cmpR op_eq (pe_ix ix_tup (pv 0) pe_int (fun _ _ => rfl)) pe_str (nomark _))
        (pss_one (ps_expr (pe_bm PySem.F.plainAttrs_list PySem.F.slot_list_append PySem.F.type_list_append mt_append (pv 3)
          (pa_cons (pe_tup (pa_cons pe_str (pa_cons (pe_ix ix_tup (pv 0) pe_int (fun _ _ => rfl)) (pa_cons (pe_op op_add (pe_ix ix_tup (pv 0) pe_int (fun _ _ => rfl)) (pv 1))
            (pa_cons (pe_callB (call_min2 rfl) (by rfl) T.min (by decide +kernel) (pa_cons (pe_ix ix_tup (pv 0) pe_int (fun _ _ => rfl)) (pa_cons (pe_op op_add (pe_ix ix_tup (pv 0) pe_int (fun _ _ => rfl)) (pv 2)) pa_nil))) pa_nil))))) pa_nil)))) pss_nil)
      (C8.pss_cut (ps_if (PW.pt (pw_and (pt_cmpR op_ne (pv 1) pe_int (nomark _)) (pw_and1 (pt_cmpR op_le (pv 2) (pv 1) (nomark _)))))
        (pss_one (ps_expr (pe_bm PySem.F.plainAttrs_list PySem.F.slot_list_append PySem.F.type_list_append mt_append (pv 3)
          (pa_cons (pe_tup (pa_cons pe_str (pa_cons (pv 0) (pa_cons pe_int (pa_cons pe_int pa_nil))))) pa_nil)))) pss_nil)
      (pss_one (ps_ret (pv 3)))))), ?_⟩
    refine ⟨Nat.zero_le _, fun o no => ?_⟩
    have s1 : Same H (upd H o (.lst [])) := same_new no
    refine ⟨fun σ H' => σ = [some va, some (.int i), some (.int j), some (.ref o)] ∧ Same H H' ∧ ∃ xs, H' o = some (.lst xs) ∧ xs.length ≤ 1 ∧ Tps K H' xs ((sl4 i j a).map dS), ?_, ?_⟩
    · have ta1 := ta.mono (keepT_same s1)
      obtain ⟨pa, ya, ep, tta, tsa⟩ := ta1.ex_inv
      subst ep
      refine rd_ix (k := 0) rfl tta rfl tsa.head ⟨rfl, _, rfl, ?_⟩
      rw [dec_strV]
      by_cases h1 : word a = wL
      · rw [show decide (word a = Str.ofString "literal") = true from decide_eq_true h1]
        obtain ⟨t, rfl⟩ := wd_lit h1
        obtain ⟨_, qa, za, ea, tla, ttx, tch⟩ := lit_parts ta1
        cases ea
        have fin : ∀ (H3 : Hp) (tx : Addr) (zs : List V), Same (upd H o (.lst [])) H3 → TT K H3 tx zs → Tps K H3 zs ((cut t i j).map chData) → ∀ p, H3 p = none →
            (∃ l xs y, V.ref o = .ref l ∧ [V.ref p] = [y] ∧ (upd H3 p (.tup [.str (Str.ofString "literal"), .ref tx])) l = some (.lst xs) ∧ xs.length < sizeLine ∧
              ([some (V.ref pa), some (V.int i), some (V.int j), some (V.ref o)] = [some (V.ref pa), some (V.int i), some (V.int j), some (V.ref o)] ∧ Same H (upd (upd H3 p (.tup [.str (Str.ofString "literal"), .ref tx])) l (.lst (xs ++ [y]))) ∧
                ∃ ys, (upd (upd H3 p (.tup [.str (Str.ofString "literal"), .ref tx])) l (.lst (xs ++ [y]))) o = some (.lst ys) ∧ ys.length ≤ 1 ∧ Tps K (upd (upd H3 p (.tup [.str (Str.ofString "literal"), .ref tx])) l (.lst (xs ++ [y]))) ys ((sl4 i j (.lit t)).map dS))) := by
          intro H3 tx zs s3 ttx ttz p np
          have ho3 : H3 o = some (.lst []) := s3 _ _ upd_same
          have ho4 : (upd H3 p (.tup [.str (Str.ofString "literal"), .ref tx])) o = some (.lst []) := by
            rw [upd_ne (ne_of_none ho3 np)]
            exact ho3
          have k4 : KeepT H3 (upd (upd H3 p (.tup [.str (Str.ofString "literal"), .ref tx])) o (.lst ([] ++ [.ref p]))) := (keepT_new np).trans (keepT_lst ho4)
          refine ⟨o, [], _, rfl, rfl, ho4, small_le (Nat.zero_le _), rfl, samePut (sameNew (s1.trans s3) np) no, _, upd_same, Nat.le_refl _, ?_⟩
          refine .one (.tup (show TT K _ p [.str (Str.ofString "literal"), .ref tx] from .inl ?_) (.cons (.str _) (.cons (.tup (ttx.keep k4) (ttz.mono k4)) .nil)))
          rw [upd_ne (fun z => by rw [z, upd_same] at ho4; cases ho4), upd_same]
        refine iteT ⟨.ref o, rfl, .inl ⟨rfl, _, .inl (.inl upd_same)⟩, rd_ix (k := 1) rfl tla rfl rfl ⟨_, rfl, i, rfl, _, rfl, j, rfl, qa, za, rfl, ttx.sq, fun hw => ?_, fun hw p np => ?_⟩⟩
        · refine ⟨line2, fun p np => fin _ qa za (Same.refl _) ttx ?_ p np⟩
          rw [map_cut, ← cut_whole hw]
          exact tch.cut i j
        · refine ⟨line2, fun p' np' => fin _ p _ (same_new np) (.inl upd_same) ?_ p' np'⟩
          rw [map_cut, cutV_nat]
          exact (tch.cut i j).mono (keepT_new np)
      · rw [show decide (word a = Str.ofString "literal") = false from decide_eq_false h1]
        refine iteF ⟨rfl, s1, _, upd_same, Nat.zero_le _, ?_⟩
        rw [sl4_nil h1]
        exact .nil
    rintro σ' H1 ⟨rfl, sm1, xs1, ho1, l1, tx1⟩
    refine ⟨fun σ H' => σ = [some va, some (.int i), some (.int j), some (.ref o)] ∧ Same H H' ∧ ∃ xs, H' o = some (.lst xs) ∧ xs.length ≤ 2 ∧ Tps K H' xs ((sl4 i j a ++ sl5 i j a).map dS), ?_, ?_⟩
    · have ta1 := ta.mono (keepT_same sm1)
      obtain ⟨pa, ya, ep, tta, tsa⟩ := ta1.ex_inv
      subst ep
      refine rd_ix (k := 0) rfl tta rfl tsa.head ⟨rfl, _, rfl, ?_⟩
      rw [dec_strV]
      by_cases h1 : word a = Str.ofString "slice"
      · rw [decide_eq_true h1]
        obtain ⟨i', j', b, rfl⟩ := wd_slice h1
        obtain ⟨_, x, ea, tla, tb⟩ := sl_parts ta1
        cases ea
        refine iteT ⟨.ref o, rfl, .inl ⟨rfl, _, .inl (.inl ho1)⟩, rd_ix (k := 1) rfl tla rfl rfl (rd_ix (k := 2) rfl tla rfl rfl ⟨_, rfl, i', i, rfl, rfl, rd_ix (k := 3) rfl tla rfl rfl
          (rd_ix (k := 2) rfl tla rfl rfl ⟨_, rfl, i', j, rfl, rfl, j', (i' : Int) + j, rfl, line4, fun p np => ?_⟩)⟩)⟩
        have ho2 : (upd H1 p (.tup [.str (Str.ofString "slice"), x, .int ((i' : Int) + i), .int (if (i' : Int) + j < j' then (i' : Int) + j else j')])) o = some (.lst xs1) := by
          rw [upd_ne (ne_of_none ho1 np)]
          exact ho1
        have k2 := (keepT_new (o := .tup [.str (Str.ofString "slice"), x, .int ((i' : Int) + i), .int (if (i' : Int) + j < j' then (i' : Int) + j else j')]) np).trans (keepT_lst (o := .lst (xs1 ++ [.ref p])) ho2)
        refine ⟨o, xs1, _, rfl, rfl, ho2, small_le (by omega), rfl, samePut (sameNew sm1 np) no, _, upd_same, by rw [List.length_append, List.length_singleton]; omega, ?_⟩
        rw [List.map_append]
        refine (tx1.mono k2).app (.one (.tup (xs := [.str (Str.ofString "slice"), x, .int ((i' : Int) + i), .int (if (i' : Int) + j < j' then (i' : Int) + j else j')]) (.inl ?_) (.cons (.str _) (.cons (tb.mono k2) ?_))))
        · rw [upd_ne (fun z => by rw [z, upd_same] at ho2; cases ho2), upd_same]
        · have e1 : (if (i' : Int) + j < j' then (i' : Int) + j else j') = ((min j' (i' + j) : Nat) : Int) := by
            rw [← min_int j' (i' + j)]
            rfl
          rw [e1]
          exact .cons (.int _) (.cons (.int _) .nil)
      · rw [decide_eq_false h1]
        refine iteF ⟨rfl, sm1, _, ho1, by omega, ?_⟩
        rw [sl5_nil h1, List.append_nil]
        exact tx1
    rintro σ' H2 ⟨rfl, sm2, xs2, ho2, l2, tx2⟩
    refine ⟨fun σ H' => σ = [some va, some (.int i), some (.int j), some (.ref o)] ∧ Same H H' ∧ ∃ xs, H' o = some (.lst xs) ∧ Tps K H' xs ((topU (.slice i j) a).map dS), ?_, ?_⟩
    · have et : topU (.slice i j) a = sl4 i j a ++ sl5 i j a ++ (if i ≠ 0 ∧ j ≤ i then [Ex.un (.slice 0 0) a] else []) := rfl
      refine ⟨.int i, rfl, rfl, _, rfl, ?_⟩
      by_cases hi : i = 0
      · rw [show (!decide (V.int (i : Int) = V.int 0)) = false by rw [hi]; rfl]
        refine iteF (iteF ⟨rfl, sm2, _, ho2, ?_⟩)
        rw [et, if_neg (fun z => z.1 hi), List.append_nil]
        exact tx2
      · rw [show (!decide (V.int (i : Int) = V.int 0)) = true by
          rw [decide_eq_false (fun z => hi (by have := V.int.inj z; omega))]
          rfl]
        refine iteT ⟨.int j, rfl, .int i, rfl, j, i, rfl, rfl, _, rfl, ?_⟩
        by_cases hj : j ≤ i
        · rw [decide_eq_true (show (j : Int) ≤ (i : Int) by omega)]
          refine iteT ⟨.ref o, rfl, .inl ⟨rfl, _, .inl (.inl ho2)⟩, va, rfl, line4, fun p np => ?_⟩
          have ho3 : (upd H2 p (.tup [.str (Str.ofString "slice"), va, .int 0, .int 0])) o = some (.lst xs2) := by
            rw [upd_ne (ne_of_none ho2 np)]
            exact ho2
          have k3 := (keepT_new (o := .tup [.str (Str.ofString "slice"), va, .int 0, .int 0]) np).trans (keepT_lst (o := .lst (xs2 ++ [.ref p])) ho3)
          refine ⟨o, xs2, _, rfl, rfl, ho3, small_le (by omega), rfl, samePut (sameNew sm2 np) no, _, upd_same, ?_⟩
          rw [et, if_pos ⟨hi, hj⟩, List.map_append]
          refine (tx2.mono k3).app (.one (.tup (xs := [.str (Str.ofString "slice"), va, .int 0, .int 0]) (.inl ?_) (.cons (.str _) (.cons (ta.mono ((keepT_same sm2).trans k3)) (.cons (.int _) (.cons (.int _) .nil))))))
          rw [upd_ne (fun z => by rw [z, upd_same] at ho3; cases ho3), upd_same]
        · rw [decide_eq_false (show ¬ (j : Int) ≤ (i : Int) by omega)]
          refine iteF ⟨rfl, sm2, _, ho2, ?_⟩
          rw [et, if_neg (fun z => hj z.2), List.append_nil]
          exact tx2
    rintro σ' H3 ⟨rfl, sm3, xs3, ho3, tx3⟩
    exact ⟨.ref o, rfl, q H3 o xs3 sm3 no ho3 tx3⟩
end
end K12

/-! Walks: search_rewritings, top_rewritings. -/
namespace K12
open PySem PySem.Spec PyProof.Rows L2
section
variable {P : Program} {w : World} {K : PySem.W.Frag} {mg : Str → Option Value} {base : Heap} {dP eE : Addr} {tM : Tok}

/-! ### search_rewritings -/
theorem scSearch : FnScope ["expression"] ["expression"] (defScope sSearch) := ⟨rfl, rfl, rfl, by decide +kernel, rfl, by decide +kernel, by decide +kernel⟩
inductive Srch : Ex Tx → Ex Tx → Ex Tx → Prop
  | find (a b : Ex Tx) : Srch (.bin .find a b) a b
  | after (a b : Ex Tx) : Srch (.bin .after a b) a b
  | before (a b : Ex Tx) : Srch (.bin .before a b) a b
  | repl (a b c : Ex Tx) : Srch (.tri .repl a b c) a b
def spSearch (K : PySem.W.Frag) : Sp := fun vs H Q _ => ∃ v, ∃ e a b : Ex Tx, vs = [v] ∧ Srch e a b ∧ Tp K H v (dS e) ∧ Fine e ∧
  ∀ H' p xs, Same H H' → H p = none → H' p = some (.lst xs) → Tps K H' xs ((top e).map dS) → Q (.ref p) H'
theorem Srch.parts {H : Hp} {e a b : Ex Tx} {xs : List V} (s : Srch e a b) (h : Tps K H xs (ds txData dS e)) : ∃ x y, xs[1]? = some x ∧ Tp K H x (dS a) ∧ xs[2]? = some y ∧ Tp K H y (dS b) := by
  cases s with
  | find a b =>
    obtain ⟨x, e1, t1⟩ := h.get (i := 1) (d := dS a) rfl
    obtain ⟨y, e2, t2⟩ := h.get (i := 2) (d := dS b) rfl
    exact ⟨x, y, e1, t1, e2, t2⟩
  | after a b =>
    obtain ⟨x, e1, t1⟩ := h.get (i := 1) (d := dS a) rfl
    obtain ⟨y, e2, t2⟩ := h.get (i := 2) (d := dS b) rfl
    exact ⟨x, y, e1, t1, e2, t2⟩
  | before a b =>
    obtain ⟨x, e1, t1⟩ := h.get (i := 1) (d := dS a) rfl
    obtain ⟨y, e2, t2⟩ := h.get (i := 2) (d := dS b) rfl
    exact ⟨x, y, e1, t1, e2, t2⟩
  | repl a b c =>
    obtain ⟨x, e1, t1⟩ := h.get (i := 1) (d := dS a) rfl
    obtain ⟨y, e2, t2⟩ := h.get (i := 2) (d := dS b) rfl
    exact ⟨x, y, e1, t1, e2, t2⟩
theorem Fine.sub {e a b : Ex Tx} (s : Srch e a b) (f : Fine e) : Fine b := by
  cases s with
  | find a b => exact ⟨f.ok.2.2, by have h : max (depth a) (depth b) + 1 ≤ 4 := f.dp; omega, by have h : starts a + starts b ≤ 5000 := f.st; omega⟩
  | after a b => exact ⟨f.ok.2.2, by have h : max (depth a) (depth b) + 1 ≤ 4 := f.dp; omega, by have h : starts a + starts b ≤ 5000 := f.st; omega⟩
  | before a b => exact ⟨f.ok.2.2, by have h : max (depth a) (depth b) + 1 ≤ 4 := f.dp; omega, by have h : starts a + starts b ≤ 5000 := f.st; omega⟩
  | repl a b c => exact ⟨f.ok.2.1, by have h : max (max (depth a) (depth b)) (depth c) + 1 ≤ 4 := f.dp; omega, by have h : starts a + starts b + starts c ≤ 5000 := f.st; omega⟩
theorem dec_w {x y : Str} {b : Bool} (h : decide (x = y) = b) : decide (V.str x = V.str y) = b := (dec_strV x y).trans h
theorem ok_search {f : Addr} {fd : FuncData} {k : Nat} (F : Fun K "search_rewritings" "search_rewritings" sSearch f fd) (T : Txt K w mg dP eE tM) : FnOk P w K mg base CX0 (k + 1) f fd ["expression"] (spSearch K) := by
  refine F.ok scSearch (fun vs H Q E h => ?_) (fun cdv A outer s H vs Q E hr h => ?_)
  · obtain ⟨v, e, a, b, rfl, _⟩ := h
    rfl
  · obtain ⟨v, e, a, b, rfl, se, te, fe, q⟩ := h
    refine ⟨_, pss_cons (ps_if (pt_cmpR (op_neD hr.units) (pe_ix ix_tup (pv 0) pe_int (fun _ _ => rfl)) (pe_glob (v := .ref eE) rfl T.mE rfl) (nomark _)) (pss_one (ps_ret (pe_lst pa_nil))) pss_nil)
      (pss_cons (ps_if (pt_cmpR op_eq (pe_ix ix_tup (pv 0) pe_int (fun _ _ => rfl)) pe_str (nomark _)) (pss_one (ps_ret (pe_lst (pa_cons (pe_ix ix_tup (pv 0) pe_int (fun _ _ => rfl)) pa_nil)))) pss_nil)
      (pss_cons (ps_if (pt_cmpR op_eq (pe_ix ix_tup (pv 0) pe_int (fun _ _ => rfl)) pe_str (nomark _))
        (pss_one (ps_ret (pe_ifExp (pt_cmpR op_eq (pe_ix ix_tup (pe_ix ix_tup (pv 0) pe_int (fun _ _ => rfl)) pe_int (fun _ _ => rfl)) pe_str (nomark _))
          (pe_lst (pa_cons (pe_ix ix_tup (pv 0) pe_int (fun _ _ => rfl)) pa_nil)) (pe_lst pa_nil)))) pss_nil)
      (pss_one (ps_ret (pe_lst (pa_cons (pe_tup (pa_cons pe_str (pa_cons (pe_ix ix_tup (pv 0) pe_int (fun _ _ => rfl)) (pa_cons pe_int (pa_cons pe_int pa_nil))))) pa_nil)))))), ?_⟩
    obtain ⟨p, xs, rfl, tt, ts⟩ := te.ex_inv
    obtain ⟨x, y, e1, t1, e2, t2⟩ := se.parts ts
    refine rd_ix (k := 2) rfl tt rfl e2 ⟨dS b, dS (.lit []), Tp.dp _ _ t2, Tp.dp _ _ (T.tE _), (Fine.sub se fe).shaped, shaped_empty, _, rfl, ?_⟩
    rw [eqv_empty]
    by_cases hb : b = .lit []
    · rw [decide_eq_true hb]
      subst hb
      refine iteF (rd_ix (k := 0) rfl tt rfl ts.head ⟨rfl, _, rfl, ?_⟩)
      -- one result that is the part itself
      have one : ∀ (z : Ex Tx), top e = [z] → z = a → x ∈ xs → ∀ o, H o = none → Q (.ref o) (upd H o (.lst [x])) := fun z h1 h2 _ o no => by
        refine q _ o [x] (same_new no) no upd_same ?_
        rw [h1, h2]
        exact .one (t1.mono (keepT_new no))
      have hx : x ∈ xs := List.mem_of_getElem? e1
      have sl : top e = [.un (.slice 0 0) a] → ∀ t, H t = none → ∀ o, upd H t (.tup [.str (Str.ofString "slice"), x, .int 0, .int 0]) o = none →
          Q (.ref o) (upd (upd H t (.tup [.str (Str.ofString "slice"), x, .int 0, .int 0])) o (.lst [.ref t])) := fun h1 t nt o no => by
        have nto : H o = none := (same_new nt).free no
        refine q _ o [.ref t] (sameNew (same_new nt) no) nto upd_same ?_
        rw [h1]
        have kk := (keepT_new (o := .tup [.str (Str.ofString "slice"), x, .int 0, .int 0]) nt).trans (keepT_new (o := .lst [.ref t]) no)
        refine .one (.tup (xs := [.str (Str.ofString "slice"), x, .int 0, .int 0]) (.inl ?_) (.cons (.str _) (.cons (t1.mono kk) (.cons (.int _) (.cons (.int _) .nil)))))
        rw [upd_ne (fun z => by rw [z, upd_same] at no; cases no), upd_same]
      cases se with
      | after a b =>
        exact iteTe (dec_w (show decide (wB .after = Str.ofString "after") = true by decide +kernel)) (rd_ix (k := 1) rfl tt rfl e1 ⟨line1, fun o no => one a (show (if (Ex.lit [] : Ex Tx) = .lit [] then [a] else []) = [a] from if_pos rfl) rfl hx o no⟩)
      | find a b =>
        refine iteFe (dec_w (show decide (wB .find = Str.ofString "after") = false by decide +kernel)) (rd_ix (k := 0) rfl tt rfl ts.head ⟨rfl, _, rfl, ?_⟩)
        exact iteFe (dec_w (show decide (wB .find = Str.ofString "replace all") = false by decide +kernel)) (rd_ix (k := 1) rfl tt rfl e1 ⟨line4, fun t nt => ⟨line1, fun o no => sl (show (if (Ex.lit [] : Ex Tx) = .lit [] then [Ex.un (.slice 0 0) a] else []) = _ from if_pos rfl) t nt o no⟩⟩)
      | before a b =>
        refine iteFe (dec_w (show decide (wB .before = Str.ofString "after") = false by decide +kernel)) (rd_ix (k := 0) rfl tt rfl ts.head ⟨rfl, _, rfl, ?_⟩)
        exact iteFe (dec_w (show decide (wB .before = Str.ofString "replace all") = false by decide +kernel)) (rd_ix (k := 1) rfl tt rfl e1 ⟨line4, fun t nt => ⟨line1, fun o no => sl (show (if (Ex.lit [] : Ex Tx) = .lit [] then [Ex.un (.slice 0 0) a] else []) = _ from if_pos rfl) t nt o no⟩⟩)
      | repl a b c =>
        refine iteFe (dec_w (show decide (wT .repl = Str.ofString "after") = false by decide +kernel)) (rd_ix (k := 0) rfl tt rfl ts.head ⟨rfl, _, rfl, ?_⟩)
        obtain ⟨z, e3, t3⟩ := ts.get (i := 3) (d := dS c) rfl
        obtain ⟨pc, ys, rfl, ttc, tsc⟩ := t3.ex_inv
        refine iteTe (dec_w (show decide (wT .repl = Str.ofString "replace all") = true by decide +kernel)) (rd_ix (k := 3) rfl tt rfl e3 ⟨pc, ys, 0, _, rfl, rfl, ttc.sq, atI_nat (j := 0) tsc.head, rfl, _, rfl, ?_⟩)
        rw [dec_strV]
        have et : top (.tri .repl a (.lit []) c) = if isLit c = true then [a] else [] := (show (if (Ex.lit [] : Ex Tx) = .lit [] then (if isLit c = true then [a] else []) else []) = _ from if_pos rfl)
        by_cases hc : word c = wL
        · rw [show decide (word c = Str.ofString "literal") = true from decide_eq_true hc]
          obtain ⟨t, rfl⟩ := wd_lit hc
          exact iteT (rd_ix (k := 1) rfl tt rfl e1 ⟨line1, fun o no => one a et rfl hx o no⟩)
        · rw [show decide (word c = Str.ofString "literal") = false from decide_eq_false hc]
          refine iteF ⟨Nat.zero_le _, fun o no => q _ o [] (same_new no) no upd_same ?_⟩
          rw [et, if_neg (fun z => hc (by cases c <;> first | rfl | cases z))]
          exact .nil
    · rw [decide_eq_false hb]
      refine iteT ⟨Nat.zero_le _, fun o no => q _ o [] (same_new no) no upd_same ?_⟩
      have : top e = [] := by
        cases se with
        | find => exact if_neg hb
        | after => exact if_neg hb
        | before => exact if_neg hb
        | repl => exact if_neg hb
      rw [this]
      exact .nil

/-! ### top_rewritings -/
theorem scTop : FnScope ["expression", "word"] ["expression"] (defScope sTop) := ⟨rfl, rfl, rfl, by decide +kernel, rfl, by decide +kernel, by decide +kernel⟩
def spTop (K : PySem.W.Frag) : Sp := fun vs H Q _ => ∃ v, ∃ e : Ex Tx, vs = [v] ∧ Tp K H v (dS e) ∧ Fine e ∧
  ∀ H' p xs, Same H H' → H p = none → H' p = some (.lst xs) → Tps K H' xs ((top e).map dS) → Q (.ref p) H'
def wordIs (x : String) (e : Ex Tx) : Prop := word e = Str.ofString x
theorem wd_concat {e : Ex Tx} (h : word e = Str.ofString "concat") : ∃ a b, e = .bin .concat a b := by
  cases e with
  | lit t => exact absurd (show wL = Str.ofString "concat" from h) (by decide +kernel)
  | atom k n => exact absurd (show wA k = Str.ofString "concat" from h) (by cases k <;> decide +kernel)
  | un k a =>
    cases k with
    | slice i j => exact absurd (show Str.ofString "slice" = Str.ofString "concat" from h) (by decide +kernel)
    | dyn => exact absurd (show wU .dyn = Str.ofString "concat" from h) (by decide +kernel)
  | bin k a b =>
    cases k with
    | coin c => exact absurd (show Str.ofString "coin" = Str.ofString "concat" from h) (by decide +kernel)
    | concat => exact ⟨a, b, rfl⟩
    | find => exact absurd (show Str.ofString "find" = Str.ofString "concat" from h) (by decide +kernel)
    | after => exact absurd (show Str.ofString "after" = Str.ofString "concat" from h) (by decide +kernel)
    | before => exact absurd (show Str.ofString "before" = Str.ofString "concat" from h) (by decide +kernel)
  | tri k a b c => exact absurd (show wT k = Str.ofString "concat" from h) (by cases k <;> decide +kernel)
theorem wd_search {e : Ex Tx} (h : (word e == Str.ofString "find" || (word e == Str.ofString "after" || (word e == Str.ofString "before" || word e == Str.ofString "replace all"))) = true) : ∃ a b, Srch e a b := by
  cases e with
  | lit t => exact absurd h (show ¬ (wL == Str.ofString "find" || (wL == Str.ofString "after" || (wL == Str.ofString "before" || wL == Str.ofString "replace all"))) = true by decide +kernel)
  | atom k n => exact absurd h (show ¬ (wA k == Str.ofString "find" || (wA k == Str.ofString "after" || (wA k == Str.ofString "before" || wA k == Str.ofString "replace all"))) = true by cases k <;> decide +kernel)
  | un k a =>
    cases k with
    | slice i j => exact absurd h (show ¬ (Str.ofString "slice" == Str.ofString "find" || (Str.ofString "slice" == Str.ofString "after" || (Str.ofString "slice" == Str.ofString "before" || Str.ofString "slice" == Str.ofString "replace all"))) = true by decide +kernel)
    | dyn => exact absurd h (show ¬ (wU .dyn == Str.ofString "find" || (wU .dyn == Str.ofString "after" || (wU .dyn == Str.ofString "before" || wU .dyn == Str.ofString "replace all"))) = true by decide +kernel)
  | bin k a b =>
    cases k with
    | coin c => exact absurd h (show ¬ (Str.ofString "coin" == Str.ofString "find" || (Str.ofString "coin" == Str.ofString "after" || (Str.ofString "coin" == Str.ofString "before" || Str.ofString "coin" == Str.ofString "replace all"))) = true by decide +kernel)
    | concat => exact absurd h (show ¬ (wB .concat == Str.ofString "find" || (wB .concat == Str.ofString "after" || (wB .concat == Str.ofString "before" || wB .concat == Str.ofString "replace all"))) = true by decide +kernel)
    | find => exact ⟨a, b, .find a b⟩
    | after => exact ⟨a, b, .after a b⟩
    | before => exact ⟨a, b, .before a b⟩
  | tri k a b c =>
    cases k with
    | repl => exact ⟨a, b, .repl a b c⟩
    | ite => exact absurd h (show ¬ (wT .ite == Str.ofString "find" || (wT .ite == Str.ofString "after" || (wT .ite == Str.ofString "before" || wT .ite == Str.ofString "replace all"))) = true by decide +kernel)
theorem wd_if {e : Ex Tx} (h : word e = Str.ofString "if") : ∃ a b c, e = .tri .ite a b c := by
  cases e with
  | lit t => exact absurd (show wL = Str.ofString "if" from h) (by decide +kernel)
  | atom k n => exact absurd (show wA k = Str.ofString "if" from h) (by cases k <;> decide +kernel)
  | un k a =>
    cases k with
    | slice i j => exact absurd (show Str.ofString "slice" = Str.ofString "if" from h) (by decide +kernel)
    | dyn => exact absurd (show wU .dyn = Str.ofString "if" from h) (by decide +kernel)
  | bin k a b =>
    cases k with
    | coin c => exact absurd (show Str.ofString "coin" = Str.ofString "if" from h) (by decide +kernel)
    | concat => exact absurd (show wB .concat = Str.ofString "if" from h) (by decide +kernel)
    | find => exact absurd (show wB .find = Str.ofString "if" from h) (by decide +kernel)
    | after => exact absurd (show wB .after = Str.ofString "if" from h) (by decide +kernel)
    | before => exact absurd (show wB .before = Str.ofString "if" from h) (by decide +kernel)
  | tri k a b c =>
    cases k with
    | repl => exact absurd (show wT .repl = Str.ofString "if" from h) (by decide +kernel)
    | ite => exact ⟨a, b, c, rfl⟩
theorem top_none {e : Ex Tx} (h1 : word e ≠ Str.ofString "concat") (h2 : word e ≠ Str.ofString "slice") (h3 : ¬ (word e == Str.ofString "find" || (word e == Str.ofString "after" || (word e == Str.ofString "before" || word e == Str.ofString "replace all"))) = true)
    (h4 : ∀ t b c, e ≠ .tri .ite (.lit t) b c) : top e = [] := by
  cases e with
  | lit t => rfl
  | atom k n => rfl
  | un k a =>
    cases k with
    | slice i j => exact absurd rfl h2
    | dyn => rfl
  | bin k a b =>
    cases k with
    | coin c => rfl
    | concat => exact absurd rfl h1
    | find => exact absurd (show (wB .find == Str.ofString "find" || (wB .find == Str.ofString "after" || (wB .find == Str.ofString "before" || wB .find == Str.ofString "replace all"))) = true by decide +kernel) h3
    | after => exact absurd (show (wB .after == Str.ofString "find" || (wB .after == Str.ofString "after" || (wB .after == Str.ofString "before" || wB .after == Str.ofString "replace all"))) = true by decide +kernel) h3
    | before => exact absurd (show (wB .before == Str.ofString "find" || (wB .before == Str.ofString "after" || (wB .before == Str.ofString "before" || wB .before == Str.ofString "replace all"))) = true by decide +kernel) h3
  | tri k a b c =>
    cases k with
    | repl => exact absurd (show (wT .repl == Str.ofString "find" || (wT .repl == Str.ofString "after" || (wT .repl == Str.ofString "before" || wT .repl == Str.ofString "replace all"))) = true by decide +kernel) h3
    | ite =>
      cases a with
      | lit t => exact absurd rfl (h4 t b c)
      | _ => rfl
theorem ok_topr {f fC fS fF : Addr} {fd fdC fdS fdF : FuncData} {k : Nat} (F : Fun K "top_rewritings" "top_rewritings" sTop f fd) (T : Txt K w mg dP eE tM)
    (DC : Dfn K mg "concat_rewritings" sConcat ["left", "right"] fC fdC) (DS : Dfn K mg "slice_rewritings" sSlice ["part", "start", "end"] fS fdS) (DF : Dfn K mg "search_rewritings" sSearch ["expression"] fF fdF) :
    FnOk P w K mg base CX0 (k + 2) f fd ["expression"] (spTop K) := by
  have GC : FnOk P w K mg base CX0 (k + 1) fC fdC ["left", "right"] (spConcat K) := ok_concat DC.F T
  have GS : FnOk P w K mg base CX0 (k + 1) fS fdS ["part", "start", "end"] (spSlice K) := ok_slice DS.F T
  have GF : FnOk P w K mg base CX0 (k + 1) fF fdF ["expression"] (spSearch K) := ok_search DF.F T
  refine F.ok scTop (fun vs H Q E h => ?_) (fun cdv A outer s H vs Q E hr h => ?_)
  · obtain ⟨v, e, rfl, _⟩ := h
    rfl
  · obtain ⟨v, e, rfl, te, fe, q⟩ := h
    refine ⟨_, pss_cons (ps_set (i := 1) scTop.nd rfl (.inl rfl) (pe_ix ix_tup (pv 0) pe_int (fun _ _ => rfl)))
      (pss_cons (ps_if (pt_cmpR op_eq (pv 1) pe_str (nomark _))
        (pss_one (ps_ret (pe_call GC hr (by rfl) DC.g DC.F.kp DC.b .nil pass0 (pa_cons (pe_ix ix_tup (pv 0) pe_int (fun _ _ => rfl)) (pa_cons (pe_ix ix_tup (pv 0) pe_int (fun _ _ => rfl)) pa_nil))))) pss_nil)
      (pss_cons (ps_if (pt_cmpR op_eq (pv 1) pe_str (nomark _))
        (pss_one (ps_ret (pe_call GS hr (by rfl) DS.g DS.F.kp DS.b .nil pass0 (pa_cons (pe_ix ix_tup (pv 0) pe_int (fun _ _ => rfl)) (pa_cons (pe_ix ix_tup (pv 0) pe_int (fun _ _ => rfl)) (pa_cons (pe_ix ix_tup (pv 0) pe_int (fun _ _ => rfl)) pa_nil)))))) pss_nil)
      (pss_cons (ps_if (pt_cmpR op_in_seq (pv 1) (pe_tup (pa_cons pe_str (pa_cons pe_str (pa_cons pe_str (pa_cons pe_str pa_nil))))) (by rfl))
        (pss_one (ps_ret (pe_call GF hr (by rfl) DF.g DF.F.kp DF.b .nil pass0 (pa_cons (pv 0) pa_nil)))) pss_nil)
      (pss_cons (ps_if (PW.pt (pw_and (pt_cmpR op_eq (pv 1) pe_str (nomark _)) (pw_and1 (pt_cmpR op_eq (pe_ix ix_tup (pe_ix ix_tup (pv 0) pe_int (fun _ _ => rfl)) pe_int (fun _ _ => rfl)) pe_str (nomark _)))))
        (pss_one (ps_ret (pe_lst (pa_cons (pe_ifExp (pt_cmpR op_gt (pe_callB call_len_seq (by rfl) T.len PySem.boot_len (pa_cons (pe_ix ix_tup (pe_ix ix_tup (pv 0) pe_int (fun _ _ => rfl)) pe_int (fun _ _ => rfl)) pa_nil)) pe_int (nomark _))
          (pe_ix ix_tup (pv 0) pe_int (fun _ _ => rfl)) (pe_ix ix_tup (pv 0) pe_int (fun _ _ => rfl))) pa_nil)))) pss_nil)
      (pss_one (ps_ret (pe_lst pa_nil))))))), ?_⟩
    have te0 := te
    obtain ⟨p, xs, rfl, tt, ts⟩ := te.ex_inv
    refine rd_ix (k := 0) rfl tt rfl ts.head ⟨_, rfl, rfl, _, rfl, ?_⟩
    rw [dec_strV]
    by_cases h1 : word e = Str.ofString "concat"
    · rw [decide_eq_true h1]
      obtain ⟨a, b, rfl⟩ := wd_concat h1
      obtain ⟨x, e1, t1⟩ := ts.get (i := 1) (d := dS a) rfl
      obtain ⟨y, e2, t2⟩ := ts.get (i := 2) (d := dS b) rfl
      have hd : max (depth a) (depth b) + 1 ≤ 4 := fe.dp
      have hs : starts a + starts b ≤ 5000 := fe.st
      exact iteT (rd_ix (k := 1) rfl tt rfl e1 (rd_ix (k := 2) rfl tt rfl e2 ⟨x, y, a, b, rfl, t1, t2, ⟨fe.ok.2.1, by omega, by omega⟩, ⟨fe.ok.2.2, by omega, by omega⟩, q⟩))
    rw [decide_eq_false h1]
    refine iteF ⟨_, rfl, rfl, _, rfl, ?_⟩
    rw [dec_strV]
    by_cases h2 : word e = Str.ofString "slice"
    · rw [decide_eq_true h2]
      obtain ⟨i, j, a, rfl⟩ := wd_slice h2
      obtain ⟨x, e1, t1⟩ := ts.get (i := 1) (d := dS a) rfl
      obtain ⟨y, e2, t2⟩ := ts.get (i := 2) (d := .int i) rfl
      obtain ⟨z, e3, t3⟩ := ts.get (i := 3) (d := .int j) rfl
      cases t2.int_inv
      cases t3.int_inv
      exact iteT (rd_ix (k := 1) rfl tt rfl e1 (rd_ix (k := 2) rfl tt rfl e2 (rd_ix (k := 3) rfl tt rfl e3 ⟨x, a, i, j, rfl, t1, q⟩)))
    rw [decide_eq_false h2]
    refine iteF ⟨_, rfl, line4, fun tp np => ⟨tp, _, rfl, .inr (SqT.of upd_same), rfl, rfl, _, rfl, ?_⟩⟩
    have ein : inV (.str (word e)) [.str (Str.ofString "find"), .str (Str.ofString "after"), .str (Str.ofString "before"), .str (Str.ofString "replace all")] =
        (word e == Str.ofString "find" || (word e == Str.ofString "after" || (word e == Str.ofString "before" || word e == Str.ofString "replace all"))) := by
      show (Str.ofString "find" == word e || (Str.ofString "after" == word e || (Str.ofString "before" == word e || (Str.ofString "replace all" == word e || false)))) = _
      rw [Bool.or_false, Bool.beq_comm, Bool.beq_comm (a := Str.ofString "after"), Bool.beq_comm (a := Str.ofString "before"), Bool.beq_comm (a := Str.ofString "replace all")]
    show if (inV (.str (word e)) [.str (Str.ofString "find"), .str (Str.ofString "after"), .str (Str.ofString "before"), .str (Str.ofString "replace all")]) = true then _ else _
    rw [ein]
    have sm := same_new (o := .tup [.str (Str.ofString "find"), .str (Str.ofString "after"), .str (Str.ofString "before"), .str (Str.ofString "replace all")]) np
    by_cases h3 : (word e == Str.ofString "find" || (word e == Str.ofString "after" || (word e == Str.ofString "before" || word e == Str.ofString "replace all"))) = true
    · rw [if_pos h3]
      obtain ⟨a, b, se⟩ := wd_search h3
      exact ⟨.ref p, rfl, .ref p, e, a, b, rfl, se, te0.mono (keepT_same sm), fe, fun H' o zs s3 no => q H' o zs (sm.trans s3) (sm.free no)⟩
    rw [if_neg h3]
    refine ⟨_, rfl, rfl, _, rfl, ?_⟩
    have tt1 := tt.keep (keepT_same sm)
    have ts1 := ts.mono (keepT_same sm)
    have fin : top e = [] → ∀ o, (upd H tp (.tup [.str (Str.ofString "find"), .str (Str.ofString "after"), .str (Str.ofString "before"), .str (Str.ofString "replace all")])) o = none →
        Q (.ref o) (upd (upd H tp (.tup [.str (Str.ofString "find"), .str (Str.ofString "after"), .str (Str.ofString "before"), .str (Str.ofString "replace all")])) o (.lst [])) := fun h0 o no => by
      refine q _ o [] (sameNew sm no) (sm.free no) upd_same ?_
      rw [h0]
      exact .nil
    rw [dec_strV]
    by_cases h4 : word e = Str.ofString "if"
    · rw [decide_eq_true h4]
      obtain ⟨a, b, c, rfl⟩ := wd_if h4
      obtain ⟨x, e1, t1⟩ := ts1.get (i := 1) (d := dS a) rfl
      obtain ⟨y, e2, t2⟩ := ts1.get (i := 2) (d := dS b) rfl
      obtain ⟨z, e3, t3⟩ := ts1.get (i := 3) (d := dS c) rfl
      have t10 := t1
      obtain ⟨pa, ys, rfl, tta, tsa⟩ := t1.ex_inv
      refine iteT (rd_ix (k := 1) rfl tt1 rfl e1 ⟨pa, ys, 0, _, rfl, rfl, tta.sq, atI_nat (j := 0) tsa.head, rfl, _, rfl, ?_⟩)
      rw [dec_strV]
      by_cases ha : word a = wL
      · rw [show decide (word a = Str.ofString "literal") = true from decide_eq_true ha]
        obtain ⟨t, rfl⟩ := wd_lit ha
        obtain ⟨_, qa, za, ea, tla, ttx, tch⟩ := lit_parts t10
        cases ea
        refine iteT (rd_ix (k := 1) rfl tt1 rfl e1 ⟨pa, _, 1, _, rfl, rfl, tla.sq, atI_nat (j := 1) rfl, qa, za, rfl, .inr ttx.sq, _, _, rfl, rfl, _, rfl, ?_⟩)
        have lz : za.length = t.length := by rw [tch.len, List.length_map]
        rw [lz]
        have et : top (.tri .ite (.lit t) b c) = [if t = [] then c else b] := rfl
        by_cases ht : t = []
        · rw [decide_eq_false (show ¬ (0 : Int) < (t.length : Int) by rw [ht]; decide)]
          refine iteF (rd_ix (k := 3) rfl tt1 rfl e3 ⟨line1, fun o no => q _ o [z] (sameNew sm no) (sm.free no) upd_same ?_⟩)
          rw [et, if_pos ht]
          exact .one (t3.mono (keepT_new no))
        · have : 0 < t.length := List.length_pos_iff.mpr ht
          rw [decide_eq_true (show (0 : Int) < (t.length : Int) by omega)]
          refine iteT (rd_ix (k := 2) rfl tt1 rfl e2 ⟨line1, fun o no => q _ o [y] (sameNew sm no) (sm.free no) upd_same ?_⟩)
          rw [et, if_neg ht]
          exact .one (t2.mono (keepT_new no))
      · rw [show decide (word a = Str.ofString "literal") = false from decide_eq_false ha]
        refine iteF ⟨Nat.zero_le _, fun o no => fin (top_none h1 h2 h3 fun t b' c' z => ?_) o no⟩
        cases z
        exact ha rfl
    · rw [decide_eq_false h4]
      refine iteF (iteF ⟨Nat.zero_le _, fun o no => fin (top_none h1 h2 h3 fun t b' c' z => ?_) o no⟩)
      subst z
      exact h4 rfl
end
end K12

/-! Walks: rewritings, normalize. -/
namespace K12
open PySem PySem.Spec PyProof.Rows L2
/-- t[:p] and t[p+1:] -/
theorem cutV_to (xs : List V) {p : Nat} (h : p ≤ xs.length) : cutV xs none (some (p : Int)) = xs.take p := by
  unfold cutV
  rw [HT.sIx_none, HT.sIx_nat, Nat.min_eq_left h]
  rfl
theorem cutV_from (xs : List V) {p : Nat} (h : p ≤ xs.length) : cutV xs (some (p : Int)) none = xs.drop p := by
  unfold cutV
  rw [HT.sIx_none, HT.sIx_nat, Nat.min_eq_left h, List.take_of_length_le (by rw [List.length_drop]; omega)]
theorem set_split {α : Type} (xs : List α) (p : Nat) (x : α) (h : p < xs.length) : xs.take p ++ [x] ++ xs.drop (p + 1) = xs.set p x := by
  rw [List.set_eq_take_append_cons_drop, if_pos h, List.append_assoc]
  rfl
section
variable {P : Program} {w : World} {K : PySem.W.Frag} {mg : Str → Option Value} {base : Heap} {dP eE : Addr} {tM : Tok}

/-! ### rewritings -/
theorem scRws : FnScope ["expression", "found", "place", "part"] ["expression"] (defScope sRws) := ⟨rfl, rfl, rfl, by decide +kernel, rfl, by decide +kernel, by decide +kernel⟩
def spRws (K : PySem.W.Frag) (d : Nat) : Sp := fun vs H Q _ => ∃ v, ∃ e : Ex Tx, vs = [v] ∧ Tp K H v (dS e) ∧ Fine e ∧ depth e ≤ d ∧
  ∀ H' p xs, Same H H' → TT K H' p xs → Tps K H' xs ((rws e).map dS) → Q (.ref p) H'
/-- what is found behind i places and j rewritings of the next -/
def fnd (e : Ex Tx) (i : Nat) : List (Ex Tx) := top e ++ ((places e).take i).flatMap fun p => (rws (kid e p)).map (put e p)
theorem fnd_all (e : Ex Tx) : fnd e (places e).length = rws e := by
  unfold fnd
  rw [List.take_length, rws_places]
theorem fnd_succ {e : Ex Tx} {i p : Nat} (h : (places e)[i]? = some p) : fnd e (i + 1) = fnd e i ++ (rws (kid e p)).map (put e p) := by
  unfold fnd
  rw [List.take_add_one, h, List.append_assoc]
  congr 1
  rw [List.flatMap_append]
  simp
theorem fnd_len (e : Ex Tx) (i : Nat) : (fnd e i).length ≤ (rws e).length := by
  rw [rws_places]
  unfold fnd
  rw [List.length_append, List.length_append]
  refine Nat.add_le_add_left ?_ _
  have e := congrArg List.length (congrArg (List.flatMap fun p => (rws (kid e p)).map (put e p)) (List.take_append_drop i (places e)))
  rw [List.flatMap_append, List.length_append] at e
  omega
theorem Fine.kid {e : Ex Tx} {p : Nat} (f : Fine e) (h : p ∈ places e) : Fine (K12.kid e p) := by
  have hd := f.dp
  have hk := kid_depth h
  have hs := f.st
  have ho := f.ok
  cases e with
  | lit t => exact absurd h List.not_mem_nil
  | atom k n => exact absurd h List.not_mem_nil
  | un k a =>
    refine ⟨ho.2, by omega, ?_⟩
    cases k with
    | slice i j => have : i + starts a ≤ 5000 := hs; show starts a ≤ 5000; omega
    | dyn => exact hs
  | bin k a b =>
    have hs' : starts a + starts b ≤ 5000 := hs
    have go : ∀ z, Fine (if p = z then a else b) := fun z => by
      have hd' : max (depth a) (depth b) + 1 ≤ 4 := hd
      split
      · exact ⟨ho.2.1, by omega, by omega⟩
      · exact ⟨ho.2.2, by omega, by omega⟩
    exact go _
  | tri k a b c =>
    have hs' : starts a + starts b + starts c ≤ 5000 := hs
    have hd' : max (max (depth a) (depth b)) (depth c) + 1 ≤ 4 := hd
    have go : Fine (if p = 1 then a else if p = 2 then b else c) := by
      split
      · exact ⟨ho.1, by omega, by omega⟩
      · split
        · exact ⟨ho.2.1, by omega, by omega⟩
        · exact ⟨ho.2.2, by omega, by omega⟩
    exact go
theorem ok_rws {f fT fP fC fS fF : Addr} {fd fdT fdP fdC fdS fdF : FuncData} (T : Txt K w mg dP eE tM)
    (D : Dfn K mg "rewritings" sRws ["expression"] f fd) (DT : Dfn K mg "top_rewritings" sTop ["expression"] fT fdT) (DP : Dfn K mg "part_places" sPlaces ["expression"] fP fdP)
    (DC : Dfn K mg "concat_rewritings" sConcat ["left", "right"] fC fdC) (DS : Dfn K mg "slice_rewritings" sSlice ["part", "start", "end"] fS fdS) (DF : Dfn K mg "search_rewritings" sSearch ["expression"] fF fdF) :
    ∀ d : Nat, FnOk P w K mg base CX0 (d + 3) f fd ["expression"] (spRws K d) := by
  have GT : FnOk P w K mg base CX0 2 fT fdT ["expression"] (spTop K) := ok_topr (k := 0) DT.F T DC DS DF
  have GP : FnOk P w K mg base CX0 1 fP fdP ["expression"] (spPlaces K) := ok_places DP.F T
  intro d
  induction d with
  | zero =>
    refine D.F.ok scRws (fun vs H Q E h => ?_) (fun cdv A outer s H vs Q E hr h => ?_)
    · obtain ⟨v, e, rfl, _⟩ := h
      rfl
    · obtain ⟨v, e, rfl, _, _, hd, _⟩ := h
      have := depth_pos e
      omega
  | succ d ih =>
    refine D.F.ok scRws (fun vs H Q E h => ?_) (fun cdv A outer s H vs Q E hr h => ?_)
    · obtain ⟨v, e, rfl, _⟩ := h
      rfl
    obtain ⟨v, e, rfl, te, fe, hd, q⟩ := h
    have te0 := te
    obtain ⟨pv0, ys, rfl, tt, ts⟩ := te.ex_inv
    refine ⟨_, pss_cons (ps_set (i := 1) scRws.nd rfl (.inl rfl) (pe_call GT (hr.mono (by omega)) (by rfl) DT.g DT.F.kp DT.b .nil pass0 (pa_cons (pv 0) pa_nil)))
      (pss_cons (ps_for PassesOwn.never rfl (pi_tup (pe_call GP (hr.mono (by omega)) (by rfl) DP.g DP.F.kp DP.b .nil pass0 (pa_cons (pv 0) pa_nil))) (pg_name (i := 2) scRws.nd rfl (.inl rfl))
        (pss_one (ps_for PassesOwn.never rfl (pi_tup (pe_call ih hr (by rfl) D.g D.F.kp D.b .nil pass0 (pa_cons (pe_ix ix_tup (pv 0) (pv 2) (fun _ _ => rfl)) pa_nil))) (pg_name (i := 3) scRws.nd rfl (.inl rfl))
          (pss_one (ps_expr (pe_bm PySem.F.plainAttrs_list PySem.F.slot_list_append PySem.F.type_list_append mt_append (pv 1)
            (pa_cons (pe_op op_catA (pe_op op_catA (pe_slice sl_tupA (pv 0) po_none (po_some (pv 2))) (pe_tup (pa_cons (pv 3) pa_nil))) (pe_slice sl_tupA (pv 0) (po_some (pe_op op_add (pv 2) pe_int)) po_none)) pa_nil)))))))
      (pss_one (ps_ret (pe_callTy call_tuple_of (by rfl) T.tuple (by decide +kernel) (pa_cons (pv 1) pa_nil))))), ?_⟩
    -- found = top_rewritings(expression)
    refine ⟨.ref pv0, rfl, .ref pv0, e, rfl, te0, fe, fun H1 o xs1 sm1 no ho1 tx1 => ?_⟩
    -- part_places(expression)
    refine ⟨.ref pv0, rfl, .ref pv0, e, rfl, te0.mono (keepT_same sm1), fun H2 pp sm2 ttp => ?_⟩
    have sz : (rws e).length ≤ 120 := by
      have h1 := rws_length e
      have h2 := size40 fe.dp
      omega
    refine ⟨pp, rfl, ⟨_, ttp.sq⟩, for_tup (xs := (places e).map fun p : Nat => V.int p)
      (fun i σ H' => ∃ y2 y3, σ = [some (.ref pv0), some (.ref o), y2, y3] ∧ Same H H' ∧ TT K H' pp ((places e).map fun p : Nat => V.int p) ∧ ∃ xs, H' o = some (.lst xs) ∧ Tps K H' xs ((fnd e i).map dS))
      ⟨none, none, rfl, sm1.trans sm2, ttp, xs1, sm2 _ _ ho1, ?_⟩ (fun i σ H' _ hP => ?_) (fun i x σ H' hx hP => ?_) (fun σ H' hP => ?_)⟩
    · have : fnd e 0 = top e := by simp [fnd]
      rw [this]
      exact tx1.mono (keepT_same sm2)
    · obtain ⟨_, _, _, _, t, _⟩ := hP
      exact t.sq
    · -- one place
      obtain ⟨y2, y3, rfl, sm3, ttp3, xs3, ho3, tx3⟩ := hP
      rw [List.getElem?_map] at hx
      obtain ⟨p, hp, rfl⟩ := Option.map_eq_some_iff.mp hx
      have hmem : p ∈ places e := List.mem_of_getElem? hp
      obtain ⟨hk, h1p, hlt⟩ := kid_ds txData dS hmem
      have tt3 := tt.keep (keepT_same sm3)
      have ts3 := ts.mono (keepT_same sm3)
      obtain ⟨z, ez, tz⟩ := ts3.get hk
      have lys : ys.length = (ds txData dS e).length := ts.len
      have l4 : ys.length ≤ 4 := by
        rw [lys]
        exact (ds_length txData dS e).2
      -- rewritings(expression[place])
      refine ⟨.ref pv0, rfl, .int p, rfl, pv0, ys, p, z, rfl, rfl, tt3.sq, atI_nat ez, z, kid e p, rfl, tz, fe.kid hmem, ?_, fun H4 r rs sm4 ttr trs => ?_⟩
      · have := kid_depth hmem
        omega
      refine ⟨r, rfl, ⟨_, ttr.sq⟩, for_tup (xs := rs)
        (fun j σ H' => ∃ y3, σ = [some (.ref pv0), some (.ref o), some (.int p), y3] ∧ Same H H' ∧ TT K H' pp ((places e).map fun p : Nat => V.int p) ∧ TT K H' r rs ∧ Tps K H' rs ((rws (kid e p)).map dS) ∧
          ∃ xs, H' o = some (.lst xs) ∧ Tps K H' xs ((fnd e i ++ ((rws (kid e p)).take j).map (put e p)).map dS))
        ⟨_, rfl, sm3.trans sm4, ttp3.keep (keepT_same sm4), ttr, trs, xs3, sm4 _ _ ho3, ?_⟩ (fun j σ H' _ hP => ?_) (fun j x σ H' hx hP => ?_) (fun σ H' hP => ?_)⟩
      · rw [List.take_zero, List.map_nil, List.append_nil]
        exact tx3.mono (keepT_same sm4)
      · obtain ⟨_, _, _, _, t, _⟩ := hP
        exact t.sq
      · obtain ⟨y4, rfl, sm5, ttp5, ttr5, trs5, xs5, ho5, tx5⟩ := hP
        obtain ⟨dx, edx, tdx⟩ := trs5.get' hx
        rw [List.getElem?_map] at edx
        obtain ⟨x', hx', rfl⟩ := Option.map_eq_some_iff.mp edx
        have tt5 := tt.keep (keepT_same sm5)
        have ts5 := ts.mono (keepT_same sm5)
        have hps : p < ys.length := by rw [lys]; exact hlt
        -- the new expression is laid: what follows
        have fin : ∀ (H6 : Hp) (c : Addr), Same H' H6 → TT K H6 c (ys.set p x) →
            ∃ l xs y, V.ref o = .ref l ∧ [V.ref c] = [y] ∧ H6 l = some (.lst xs) ∧ xs.length < sizeLine ∧
              (∃ y3, [some (V.ref pv0), some (V.ref o), some (V.int p), some x] = [some (V.ref pv0), some (V.ref o), some (V.int p), y3] ∧ Same H (upd H6 l (.lst (xs ++ [y]))) ∧ TT K (upd H6 l (.lst (xs ++ [y]))) pp ((places e).map fun p : Nat => V.int p) ∧
                TT K (upd H6 l (.lst (xs ++ [y]))) r rs ∧ Tps K (upd H6 l (.lst (xs ++ [y]))) rs ((rws (K12.kid e p)).map dS) ∧
                ∃ xs_1, (upd H6 l (.lst (xs ++ [y]))) o = some (.lst xs_1) ∧ Tps K (upd H6 l (.lst (xs ++ [y]))) xs_1 ((fnd e i ++ ((rws (K12.kid e p)).take (j + 1)).map (put e p)).map dS)) := by
          intro H6 c s6 ttc
          have ho6 : H6 o = some (.lst xs5) := s6 _ _ ho5
          have k6 : KeepT H' (upd H6 o (.lst (xs5 ++ [.ref c]))) := (keepT_same s6).trans (keepT_lst ho6)
          have k7 : KeepT H6 (upd H6 o (.lst (xs5 ++ [.ref c]))) := keepT_lst ho6
          have lx : xs5.length ≤ 240 := by
            have h1 := tx5.len
            have h2 := fnd_len e i
            have h3 := rws_length (K12.kid e p)
            have h4 := size40 (fe.kid hmem).dp
            rw [h1, List.length_map, List.length_append, List.length_map, List.length_take]
            omega
          refine ⟨o, xs5, _, rfl, rfl, ho6, small_le (by omega), _, rfl, samePut (sm5.trans s6) no, ttp5.keep k6, ttr5.keep k6, trs5.mono k6, _, upd_same, ?_⟩
          have e1 : fnd e i ++ ((rws (K12.kid e p)).take (j + 1)).map (put e p) = (fnd e i ++ ((rws (K12.kid e p)).take j).map (put e p)) ++ [put e p x'] := by
            rw [List.take_add_one, hx', List.map_append, ← List.append_assoc]
            rfl
          rw [e1, List.map_append]
          refine (tx5.mono k6).app (.one ?_)
          show Tp K _ (.ref c) (dS (put e p x'))
          refine Tp.ex (ttc.keep k7) ?_
          rw [put_ds txData dS x' hmem]
          exact (ts5.mono k6).set (tdx.mono k6) p
        refine ⟨.ref o, rfl, .inl ⟨rfl, _, .inl (.inl ho5)⟩, .ref pv0, rfl, .int p, rfl, p, rfl, pv0, ys, rfl, tt5.sq, fun hw => ?_, fun hw a na => ?_⟩
        · exfalso
          have := hw.2
          rw [HT.sIx_nat] at this
          omega
        have sa := same_new (o := .tup (cutV ys none (some (p : Int)))) na
        refine ⟨x, rfl, line1, fun b nb => ?_⟩
        have sb := sameNew (o := b) (u := .tup [x]) sa nb
        have hab : a ≠ b := fun z => by
          rw [z] at nb
          rw [upd_same] at nb
          cases nb
        have eA : (upd (upd H' a (.tup (cutV ys none (some (p : Int))))) b (.tup [x])) a = some (.tup (ys.take p)) := by
          rw [upd_ne hab, upd_same, cutV_to ys (Nat.le_of_lt hps)]
        have lt : (ys.take p).length = p := by rw [List.length_take]; omega
        refine ⟨a, b, ys.take p, [x], rfl, rfl, SqT.of eA, SqT.of upd_same, le_line (by rw [lt]; show p + 1 ≤ 10000; omega), fun z => ?_, (fun _ z => by cases z), fun _ _ c nc => ?_⟩
        · exfalso
          have := congrArg List.length z
          rw [lt] at this
          have : p = 0 := this
          omega
        have sc := sameNew (o := c) (u := .tup (ys.take p ++ [x])) sb nc
        refine ⟨.ref pv0, rfl, .int p, rfl, p, 1, rfl, rfl, _, rfl, pv0, ys, rfl, (tt5.keep (keepT_same sc)).sq, fun hw => ?_, fun hw d nd => ?_⟩
        · exfalso
          have := hw.1
          rw [show (p : Int) + 1 = ((p + 1 : Nat) : Int) from rfl, HT.sIx_nat] at this
          omega
        have sd := sameNew (o := d) (u := .tup (cutV ys (some ((p : Int) + 1)) none)) sc nd
        have hcd : c ≠ d := fun z => by
          rw [z] at nd
          rw [upd_same] at nd
          cases nd
        have ecut : cutV ys (some ((p : Int) + 1)) none = ys.drop (p + 1) := by
          rw [show (p : Int) + 1 = ((p + 1 : Nat) : Int) from rfl, cutV_from ys hps]
        have eC : (upd (upd (upd (upd H' a (.tup (cutV ys none (some (p : Int))))) b (.tup [x])) c (.tup (ys.take p ++ [x]))) d (.tup (cutV ys (some ((p : Int) + 1)) none))) c = some (.tup (ys.take p ++ [x])) := by
          rw [upd_ne hcd, upd_same]
        have esplit := set_split ys p x hps
        refine ⟨c, d, ys.take p ++ [x], cutV ys (some ((p : Int) + 1)) none, rfl, rfl, SqT.of eC, SqT.of upd_same, le_line (by rw [List.length_append, lt, ecut, List.length_drop, List.length_singleton]; omega), fun z => ?_, fun _ z => ?_, fun _ _ g ng => ?_⟩
        · exfalso
          have := congrArg List.length z
          rw [List.length_append] at this
          simp at this
        · rw [ecut] at z
          rw [z, List.append_nil] at esplit
          exact fin _ c sd (.inl (by rw [← esplit]; exact eC))
        · refine fin _ g (sameNew sd ng) (.inl ?_)
          rw [upd_same, ecut, esplit]
      · obtain ⟨y4, rfl, sm5, ttp5, ttr5, trs5, xs5, ho5, tx5⟩ := hP
        refine ⟨_, _, rfl, sm5, ttp5, xs5, ho5, ?_⟩
        have lr : rs.length = (rws (kid e p)).length := by rw [trs.len, List.length_map]
        rw [fnd_succ hp]
        rw [lr, List.take_length] at tx5
        exact tx5
    · obtain ⟨y2, y3, rfl, sm3, ttp3, xs3, ho3, tx3⟩ := hP
      rw [List.length_map, fnd_all] at tx3
      exact ⟨.ref o, rfl, o, xs3, rfl, .inl ⟨SqL.of ho3, fun l nl => q _ l xs3 (sameNew sm3 nl) (.inl upd_same) (tx3.mono (keepT_new nl))⟩⟩

/-! ### normalize -/
theorem scNorm : FnScope ["expression", "found"] ["expression"] (defScope sNorm) := ⟨rfl, rfl, rfl, by decide +kernel, rfl, by decide +kernel, by decide +kernel⟩
def spNorm (K : PySem.W.Frag) : Sp := fun vs H Q _ => ∃ v, ∃ e : Ex Tx, vs = [v] ∧ Tp K H v (dS e) ∧ Fine e ∧
  ∀ H' v' e', Same H H' → Tp K H' v' (dS e') → Steps e e' → Normal e' → Q v' H'
theorem ok_norm {f fR : Addr} {fd fdR : FuncData} (T : Txt K w mg dP eE tM) (D : Dfn K mg "normalize" sNorm ["expression"] f fd) (DR : Dfn K mg "rewritings" sRws ["expression"] fR fdR)
    (GR : FnOk P w K mg base CX0 7 fR fdR ["expression"] (spRws K 4)) : FnOk P w K mg base CX0 8 f fd ["expression"] (spNorm K) := by
  refine D.F.ok scNorm (fun vs H Q E h => ?_) (fun cdv A outer s H vs Q E hr h => ?_)
  · obtain ⟨v, e, rfl, _⟩ := h
    rfl
  · obtain ⟨v, e, rfl, te, fe, q⟩ := h
    refine ⟨_, pss_cons (ps_set (i := 1) scNorm.nd rfl (.inl rfl) (pe_call GR hr (by rfl) DR.g DR.F.kp DR.b .nil pass0 (pa_cons (pv 0) pa_nil)))
      (pss_cons (ps_while PassesOwn.never (pt_cmpR op_gt (pe_callB call_len_seq (by rfl) T.len PySem.boot_len (pa_cons (pv 1) pa_nil)) pe_int (nomark _))
        (pss_cons (ps_set (i := 0) scNorm.nd rfl (.inl rfl) (pe_ix ix_tup (pv 1) pe_int (fun _ _ => rfl)))
        (pss_one (ps_set (i := 1) scNorm.nd rfl (.inl rfl) (pe_call GR hr (by rfl) DR.g DR.F.kp DR.b .nil pass0 (pa_cons (pv 0) pa_nil))))))
      (pss_one (ps_ret (pv 0)))), ?_⟩
    refine ⟨v, rfl, v, e, rfl, te, fe, fe.dp, fun H1 p xs sm tt ts => ?_⟩
    refine ⟨fun m σ H' => ∃ v' e' p' xs', σ = [some v', some (.ref p')] ∧ M e' = m ∧ Same H H' ∧ Tp K H' v' (dS e') ∧ Steps e e' ∧ TT K H' p' xs' ∧ Tps K H' xs' ((rws e').map dS), ⟨M e, v, e, p, xs, rfl, rfl, sm, te.mono (keepT_same sm), .refl _, tt, ts⟩, ?_⟩
    rintro m σ H2 ⟨v', e', p', xs', rfl, rfl, sm2, te2, st, tt2, ts2⟩
    refine ⟨.ref p', rfl, p', xs', rfl, .inr tt2.sq, _, _, rfl, rfl, _, rfl, ?_⟩
    have l : xs'.length = (rws e').length := by rw [ts2.len, List.length_map]
    by_cases h0 : rws e' = []
    · refine iteFe (decide_eq_false (by rw [l, h0]; decide)) ⟨v', rfl, q H2 v' e' sm2 te2 st h0⟩
    · obtain ⟨x, r, er⟩ := List.exists_cons_of_ne_nil h0
      refine iteTe (decide_eq_true (by rw [l, er, List.length_cons]; omega)) ?_
      have fe' := fe.steps st
      have hx : x ∈ rws e' := by rw [er]; exact List.mem_cons_self
      obtain ⟨z, ez, tz⟩ := ts2.get (i := 0) (d := dS x) (by rw [er]; rfl)
      have fx := fe'.mem hx
      refine ⟨fun σ' H' => ∃ v'' e'' p'' xs'', σ' = [some v'', some (.ref p'')] ∧ M e'' < M e' ∧ Same H H' ∧ Tp K H' v'' (dS e'') ∧ Steps e e'' ∧ TT K H' p'' xs'' ∧ Tps K H' xs'' ((rws e'').map dS),
        fun σ' H' ⟨v'', e'', p'', xs'', a1, a2, a3⟩ => ⟨_, a2, v'', e'', p'', xs'', a1, rfl, a3⟩, ?_⟩
      refine rd_ix (k := 0) rfl tt2 rfl ez ⟨z, rfl, z, x, rfl, tz, fx, fx.dp, fun H3 p3 xs3 sm3 tt3 ts3 => ?_⟩
      exact ⟨z, x, p3, xs3, rfl, M_step (step_of_mem hx), sm2.trans sm3, tz.mono (keepT_same sm3), st.trans (.one (step_of_mem hx)), tt3, ts3⟩
end
end K12

/-! Walks: the tape, a draw. -/
namespace K12
open PySem PySem.Spec PyProof.Rows L2
section
variable {P : Program} {w : World} {K : PySem.W.Frag} {mg : Str → Option Value} {base : Heap} {dP eE : Addr} {tM : Tok}

/-- the tape at t -/
def TapeAt (K : PySem.W.Frag) (L : Addr) (H : Hp) (t : Addr) : Prop := ∃ (ns : List Int) (p n z : Int), H t = some (.lst [.ref L, .int p, .int n, .int z]) ∧ SqL K H L (ns.map V.int) ∧ L ≠ t ∧ 0 ≤ p ∧ 0 ≤ n ∧ 0 ≤ z ∧ z < 2147483647
theorem TapeAt.lst {L : Addr} {H : Hp} {t : Addr} (h : TapeAt K L H t) : ∃ l, H t = some (.lst l) := by
  obtain ⟨ns, p, n, z, h1, _⟩ := h
  exact ⟨_, h1⟩
theorem TapeAt.same {L : Addr} {H H' : Hp} {t : Addr} (s : Same H H') (h : TapeAt K L H t) : TapeAt K L H' t := by
  obtain ⟨ns, p, n, z, h1, h2, h3⟩ := h
  exact ⟨ns, p, n, z, s _ _ h1, s.seq h2, h3⟩
theorem TapeAt.new {L : Addr} {H : Hp} {t a : Addr} {o : HO} (h : TapeAt K L H t) (n : H a = none) : TapeAt K L (upd H a o) t := h.same (same_new n)
theorem TapeAt.ne {L : Addr} {H : Hp} {t a : Addr} (h : TapeAt K L H t) (n : H a = none) : a ≠ t := fun z => by
  obtain ⟨l, e⟩ := h.lst
  rw [z, e] at n
  cases n
theorem Bt.keepT {L : Addr} {H H' : Hp} {t : Addr} (b : Bt t H H') (h : TapeAt K L H t) : KeepT H H' := by
  obtain ⟨l, e⟩ := h.lst
  exact b.keep e

/-- a thing made since then is written -/
theorem TapeAt.put {L : Addr} {H0 H : Hp} {t a : Addr} {o : HO} (h0 : TapeAt K L H0 t) (n : H0 a = none) (h : TapeAt K L H t) : TapeAt K L (upd H a o) t := by
  have ha : a ≠ t := h0.ne n
  obtain ⟨ns0, _, _, _, _, s0, _⟩ := h0
  obtain ⟨ns, p, m, z, h1, h2, h3⟩ := h
  have e1 : (upd H a o) t = some (.lst [.ref L, .int p, .int m, .int z]) := by
    rw [upd_ne (Ne.symm ha)]
    exact h1
  rcases s0 with s0 | s0
  · have hL : L ≠ a := by
      rcases s0 with s0 | ⟨u, s0⟩
      · exact ne_of_none s0 n
      · exact ne_of_none s0 n
    refine ⟨ns, p, m, z, e1, ?_, h3⟩
    rcases h2 with (h2 | ⟨u, h2⟩) | h2
    · exact .inl (.inl (by rw [upd_ne hL]; exact h2))
    · exact .inl (.inr ⟨u, by rw [upd_ne hL]; exact h2⟩)
    · exact .inr h2
  · exact ⟨ns0, p, m, z, e1, .inr s0, h3⟩

/-! ### _law_tape -/
theorem scTape : FnScope ["_law_script", "_law_total", "_law_cell"] ["_law_script"] (defScope sTape) := ⟨rfl, rfl, rfl, by decide +kernel, rfl, by decide +kernel, by decide +kernel⟩
def spTape (K : PySem.W.Frag) : Sp := fun vs H Q _ => ∃ (a : Addr) (ns : List Int), vs = [.ref a] ∧ SqL K H a (ns.map V.int) ∧ ∀ H' t L, Same H H' → TapeAt K L H' t → Q (.ref t) H'
theorem ok_tape {f : Addr} {fd : FuncData} {k : Nat} (F : Fun K "_law_tape" "_law_tape" sTape f fd) (T : Txt K w mg dP eE tM) : FnOk P w K mg base CX0 (k + 1) f fd ["_law_script"] (spTape K) := by
  refine F.ok scTape (fun vs H Q E h => ?_) (fun cdv A outer s H vs Q E hr h => ?_)
  · obtain ⟨a, ns, rfl, _⟩ := h
    rfl
  · obtain ⟨a, ns, rfl, hS, q⟩ := h
    refine ⟨_, pss_cons (ps_set (i := 1) scTape.nd rfl (.inl rfl) pe_int)
      (pss_cons (ps_for PassesOwn.never rfl (pi_list (pv 0)) (pg_name (i := 2) scTape.nd rfl (.inl rfl))
        (pss_one (ps_set (i := 1) scTape.nd rfl (.inl rfl) (pe_op op_modN (pe_callTy call_int1 (by rfl) T.int (by decide +kernel) (pa_cons
          (pe_op op_add (pe_op op_mul (pv 1) pe_int) (pe_callB call_abs (by rfl) T.abs (by decide +kernel) (pa_cons (pe_callTy call_int1 (by rfl) T.int (by decide +kernel) (pa_cons (pv 2) pa_nil)) pa_nil))) pa_nil)) pe_int))))
      (pss_one (ps_ret (pe_lst (pa_cons (pe_callTy call_list_of (by rfl) T.list (by decide +kernel) (pa_cons (pv 0) pa_nil)) (pa_cons pe_int (pa_cons pe_int (pa_cons (pv 1) pa_nil)))))))), ?_⟩
    refine ⟨.ref a, rfl, a, rfl, ⟨_, hS⟩, for_list (xs := ns.map V.int) (fun i σ H' => H' = H ∧ ∃ z y2, σ = [some (.ref a), some (.int z), y2] ∧ 0 ≤ z ∧ z < 2147483647)
      ⟨rfl, 7, none, rfl, by decide, by decide⟩ (fun i σ H' _ hP => ?_) (fun i x σ H' hx hP => ?_) (fun σ H' hP => ?_)⟩
    · rw [hP.1]
      exact hS
    · obtain ⟨rfl, z, y2, rfl, z0, z1⟩ := hP
      rw [List.getElem?_map] at hx
      obtain ⟨n, _, rfl⟩ := Option.map_eq_some_iff.mp hx
      refine ⟨.int z, rfl, z, 31, rfl, rfl, .inr ⟨by decide, by decide⟩, .int n, rfl, .inl ⟨n, rfl, n, rfl, z * 31, _, rfl, rfl, .inl ⟨_, rfl, _, 2147483647, rfl, rfl, (show (2147483647 : Int) ≠ 0 by decide), ?_⟩⟩⟩
      exact ⟨rfl, _, _, rfl, Int.fmod_nonneg_of_pos _ (by decide), Int.fmod_lt_of_pos _ (by decide)⟩
    · obtain ⟨rfl, z, y2, rfl, z0, z1⟩ := hP
      refine ⟨.ref a, rfl, a, ns.map V.int, rfl, .inl hS, fun l nl => ⟨_, rfl, line4, fun t nt => ?_⟩⟩
      have nlt : l ≠ t := fun e => by
        rw [e, ] at nl
        rw [← e, upd_same] at nt
        cases nt
      refine q _ t l (sameNew (same_new nl) nt) ⟨ns, 0, 0, z, upd_same, ?_, nlt, by decide, by decide, z0, z1⟩
      refine .inl (.inl ?_)
      rw [upd_ne nlt, upd_same]

/-! ### _law_draw -/
theorem scDraw : FnScope ["_law_tape_here", "_law_many", "_law_place", "_law_number"] ["_law_tape_here", "_law_many"] (defScope sDraw) := ⟨rfl, rfl, rfl, by decide +kernel, rfl, by decide +kernel, by decide +kernel⟩
def spDraw (K : PySem.W.Frag) : Sp := fun vs H Q _ => ∃ (t L : Addr) (m : Nat), vs = [.ref t, .int m] ∧ TapeAt K L H t ∧ 1 ≤ m ∧ m ≤ 100000 ∧ ∀ (r : Nat) H', Bt t H H' → TapeAt K L H' t → r < m → Q (.int r) H'
theorem max1 {m : Nat} (h : 1 ≤ m) : (if (1 : Int) > (m : Int) then (1 : Int) else (m : Int)) = (m : Int) := by
  split <;> omega
theorem fmod_nat (x : Int) {m : Nat} (h : 1 ≤ m) : ∃ r : Nat, x.fmod (m : Int) = r ∧ r < m := by
  have h0 := Int.fmod_nonneg_of_pos x (show (0 : Int) < (m : Int) by omega)
  have h1 := Int.fmod_lt_of_pos x (show (0 : Int) < (m : Int) by omega)
  exact ⟨(x.fmod m).toNat, by omega, by omega⟩
theorem ok_draw {f : Addr} {fd : FuncData} {k : Nat} (F : Fun K "_law_draw" "_law_draw" sDraw f fd) (T : Txt K w mg dP eE tM) : FnOk P w K mg base CX0 (k + 1) f fd ["_law_tape_here", "_law_many"] (spDraw K) := by
  refine F.ok scDraw (fun vs H Q E h => ?_) (fun cdv A outer s H vs Q E hr h => ?_)
  · obtain ⟨t, L, m, rfl, _⟩ := h
    rfl
  obtain ⟨t, L, m, rfl, ⟨ns, p, n, z, ht, hL, hLt, p0, n0, z0, z1⟩, m1, m2, q⟩ := h
  refine ⟨_, C8.pss_cut (ps_if (pt_cmpR op_eq (pe_ix ix_list (pv 0) pe_int (fun _ _ => rfl)) pe_int (nomark _))
      (pss_cons (ps_set (i := 2) scDraw.nd rfl (.inl rfl) (pe_ix ix_list (pv 0) pe_int (fun _ _ => rfl)))
      (pss_cons (ps_set (i := 3) scDraw.nd rfl (.inl rfl) pe_int)
      (C8.pss_cut (ps_if (pt_cmpR op_lt (pv 2) (pe_callB call_len_seq (by rfl) T.len PySem.boot_len (pa_cons (pe_ix ix_list (pv 0) pe_int (fun _ _ => rfl)) pa_nil)) (nomark _))
        (pss_one (ps_set (i := 3) scDraw.nd rfl (.inl rfl) (pe_callB call_abs (by rfl) T.abs (by decide +kernel) (pa_cons (pe_callTy call_int1 (by rfl) T.int (by decide +kernel) (pa_cons
          (pe_ix ix_list (pe_ix ix_list (pv 0) pe_int (fun _ _ => rfl)) (pv 2) (fun _ _ => rfl)) pa_nil)) pa_nil))))
        (pss_cons (ps_asg (pe_op op_modN (pe_callTy call_int1 (by rfl) T.int (by decide +kernel) (pa_cons (pe_op op_add (pe_op op_add (pe_op op_mul (pe_ix ix_list (pv 0) pe_int (fun _ _ => rfl)) pe_int) (pv 2)) pe_int) pa_nil)) pe_int) (pg_sub (pv 0) pe_int set_list))
        (pss_one (ps_set (i := 3) scDraw.nd rfl (.inl rfl) (pe_ix ix_list (pv 0) pe_int (fun _ _ => rfl))))))
      (pss_cons (ps_asg (pe_op op_add (pv 2) pe_int) (pg_sub (pv 0) pe_int set_list))
      (pss_cons (ps_if (pt_cmpR op_lt (pv 3) (pe_op op_pow pe_int pe_int) (nomark _))
        (pss_cons (ps_set (i := 3) scDraw.nd rfl (.inl rfl) (pe_op op_modN (pe_callTy call_int1 (by rfl) T.int (by decide +kernel) (pa_cons (pe_op op_add (pe_op op_add (pe_op op_mul (pv 3) pe_int) (pe_op op_mul (pv 2) pe_int)) pe_int) pa_nil)) pe_int))
        (pss_cons (ps_set (i := 3) scDraw.nd rfl (.inl rfl) (pe_op op_modN (pe_callTy call_int1 (by rfl) T.int (by decide +kernel) (pa_cons (pe_op op_mul (pv 3) pe_int) pa_nil)) pe_int))
        (pss_one (ps_ret (pe_op op_modN (pe_callTy call_int1 (by rfl) T.int (by decide +kernel) (pa_cons (pv 3) pa_nil)) (pe_callB (call_max2 rfl) (by rfl) T.max (by decide +kernel) (pa_cons (pv 1) (pa_cons pe_int pa_nil)))))))) pss_nil)
      (pss_one (ps_asg (pv 3) (pg_sub (pv 0) pe_int set_list))))))) ) pss_nil)
    (pss_cons (ps_set (i := 3) scDraw.nd rfl (.inl rfl) (pe_ix ix_list (pv 0) pe_int (fun _ _ => rfl)))
    (pss_cons (ps_asg (pe_op op_fdivN (pv 3) (pe_callB (call_max2 rfl) (by rfl) T.max (by decide +kernel) (pa_cons (pv 1) (pa_cons pe_int pa_nil)))) (pg_sub (pv 0) pe_int set_list))
    (pss_one (ps_ret (pe_op op_modN (pe_callTy call_int1 (by rfl) T.int (by decide +kernel) (pa_cons (pv 3) pa_nil)) (pe_callB (call_max2 rfl) (by rfl) T.max (by decide +kernel) (pa_cons (pv 1) (pa_cons pe_int pa_nil)))))))), ?_⟩
  refine ⟨fun σ H' => ∃ y2 y3, σ = [some (.ref t), some (.int m), y2, y3] ∧ Bt t H H' ∧ TapeAt K L H' t, ?_, ?_⟩
  · refine ⟨.ref t, rfl, t, _, 2, .int n, rfl, rfl, SqL.of ht, atI_nat (j := 2) rfl, rfl, _, rfl, ?_⟩
    by_cases hn : n = 0
    · refine iteTe (decide_eq_true (by rw [hn])) ?_
      refine ⟨.ref t, rfl, t, _, 1, .int p, rfl, rfl, SqL.of ht, atI_nat (j := 1) rfl, ?_⟩
      -- the number: drawn, or off the script
      refine ⟨fun σ H' => ∃ (x z' : Int), σ = [some (.ref t), some (.int m), some (.int p), some (.int x)] ∧ 0 ≤ x ∧ 0 ≤ z' ∧ z' < 2147483647 ∧ H' = upd H t (.lst [.ref L, .int p, .int n, .int z']), ?_, ?_⟩
      · refine ⟨.int p, rfl, .ref t, rfl, t, _, 0, .ref L, rfl, rfl, SqL.of ht, atI_nat (j := 0) rfl, L, ns.map V.int, rfl, .inl hL, p, _, rfl, rfl, _, rfl, ?_⟩
        by_cases hp : p < ((ns.map V.int).length : Int)
        · refine iteTe (decide_eq_true hp) ?_
          obtain ⟨j, rfl⟩ : ∃ j : Nat, p = j := ⟨p.toNat, by omega⟩
          have hj : j < ns.length := by rw [List.length_map] at hp; omega
          refine ⟨.ref t, rfl, t, _, 0, .ref L, rfl, rfl, SqL.of ht, atI_nat (j := 0) rfl, .int j, rfl, L, ns.map V.int, j, .int ns[j], rfl, rfl, hL, atI_nat (by rw [List.getElem?_map, List.getElem?_eq_getElem hj]; rfl), .inl ⟨_, rfl, _, rfl, ?_⟩⟩
          refine ⟨_, z, rfl, by split <;> omega, z0, z1, ?_⟩
          funext b
          by_cases hb : b = t
          · rw [hb, upd_same, ht]
          · rw [upd_ne hb]
        · refine iteFe (decide_eq_false hp) ?_
          refine ⟨.ref t, rfl, t, _, 3, .int z, rfl, rfl, SqL.of ht, atI_nat (j := 3) rfl, z, 48271, rfl, rfl, .inr ⟨by decide, by decide⟩, .int p, rfl, _, p, rfl, rfl, _, 1, rfl, rfl, .inl ⟨_, rfl, _, 2147483647, rfl, rfl, (show (2147483647 : Int) ≠ 0 by decide), ?_⟩⟩
          refine ⟨.ref t, rfl, t, _, 3, 3, rfl, rfl, ht, rfl, ?_⟩
          refine ⟨.ref t, rfl, t, [.ref L, .int p, .int n, .int ((z * 48271 + p + 1).fmod 2147483647)], 3, .int ((z * 48271 + p + 1).fmod 2147483647), rfl, rfl, SqL.of upd_same, atI_nat (j := 3) rfl, ?_⟩
          exact ⟨_, _, rfl, Int.fmod_nonneg_of_pos _ (by decide), Int.fmod_nonneg_of_pos _ (by decide), Int.fmod_lt_of_pos _ (by decide), rfl⟩
      · rintro σ' H1 ⟨x, z', rfl, x0, z0', z1', rfl⟩
        -- tape[1] = place + 1
        refine ⟨.int p, rfl, p, 1, rfl, rfl, .ref t, rfl, t, _, 1, 1, rfl, rfl, upd_same, rfl, ?_⟩
        have e2 : upd (upd H t (.lst [.ref L, .int p, .int n, .int z'])) t (.lst ([V.ref L, .int p, .int n, .int z'].set 1 (.int (p + 1)))) = upd H t (.lst [.ref L, .int (p + 1), .int n, .int z']) := upd_upd
        rw [e2]
        have bt : ∀ l, Bt t H (upd H t (.lst l)) := fun l => (Bt.refl t H).put
        have tp : ∀ y, 0 ≤ y → TapeAt K L (upd H t (.lst [.ref L, .int (p + 1), .int y, .int z'])) t := fun y y0 =>
          ⟨ns, p + 1, y, z', upd_same, (bt _).seq hLt hL, hLt, by omega, y0, z0', z1'⟩
        refine ⟨.int x, rfl, 10, 18, rfl, rfl, ⟨by decide, by decide, by decide⟩, x, _, rfl, rfl, _, rfl, ?_⟩
        refine ite2 (fun _ => ?_) fun _ => ?_
        · refine ⟨.int x, rfl, x, 48271, rfl, rfl, .inr ⟨by decide, by decide⟩, .int p, rfl, p, 69621, rfl, rfl, .inr ⟨by decide, by decide⟩, _, _, rfl, rfl, _, 5, rfl, rfl, .inl ⟨_, rfl, _, 2147483647, rfl, rfl, (show (2147483647 : Int) ≠ 0 by decide), ?_⟩⟩
          refine ⟨_, rfl, _, 69621, rfl, rfl, .inr ⟨by decide, by decide⟩, .inl ⟨_, rfl, _, 2147483629, rfl, rfl, (show (2147483629 : Int) ≠ 0 by decide), ?_⟩⟩
          refine ⟨_, rfl, .inl ⟨_, rfl, .int m, rfl, m, 1, rfl, ?_⟩⟩
          refine ⟨_, _, rfl, rfl, ?_, ?_⟩
          · rw [max1 m1]; omega
          · rw [max1 m1]
            obtain ⟨r, er, hr'⟩ := fmod_nat (((((x * 48271 + p * 69621 + 5 : Int).fmod 2147483647) * 69621 : Int)).fmod 2147483629) m1
            show Q (V.int ((((x * 48271 + p * 69621 + 5 : Int).fmod 2147483647) * 69621 : Int).fmod 2147483629 |>.fmod (m : Int))) _
            rw [er]
            exact q r _ (bt _) (tp n n0) hr'
        · refine ⟨.int x, rfl, .ref t, rfl, t, _, 2, 2, rfl, rfl, upd_same, rfl, ?_⟩
          have e3 : upd (upd H t (.lst [.ref L, .int (p + 1), .int n, .int z'])) t (.lst ([V.ref L, .int (p + 1), .int n, .int z'].set 2 (.int x))) = upd H t (.lst [.ref L, .int (p + 1), .int x, .int z']) := upd_upd
          rw [e3]
          exact ⟨_, _, rfl, bt _, tp x x0⟩
    · refine iteFe (decide_eq_false (fun e => hn (V.int.inj e))) ?_
      exact ⟨_, _, rfl, Bt.refl _ _, ⟨ns, p, n, z, ht, hL, hLt, p0, n0, z0, z1⟩⟩
  · rintro σ' H1 ⟨y2, y3, rfl, bt, ⟨ns, p, n, z, ht, hL, hLt, p0, n0, z0, z1⟩⟩
    refine ⟨.ref t, rfl, t, _, 2, .int n, rfl, rfl, SqL.of ht, atI_nat (j := 2) rfl, ?_⟩
    refine ⟨.int n, rfl, .int m, rfl, m, 2, rfl, ?_⟩
    refine ⟨n, _, rfl, rfl, ⟨by split <;> omega, by split <;> omega⟩, ?_⟩
    refine ⟨.ref t, rfl, t, _, 2, 2, rfl, rfl, ht, rfl, ?_⟩
    refine ⟨.int n, rfl, .inl ⟨_, rfl, .int m, rfl, m, 1, rfl, n, _, rfl, rfl, ?_, ?_⟩⟩
    · rw [max1 m1]; omega
    · rw [max1 m1]
      obtain ⟨r, er, hr'⟩ := fmod_nat n m1
      show Q (V.int (n.fmod (m : Int))) _
      rw [er]
      refine q r _ bt.put ⟨ns, p, _, z, upd_same, ((Bt.refl t H1).put).seq hLt hL, hLt, p0, ?_, z0, z1⟩ hr'
      exact Int.fdiv_nonneg n0 (by split <;> omega)
end
end K12

/-! Walks: strings and names. -/
namespace K12
open PySem PySem.Spec PyProof.Rows L2
/-! ### texts -/
theorem asc_app {a b : Str} (h : asc a) (g : asc b) : asc (a ++ b) := fun c hc => by
  have e : (a ++ b).cps.toList = a.cps.toList ++ b.cps.toList := Array.toList_append
  rw [e] at hc
  exact (List.mem_append.mp hc).elim (h c) (g c)
theorem asc_join : ∀ {ys : List Str}, (∀ y ∈ ys, asc y) → asc (Str.join (Str.ofString "") ys)
  | [], _ => asc_of (by decide +kernel)
  | [x], h => h x List.mem_cons_self
  | x :: y :: r, h => asc_app (asc_app (h x List.mem_cons_self) (asc_of (by decide +kernel))) (asc_join (ys := y :: r) fun z hz => h z (List.mem_cons_of_mem _ hz))
theorem asc_one {z : Str} {c : Nat} (h : asc z) (hc : c ∈ z.cps.toList) : asc ⟨#[c]⟩ := fun d hd => by
  have : d = c := by simpa using hd
  rw [this]
  exact h c hc
theorem asc_cutS {z : Str} (h : asc z) (lo hi : Option Int) : asc (cutS z lo hi) := fun c hc => by
  refine h c ?_
  have hc' : c ∈ (z.cps.toList.drop (HT.sIx z.length 0 lo)).take (HT.sIx z.length z.length hi - HT.sIx z.length 0 lo) := by simpa [cutS] using hc
  exact List.mem_of_mem_drop (List.mem_of_mem_take hc')
theorem sum_ones {ys : List Str} (h : ∀ y ∈ ys, y.length = 1) : (ys.map (·.length)).sum = ys.length := by
  induction ys with
  | nil => rfl
  | cons y r ih =>
    rw [List.map_cons, List.sum_cons, h y List.mem_cons_self, ih fun z hz => h z (List.mem_cons_of_mem _ hz), List.length_cons]
    omega
theorem join_ones {ys : List Str} (h : ∀ y ∈ ys, y.length = 1) : (Txt.join (Str.ofString "") ys).length = ys.length := by
  show (Builtin.Str.glued (Str.ofString "") ys).length = _
  rw [size_glued, sum_ones h, show (Str.ofString "").length = 0 from by decide +kernel]
  omega
theorem asc_txt {ys : List Str} (h : ∀ y ∈ ys, asc y) : asc (Txt.join (Str.ofString "") ys) := by
  show asc (Builtin.Str.glued (Str.ofString "") ys)
  rw [PySem.StrLaws.glued_eq_join]
  exact asc_join h
section
variable {P : Program} {w : World} {K : PySem.W.Frag} {mg : Str → Option Value} {base : Heap} {dP eE : Addr} {tM : Tok}

theorem rd_setC {v : V} {i : Nat} {u : TS} {D : Ends} {σ : L2.St} {H : Hp} (h : u D (σ.set i (some v)) H) : tSeq (tAsg (tC v) (gName i)) u D σ H := h
/-- for x in range(e): e first -/
theorem rd_for1 {ta : TE} {g : TG} {tb u : TS} {D : Ends} {σ : L2.St} {H : Hp}
    (h : ta σ H fun v H1 => ∃ j : Int, [v] = [V.int j] ∧ -(2 ^ 62) ≤ j ∧ j < 2 ^ 62 ∧ tSeq (tFor (fun _ H' R => R (Itr 0 j.toNat) H') g tb) u D σ H1) : tSeq (tFor (iRng1 (tCons ta tNil)) g tb) u D σ H := h
/-! ### an item of a written list, drawn -/
theorem rd_pick {E : XK} {H : Hp} {σ : L2.St} {Q : VK} {t L : Addr} {i m : Nat} {z : Int} {xs : List V} {ta : TA} (hσ : σ[i]? = some (some (.ref t))) (ht : TapeAt K L H t) (ez : z = (m : Int)) (hm : xs.length = m) (h1 : 1 ≤ m) (h2 : m ≤ 100)
    (hta : ∀ R : List V → Hp → Prop, R xs H → ta σ H R) (q : ∀ (r : Nat) (x : V) (H' : Hp), xs[r]? = some x → Bt t H H' → TapeAt K L H' t → Q x H') :
    tOp (rIxL K) (tLst ta) (tCall (spDraw K) [] E (tCons (tVar i) (tCons (tC (.int z)) tNil))) σ H Q := by
  subst ez
  refine hta _ ⟨le_line (by omega), fun p np => ⟨.ref t, hσ, t, L, m, rfl, ht.new np, h1, by omega, fun r H' bt tp hr => ?_⟩⟩
  have hp : p ≠ t := ht.ne np
  obtain ⟨x, hx⟩ : ∃ x, xs[r]? = some x := ⟨_, List.getElem?_eq_getElem (by omega)⟩
  exact ⟨p, xs, r, x, rfl, rfl, SqL.of (bt p _ hp upd_same), atI_nat hx, q r x H' hx ((Bt.of (same_new np)).trans bt) tp⟩
/-- a draw alone -/
theorem rd_draw {E : XK} {H : Hp} {σ : L2.St} {Q : VK} {t L : Addr} {i m : Nat} {z : Int} (hσ : σ[i]? = some (some (.ref t))) (ht : TapeAt K L H t) (ez : z = (m : Int)) (h1 : 1 ≤ m) (h2 : m ≤ 1000)
    (q : ∀ (r : Nat) H', Bt t H H' → TapeAt K L H' t → r < m → Q (.int r) H') : tCall (spDraw K) [] E (tCons (tVar i) (tCons (tC (.int z)) tNil)) σ H Q := by
  subst ez
  exact ⟨.ref t, hσ, t, L, m, rfl, ht, h1, by omega, q⟩

/-! ### _law_string -/
theorem scString : FnScope ["_law_tape_here", "_law_size", "_law_every", "_law_menu", "_law_k"] ["_law_tape_here", "_law_size"] (defScope sString) := ⟨rfl, rfl, rfl, by decide +kernel, rfl, by decide +kernel, by decide +kernel⟩
def spString (K : PySem.W.Frag) : Sp := fun vs H Q _ => ∃ (t L : Addr) (n : Nat), vs = [.ref t, .int n] ∧ TapeAt K L H t ∧ n ≤ 50 ∧ ∀ (x : Str) H', Bt t H H' → TapeAt K L H' t → x.length ≤ n → asc x → Q (.str x) H'
def every : Str := Str.ofString " !\"#$&'()*+,-./0123456789:;<=>?@ABCDEFGHIJKLMNOPQRSTUVWXYZ[\\]^_`abcdefghijklmnopqrstuvwxyz{|}~"
theorem ok_string {f fD : Addr} {fd fdD : FuncData} {k : Nat} (F : Fun K "_law_string" "_law_string" sString f fd) (T : Txt K w mg dP eE tM) (DD : Dfn K mg "_law_draw" sDraw ["_law_tape_here", "_law_many"] fD fdD) :
    FnOk P w K mg base CX0 (k + 2) f fd ["_law_tape_here", "_law_size"] (spString K) := by
  have GD : FnOk P w K mg base CX0 (k + 1) fD fdD ["_law_tape_here", "_law_many"] (spDraw K) := ok_draw DD.F T
  refine F.ok scString (fun vs H Q E h => ?_) (fun cdv A outer s H vs Q E hr h => ?_)
  · obtain ⟨t, L, n, rfl, _⟩ := h
    rfl
  obtain ⟨t, L, n, rfl, ht, hn, q⟩ := h
  refine ⟨_, pss_cons (ps_set (i := 2) scString.nd rfl (.inl rfl) pe_str)
    (pss_cons (ps_set (i := 3) scString.nd rfl (.inr rfl) (pe_ix ix_list (pe_lst (pa_cons pe_str (pa_cons pe_str (pa_cons pe_str (pa_cons (pv 2) pa_nil)))))
      (pe_call GD hr (by rfl) DD.g DD.F.kp DD.b .nil pass0 (pa_cons (pv 0) (pa_cons pe_int pa_nil))) (fun _ _ => rfl)))
    (pss_one (ps_ret (pe_join pe_str (pe_lc (own := [("_law_k", 4)]) (g := gName 4) (tt := tYes) rfl scString.nd (pi_range1 (by rfl) T.range (pa_cons (pv 1) pa_nil))
      (blkOk_by (N := ["_law_tape_here", "_law_size", "_law_every", "_law_menu", "_law_k"]) (sc := defScope sString) (by decide +kernel))
      (fun _ _ _ _ _ => pg_name (i := 4) scString.nd rfl (Or.inl rfl)) (fun _ _ _ _ _ => pts_nil)
      (fun _ _ _ _ _ => pe_ix ix_str (pv 3) (pe_call GD hr (by rfl) DD.g DD.F.kp DD.b .nil pass0 (pa_cons (pv 0) (pa_cons (pe_callB call_len_str (by rfl) T.len PySem.boot_len (pa_cons (pv 3) pa_nil)) pa_nil))) (fun _ _ => rfl))))))), ?_⟩
  refine rd_setC ?_
  refine rd_pick (m := 4) (xs := [.str (Str.ofString "ab"), .str (Str.ofString "ab"), .str (Str.ofString "abc"), .str every]) rfl ht rfl rfl (by decide) (by decide) (fun R h => ⟨_, rfl, h⟩) fun r x H1 hx bt tp => ?_
  obtain ⟨z, rfl, z1, z2, za⟩ : ∃ z : Str, x = .str z ∧ 1 ≤ z.length ∧ z.length ≤ 1000 ∧ asc z := by
    have hm := List.mem_of_getElem? hx
    have hm' : x = .str (Str.ofString "ab") ∨ x = .str (Str.ofString "ab") ∨ x = .str (Str.ofString "abc") ∨ x = .str every := by
      rcases List.mem_cons.mp hm with h | hm
      · exact .inl h
      · rcases List.mem_cons.mp hm with h | hm
        · exact .inl h
        · rcases List.mem_cons.mp hm with h | hm
          · exact .inr (.inr (.inl h))
          · exact .inr (.inr (.inr (List.mem_singleton.mp hm)))
    rcases hm' with rfl | rfl | rfl | rfl
    · exact ⟨_, rfl, by decide +kernel, by decide +kernel, asc_of (by decide +kernel)⟩
    · exact ⟨_, rfl, by decide +kernel, by decide +kernel, asc_of (by decide +kernel)⟩
    · exact ⟨_, rfl, by decide +kernel, by decide +kernel, asc_of (by decide +kernel)⟩
    · exact ⟨_, rfl, by decide +kernel, by decide +kernel, asc_of (by decide +kernel)⟩
  refine ⟨⟨_, rfl⟩, .int n, rfl, n, rfl, by omega, by omega, fun D nD => ?_⟩
  have hD : D ≠ t := tp.ne nD
  refine lc_range (lo := 0) (n := (n : Int).toNat) (fun i H' => Bt t H1 H' ∧ TapeAt K L H' t ∧ ∃ ys : List Str, H' D = some (.lst (ys.map V.str)) ∧ ys.length = i ∧ ∀ y ∈ ys, y.length = 1 ∧ asc y)
    ⟨Bt.of (same_new nD), tp.new nD, [], upd_same, rfl, fun y hy => absurd hy List.not_mem_nil⟩ (fun i H2 hi hP => ?_) (fun H2 hP => ?_)
  · obtain ⟨b2, t2, ys, hy, ly, ay⟩ := hP
    refine ⟨rfl, ?_⟩
    refine ⟨.str z, rfl, .ref t, rfl, .str z, rfl, z, rfl, le_line (by omega), t, L, z.length, rfl, t2, z1, by omega, fun r2 H3 b3 t3 hr3 => ?_⟩
    have hz : r2 < z.cps.toList.length := by
      rw [Array.length_toList]
      exact hr3
    have hc : z.cps.toList[r2]? = some z.cps.toList[r2] := List.getElem?_eq_getElem hz
    have hy3 : H3 D = some (.lst (ys.map V.str)) := b3 D _ hD hy
    refine ⟨z, r2, z.cps.toList[r2], rfl, rfl, le_line (by omega), atI_nat hc, ys.map V.str, hy3, small_le (by rw [List.length_map]; omega), fun b o nb e => ?_, ?_, ys ++ [⟨#[z.cps.toList[r2]]⟩], ?_, ?_, ?_⟩
    · rw [upd_ne (ne_of_none e nD)]
      exact (b2.trans b3) b o nb e
    · exact tp.put nD t3
    · rw [upd_same, List.map_append]
      rfl
    · rw [List.length_append, ly]
      rfl
    · intro y hy
      rcases List.mem_append.mp hy with hy | hy
      · exact ay y hy
      · rw [List.mem_singleton.mp hy]
        exact ⟨rfl, asc_one za (List.getElem_mem hz)⟩
  · obtain ⟨b2, t2, ys, hy, ly, ay⟩ := hP
    have e1 : (Txt.join (Str.ofString "") ys).length = ys.length := join_ones fun y hy => (ay y hy).1
    refine ⟨_, D, ys, rfl, rfl, .inl (SqL.of hy), ?_, q _ H2 (bt.trans b2) t2 (by rw [e1, ly]; omega) (asc_txt fun y hy => (ay y hy).2)⟩
    rw [sum_ones fun y hy => (ay y hy).1, show (Str.ofString "").length = 0 from by decide +kernel]
    omega
end
end K12

/-! Walks: stamped texts, names, literals. -/
namespace K12
open PySem PySem.Spec PyProof.Rows L2
section
variable {P : Program} {w : World} {K : PySem.W.Frag} {mg : Str → Option Value} {base : Heap} {dP eE : Addr} {tM : Tok}

/-! ### _law_stamped -/
theorem scStamped : FnScope ["_law_string_here", "_law_change", "_law_start", "_law_k"] ["_law_string_here", "_law_change", "_law_start"] (defScope sStamped) := ⟨rfl, rfl, rfl, by decide +kernel, rfl, by decide +kernel, by decide +kernel⟩
def spStamped (K : PySem.W.Frag) : Sp := fun vs H Q _ => ∃ (x : Str) (n : Int), vs = [.str x, .int 1, .int n] ∧ x.length ≤ 1000 ∧ ∀ H' p xs, Same H H' → TT K H' p xs → Tps K H' xs ((stampS x n).map chData) → Q (.ref p) H'
theorem stampS_at {x : Str} {n : Int} {i : Nat} (h : i < x.length) : (stampS x n)[i]? = some ⟨sgn x i, n + i⟩ := by
  unfold stampS
  rw [List.getElem?_map, List.getElem?_range h]
  rfl
theorem ok_stamped {f : Addr} {fd : FuncData} {k : Nat} (F : Fun K "_law_stamped" "_law_stamped" sStamped f fd) (T : Txt K w mg dP eE tM) :
    FnOk P w K mg base CX0 (k + 1) f fd ["_law_string_here", "_law_change", "_law_start"] (spStamped K) := by
  refine F.ok scStamped (fun vs H Q E h => ?_) (fun cdv A outer s H vs Q E hr h => ?_)
  · obtain ⟨x, n, rfl, _⟩ := h
    rfl
  obtain ⟨x, n, rfl, hx, q⟩ := h
  refine ⟨_, pss_one (ps_ret (pe_callTy call_tuple_of (by rfl) T.tuple (by decide +kernel) (pa_cons
    (pe_lc (own := [("_law_k", 3)]) (g := gName 3) (tt := tYes) rfl scStamped.nd (pi_range1 (by rfl) T.range (pa_cons (pe_callB call_len_str (by rfl) T.len PySem.boot_len (pa_cons (pv 0) pa_nil)) pa_nil))
      (blkOk_by (N := ["_law_string_here", "_law_change", "_law_start", "_law_k"]) (sc := defScope sStamped) (by decide +kernel))
      (fun _ _ _ _ _ => pg_name (i := 3) scStamped.nd rfl (Or.inl rfl)) (fun _ _ _ _ _ => pts_nil)
      (fun _ _ _ _ _ => pe_tup (pa_cons (pe_ix ix_str (pv 0) (pv 3) (fun _ _ => rfl)) (pa_cons (pv 1) (pa_cons (pe_op op_add (pv 2) (pv 3)) pa_nil))))) pa_nil))), ?_⟩
  refine ⟨.str x, rfl, x, rfl, le_line (by omega), x.length, rfl, by omega, by omega, fun D nD => ?_⟩
  refine lc_range (lo := 0) (n := (x.length : Int).toNat) (fun i H' => Same H H' ∧ ∃ xs, H' D = some (.lst xs) ∧ xs.length = i ∧ Tps K H' xs (((stampS x n).take i).map chData))
    ⟨same_new nD, [], upd_same, rfl, .nil⟩ (fun i H2 hi hP => ?_) (fun H2 hP => ?_)
  · obtain ⟨sm, xs, hd, lx, tx⟩ := hP
    have hi' : i < x.length := by omega
    have hc : x.cps.toList[i]? = some (x.cps.getD i 0) := by
      have hi2 : i < x.cps.size := hi'
      rw [Array.getElem?_toList, Array.getD_eq_getD_getElem?, Array.getElem?_eq_getElem hi2]
      rfl
    refine ⟨rfl, .str x, rfl, .int (0 + (i : Int)), rfl, x, _, x.cps.getD i 0, rfl, rfl, le_line (by omega), ?_, .int 1, rfl, .int n, rfl, .int (0 + (i : Int)), rfl, n, 0 + (i : Int), rfl, rfl, line3, fun t nt => ?_⟩
    · rw [Int.zero_add]
      exact atI_nat hc
    have hd2 : (upd H2 t (.tup [.str ⟨#[x.cps.getD i 0]⟩, .int 1, .int (n + (0 + (i : Int)))])) D = some (.lst xs) := by
      rw [upd_ne (ne_of_none hd nt)]
      exact hd
    have k2 := (keepT_new (o := .tup [.str ⟨#[x.cps.getD i 0]⟩, .int 1, .int (n + (0 + (i : Int)))]) nt).trans (keepT_lst (o := .lst (xs ++ [.ref t])) hd2)
    refine ⟨xs, hd2, small_le (by omega), samePut (sameNew sm nt) nD, _, upd_same, by rw [List.length_append, lx]; rfl, ?_⟩
    rw [List.take_add_one, stampS_at hi', List.map_append]
    refine (tx.mono k2).app (.one (.tup (xs := [.str ⟨#[x.cps.getD i 0]⟩, .int 1, .int (n + (0 + (i : Int)))]) (.inl ?_) (.cons (.str _) (.cons (.int _) (.cons ?_ .nil)))))
    · rw [upd_ne (fun z => by rw [z, upd_same] at hd2; cases hd2), upd_same]
    · rw [Int.zero_add]
      exact .int _
  · obtain ⟨sm, xs, hd, lx, tx⟩ := hP
    rw [show ((x.length : Int)).toNat = (stampS x n).length by rw [stampS_length]; omega, List.take_length] at tx
    exact ⟨D, xs, rfl, .inl ⟨SqL.of hd, fun l nl => q _ l xs (sameNew sm nl) (.inl upd_same) (tx.mono (keepT_new nl))⟩⟩

/-! ### _law_name -/
theorem scName : FnScope ["_law_tape_here", "_law_stem", "_law_menu", "_law_name_here", "_law_k"] ["_law_tape_here", "_law_stem"] (defScope sName) := ⟨rfl, rfl, rfl, by decide +kernel, rfl, by decide +kernel, by decide +kernel⟩
def spName (K : PySem.W.Frag) : Sp := fun vs H Q _ => ∃ (t L : Addr) (x : Str), vs = [.ref t, .str x] ∧ TapeAt K L H t ∧ x.length ≤ 13 ∧ asc x ∧ ∀ (y : Str) H', Bt t H H' → TapeAt K L H' t → okN y → 1 ≤ y.length → Q (.str y) H'
def menu39 : Str := Str.ofString "abcdefghijklmnopqrstuvwxyz0123456789-./"
theorem menu39_len : menu39.length = 39 := by decide +kernel
theorem menu39_asc : asc menu39 := asc_of (by decide +kernel)
/-- a sign of the menu, drawn -/
theorem rd_sign {E : XK} {H : Hp} {σ : L2.St} {Q : VK} {t L : Addr} {i j : Nat} (hσ : σ[i]? = some (some (.ref t))) (hj : σ[j]? = some (some (.str menu39))) (ht : TapeAt K L H t)
    (q : ∀ (c : Nat) H', Bt t H H' → TapeAt K L H' t → asc ⟨#[c]⟩ → Q (.str ⟨#[c]⟩) H') : tOp rIxS (tVar j) (tCall (spDraw K) [] E (tCons (tVar i) (tCons (tC (.int 39)) tNil))) σ H Q := by
  refine ⟨_, hj, rd_draw (m := 39) hσ ht rfl (by decide) (by decide) fun r H' bt tp hr => ?_⟩
  have hz : r < menu39.cps.toList.length := by
    rw [Array.length_toList]
    show r < menu39.length
    rw [menu39_len]
    exact hr
  exact ⟨menu39, r, menu39.cps.toList[r], rfl, rfl, le_line (by rw [menu39_len]; decide), atI_nat (List.getElem?_eq_getElem hz), q _ H' bt tp (asc_one menu39_asc (List.getElem_mem hz))⟩
theorem ok_name {f fD : Addr} {fd fdD : FuncData} {k : Nat} (F : Fun K "_law_name" "_law_name" sName f fd) (T : Txt K w mg dP eE tM) (DD : Dfn K mg "_law_draw" sDraw ["_law_tape_here", "_law_many"] fD fdD) :
    FnOk P w K mg base CX0 (k + 2) f fd ["_law_tape_here", "_law_stem"] (spName K) := by
  have GD : FnOk P w K mg base CX0 (k + 1) fD fdD ["_law_tape_here", "_law_many"] (spDraw K) := ok_draw DD.F T
  refine F.ok scName (fun vs H Q E h => ?_) (fun cdv A outer s H vs Q E hr h => ?_)
  · obtain ⟨t, L, x, rfl, _⟩ := h
    rfl
  obtain ⟨t, L, x, rfl, ht, hx, ax, q⟩ := h
  refine ⟨_, pss_cons (ps_set (i := 2) scName.nd rfl (.inl rfl) pe_str)
    (pss_cons (ps_set (i := 3) scName.nd rfl (.inl rfl) (pe_op op_add_str (pv 1) (pe_ix ix_str (pv 2) (pe_call GD hr (by rfl) DD.g DD.F.kp DD.b .nil pass0 (pa_cons (pv 0) (pa_cons pe_int pa_nil))) (fun _ _ => rfl))))
    (pss_cons (ps_for PassesOwn.never rfl (pi_range1 (by rfl) T.range (pa_cons (pe_ix ix_list (pe_lst (pa_cons pe_int (pa_cons pe_int (pa_cons pe_int (pa_cons pe_int pa_nil)))))
        (pe_call GD hr (by rfl) DD.g DD.F.kp DD.b .nil pass0 (pa_cons (pv 0) (pa_cons pe_int pa_nil))) (fun _ _ => rfl)) pa_nil)) (pg_name (i := 4) scName.nd rfl (.inl rfl))
      (pss_one (ps_set (i := 3) scName.nd rfl (.inl rfl) (pe_op op_add_str (pv 3) (pe_ix ix_str (pv 2) (pe_call GD hr (by rfl) DD.g DD.F.kp DD.b .nil pass0 (pa_cons (pv 0) (pa_cons pe_int pa_nil))) (fun _ _ => rfl))))))
    (pss_one (ps_ret (pv 3))))), ?_⟩
  refine rd_setC ⟨.str x, rfl, rd_sign rfl rfl ht fun c H1 b1 t1 a1 => ⟨x, _, rfl, rfl, le_line (by show x.length + 1 ≤ 10000; omega), ?_⟩⟩
  dsimp only [gName]
  refine rd_for1 ?_
  refine rd_pick (m := 4) (xs := [.int 0, .int 0, .int 1, .int 2]) rfl t1 rfl rfl (by decide) (by decide) (fun R h => h) fun r y H2 hy b2 t2 => ?_
  obtain ⟨n, rfl, hn⟩ : ∃ n : Nat, y = .int n ∧ n ≤ 2 := by
    have hm := List.mem_of_getElem? hy
    have hm' : y = .int 0 ∨ y = .int 0 ∨ y = .int 1 ∨ y = .int 2 := by simpa using hm
    rcases hm' with rfl | rfl | rfl | rfl
    · exact ⟨0, rfl, by decide⟩
    · exact ⟨0, rfl, by decide⟩
    · exact ⟨1, rfl, by decide⟩
    · exact ⟨2, rfl, by decide⟩
  refine ⟨n, rfl, by omega, by omega, for_range (lo := 0) (n := (n : Int).toNat) (fun i σ H' => ∃ z : Str, ∃ y4, σ = [some (.ref t), some (.str x), some (.str menu39), some (.str z), y4] ∧ Bt t H1 H' ∧ TapeAt K L H' t ∧ z.length = x.length + 1 + i ∧ asc z)
    ⟨_, none, rfl, b2, t2, by rw [PySem.strLen_append]; rfl, asc_app ax a1⟩ (fun i σ H' hi hP => ?_) (fun σ H' hP => ?_)⟩
  · obtain ⟨z, y4, rfl, b3, t3, lz, az⟩ := hP
    refine ⟨.str z, rfl, rd_sign rfl rfl t3 fun c H4 b4 t4 a4 => ⟨z, _, rfl, rfl, le_line (by rw [lz]; show x.length + 1 + i + 1 ≤ 10000; omega), ?_⟩⟩
    exact ⟨_, _, rfl, b3.trans b4, t4, by rw [PySem.strLen_append, lz]; rfl, asc_app az a4⟩
  · obtain ⟨z, y4, rfl, b3, t3, lz, az⟩ := hP
    exact ⟨.str z, rfl, q z H' (b1.trans b3) t3 ⟨by omega, az⟩ (by omega)⟩

/-! ### _law_names -/
/-- the list of names at nm -/
def NamesAt (H : Hp) (nm : Addr) : Prop := ∃ ys : List Str, H nm = some (.lst (ys.map V.str)) ∧ 1 ≤ ys.length ∧ ys.length ≤ 10 ∧ ∀ y ∈ ys, okN y ∧ 1 ≤ y.length
theorem NamesAt.bt {H H' : Hp} {nm t : Addr} (h : NamesAt H nm) (b : Bt t H H') (n : nm ≠ t) : NamesAt H' nm := by
  obtain ⟨ys, h1, h2⟩ := h
  exact ⟨ys, b nm _ n h1, h2⟩
theorem NamesAt.same {H H' : Hp} {nm : Addr} (h : NamesAt H nm) (b : Same H H') : NamesAt H' nm := by
  obtain ⟨ys, h1, h2⟩ := h
  exact ⟨ys, b nm _ h1, h2⟩
theorem scNames : FnScope ["_law_tape_here", "_law_most", "_law_stem", "_law_names_here", "_law_k", "_law_name_here"] ["_law_tape_here", "_law_most"] (defScope sNames) := ⟨rfl, rfl, rfl, by decide +kernel, rfl, by decide +kernel, by decide +kernel⟩
def spNames (K : PySem.W.Frag) : Sp := fun vs H Q _ => ∃ (t L : Addr), vs = [.ref t, .int 3] ∧ TapeAt K L H t ∧ ∀ nm H', Bt t H H' → TapeAt K L H' t → NamesAt H' nm → nm ≠ t → Q (.ref nm) H'
theorem ok_names {f fD fN : Addr} {fd fdD fdN : FuncData} {k : Nat} (F : Fun K "_law_names" "_law_names" sNames f fd) (T : Txt K w mg dP eE tM) (DD : Dfn K mg "_law_draw" sDraw ["_law_tape_here", "_law_many"] fD fdD)
    (DN : Dfn K mg "_law_name" sName ["_law_tape_here", "_law_stem"] fN fdN) : FnOk P w K mg base CX0 (k + 3) f fd ["_law_tape_here", "_law_most"] (spNames K) := by
  have GD : FnOk P w K mg base CX0 (k + 1) fD fdD ["_law_tape_here", "_law_many"] (spDraw K) := ok_draw DD.F T
  have GN : FnOk P w K mg base CX0 (k + 2) fN fdN ["_law_tape_here", "_law_stem"] (spName K) := ok_name DN.F T DD
  refine F.ok scNames (fun vs H Q E h => ?_) (fun cdv A outer s H vs Q E hr h => ?_)
  · obtain ⟨t, L, rfl, _⟩ := h
    rfl
  obtain ⟨t, L, rfl, ht, q⟩ := h
  have hr1 := hr.mono (show k + 1 ≤ k + 2 by omega)
  refine ⟨_, pss_cons (ps_set (i := 2) scNames.nd rfl (.inl rfl) (pe_ix ix_list (pe_lst (pa_cons pe_str (pa_cons pe_str (pa_cons pe_str pa_nil)))) (pe_call GD hr1 (by rfl) DD.g DD.F.kp DD.b .nil pass0 (pa_cons (pv 0) (pa_cons pe_int pa_nil))) (fun _ _ => rfl)))
    (pss_cons (ps_set (i := 3) scNames.nd rfl (.inl rfl) (pe_lst (pa_cons (pe_call GN hr (by rfl) DN.g DN.F.kp DN.b .nil pass0 (pa_cons (pv 0) (pa_cons (pv 2) pa_nil))) pa_nil)))
    (pss_cons (ps_for PassesOwn.never rfl (pi_range1 (by rfl) T.range (pa_cons (pe_call GD hr1 (by rfl) DD.g DD.F.kp DD.b .nil pass0 (pa_cons (pv 0) (pa_cons (pv 1) pa_nil))) pa_nil)) (pg_name (i := 4) scNames.nd rfl (.inl rfl))
      (pss_cons (ps_set (i := 5) scNames.nd rfl (.inl rfl) (pe_call GN hr (by rfl) DN.g DN.F.kp DN.b .nil pass0 (pa_cons (pv 0) (pa_cons (pv 2) pa_nil))))
      (C8.pss_cut (ps_if (pt_cmpR op_eq (pe_call GD hr1 (by rfl) DD.g DD.F.kp DD.b .nil pass0 (pa_cons (pv 0) (pa_cons pe_int pa_nil))) pe_int (nomark _))
        (pss_one (ps_set (i := 5) scNames.nd rfl (.inl rfl) (pe_slice sl_str (pe_op op_add_str (pe_ix ix_list (pv 3) pe_int (fun _ _ => rfl)) (pe_ix ix_str (pv 5) (pe_un un_neg pe_int) (fun _ _ => rfl))) po_none (po_some pe_int)))) pss_nil)
      (pss_one (ps_if (pt_cmpR op_notIn_seq (pv 5) (pv 3) (by rfl))
        (pss_one (ps_expr (pe_bm PySem.F.plainAttrs_list PySem.F.slot_list_append PySem.F.type_list_append mt_append (pv 3) (pa_cons (pv 5) pa_nil)))) pss_nil)))))
    (pss_one (ps_ret (pv 3))))), ?_⟩
  refine rd_pick (m := 3) (xs := [.str (Str.ofString ""), .str (Str.ofString ""), .str (Str.ofString "docs/release/")]) rfl ht rfl rfl (by decide) (by decide) (fun R h => h) fun r x H1 hx b1 t1 => ?_
  obtain ⟨st, rfl, lst, ast⟩ : ∃ z : Str, x = .str z ∧ z.length ≤ 13 ∧ asc z := by
    have hm := List.mem_of_getElem? hx
    rcases List.mem_cons.mp hm with rfl | hm
    · exact ⟨_, rfl, by decide +kernel, asc_of (by decide +kernel)⟩
    · rcases List.mem_cons.mp hm with rfl | hm
      · exact ⟨_, rfl, by decide +kernel, asc_of (by decide +kernel)⟩
      · rw [List.mem_singleton.mp hm]
        exact ⟨_, rfl, by decide +kernel, asc_of (by decide +kernel)⟩
  refine ⟨.ref t, rfl, .str st, rfl, t, L, st, rfl, t1, lst, ast, fun y0 H2 b2 t2 o0 p0 => ⟨line1, fun nm nn => ?_⟩⟩
  have hnm : nm ≠ t := t2.ne nn
  have tnm : TapeAt K L (upd H2 nm (.lst [.str y0])) t := t2.new nn
  refine ⟨.ref t, rfl, .int 3, rfl, t, L, 3, rfl, tnm, by decide, by decide, fun r2 H3 b3 t3 hr2 => ⟨r2, rfl, by omega, by omega, ?_⟩⟩
  have hb : Bt t H H3 := ((b1.trans b2).new nn).trans b3
  refine for_range (lo := 0) (n := (r2 : Int).toNat) (fun i σ H' => ∃ y4 y5, σ = [some (.ref t), some (.int 3), some (.str st), some (.ref nm), y4, y5] ∧ Bt t H H' ∧ TapeAt K L H' t ∧
      ∃ ys : List Str, H' nm = some (.lst (ys.map V.str)) ∧ 1 ≤ ys.length ∧ ys.length ≤ 1 + i ∧ ∀ y ∈ ys, okN y ∧ 1 ≤ y.length)
    ⟨none, none, rfl, hb, t3, [y0], b3 nm _ hnm upd_same, Nat.le_refl _, Nat.le_refl _, fun y hy => by rw [List.mem_singleton.mp hy]; exact ⟨o0, p0⟩⟩ (fun i σ H' hi hP => ?_) (fun σ H' hP => ?_)
  · obtain ⟨y4, y5, rfl, b4, t4, ys, hys, l1, l2, ay⟩ := hP
    refine ⟨.ref t, rfl, .str st, rfl, t, L, st, rfl, t4, lst, ast, fun z H5 b5 t5 oz pz => ?_⟩
    have hys5 := b5 nm _ hnm hys
    -- the new name, perhaps cut
    refine ⟨fun σ H' => ∃ u : Str, σ = [some (.ref t), some (.int 3), some (.str st), some (.ref nm), some (.int (0 + (i : Int))), some (.str u)] ∧ Bt t H H' ∧ TapeAt K L H' t ∧ H' nm = some (.lst (ys.map V.str)) ∧ okN u ∧ 1 ≤ u.length, ?_, ?_⟩
    · refine rd_draw (m := 4) rfl t5 rfl (by decide) (by decide) fun r6 H6 b6 t6 hr6 => ⟨rfl, _, rfl, ?_⟩
      have hys6 := b6 nm _ hnm hys5
      refine ite2 (fun _ => ?_) fun _ => ⟨z, rfl, (b4.trans b5).trans b6, t6, hys6, oz, pz⟩
      obtain ⟨n0, ns, rfl⟩ : ∃ n0 ns, ys = n0 :: ns := by
        cases ys with
        | nil => exact absurd l1 (by decide)
        | cons a b => exact ⟨a, b, rfl⟩
      obtain ⟨on, pn⟩ := ay n0 List.mem_cons_self
      have lz : z.cps.toList.length = z.length := Array.length_toList
      obtain ⟨c, hc⟩ : ∃ c, z.cps.toList = z.cps.toList.dropLast ++ [c] := by
        have hne : z.cps.toList ≠ [] := fun e => by rw [e] at lz; simp at lz; omega
        exact ⟨_, (List.dropLast_concat_getLast hne).symm⟩
      have hcm : c ∈ z.cps.toList := by
        rw [hc]
        exact List.mem_append_right _ (List.mem_singleton.mpr rfl)
      have lcat : (n0 ++ (⟨#[c]⟩ : Str)).length = n0.length + 1 := PySem.strLen_append _ _
      refine ⟨.ref nm, rfl, nm, _, 0, .str n0, rfl, rfl, SqL.of hys6, atI_nat (j := 0) rfl, .str z, rfl, 1, rfl, z, -1, c, rfl, rfl, le_line (by have := oz.1; omega), ?_, n0, _, rfl, rfl, le_line (by have := on.1; show n0.length + 1 ≤ 10000; omega), 16, rfl, _, rfl, le_line (by rw [lcat]; have := on.1; omega), ?_⟩
      · rw [hc]
        exact atI_last _ _
      refine ⟨_, rfl, (b4.trans b5).trans b6, t6, hys6, ⟨?_, asc_cutS (asc_app on.2 (asc_one oz.2 hcm)) _ _⟩, ?_⟩
      · show (((n0 ++ (⟨#[c]⟩ : Str)).cps.toList.drop (HT.sIx _ 0 none)).take (HT.sIx _ _ (some ((16 : Nat) : Int)) - HT.sIx _ 0 none)).toArray.size ≤ 16
        rw [List.size_toArray, List.length_take, HT.sIx_nat, HT.sIx_none]
        omega
      · show 1 ≤ (((n0 ++ (⟨#[c]⟩ : Str)).cps.toList.drop (HT.sIx _ 0 none)).take (HT.sIx _ _ (some ((16 : Nat) : Int)) - HT.sIx _ 0 none)).toArray.size
        rw [List.size_toArray, List.length_take, HT.sIx_nat, HT.sIx_none, List.length_drop, Array.length_toList]
        show 1 ≤ min (min 16 (n0 ++ (⟨#[c]⟩ : Str)).length - 0) ((n0 ++ (⟨#[c]⟩ : Str)).length - 0)
        rw [lcat]
        omega
    · rintro σ' H6 ⟨u, rfl, b6, t6, hys6, ou, pu⟩
      refine ⟨.str u, rfl, .ref nm, rfl, nm, ys.map V.str, rfl, .inl (SqL.of hys6), rfl, ?_, _, rfl, ?_⟩
      · rw [List.all_map, List.all_eq_true]
        exact fun _ _ => rfl
      refine ite2 (fun _ => ?_) fun _ => ⟨_, _, rfl, b6, t6, ys, hys6, l1, by omega, ay⟩
      refine ⟨.ref nm, rfl, .inl ⟨rfl, _, SqL.of hys6⟩, .str u, rfl, nm, ys.map V.str, .str u, rfl, rfl, hys6, small_le (by rw [List.length_map]; omega), _, _, rfl, fun b o nb e => ?_, ?_, ys ++ [u], ?_, ?_, ?_, ?_⟩
      · have hn0 : H nm = none := ((b1.trans b2).new nn |>.trans b3) |> fun _ => by
          cases e0 : H nm with
          | none => rfl
          | some o =>
            have := (b1.trans b2) nm o hnm e0
            rw [nn] at this
            cases this
        rw [upd_ne (ne_of_none e hn0)]
        exact b6 b o nb e
      · exact t2.put nn t6
      · rw [upd_same, List.map_append]
        rfl
      · rw [List.length_append]; omega
      · rw [List.length_append, List.length_singleton]; omega
      · intro y hy
        rcases List.mem_append.mp hy with hy | hy
        · exact ay y hy
        · rw [List.mem_singleton.mp hy]
          exact ⟨ou, pu⟩
  · obtain ⟨y4, y5, rfl, b4, t4, ys, hys, l1, l2, ay⟩ := hP
    exact ⟨.ref nm, rfl, q nm H' b4 t4 ⟨ys, hys, l1, by omega, ay⟩ hnm⟩
end
end K12

/-! Walks: literals, leaves, plain parts. -/
namespace K12
open PySem PySem.Spec PyProof.Rows L2
theorem gen_lit {x : Str} (h : okW x) : Gen 1 (.lit x) := ⟨h, trivial, Nat.le_refl _⟩
theorem gen_atom {k : AK} {n : Str} (h : okN n) : Gen 1 (.atom k n) := ⟨h, trivial, Nat.le_refl _⟩
theorem gen_slice {i j d : Nat} {a : Ex Str} (h1 : i ≤ 120) (h2 : j ≤ 1000000000) (g : Gen d a) : Gen (d + 1) (.un (.slice i j) a) := ⟨⟨h2, g.ok⟩, ⟨h1, g.sm⟩, Nat.succ_le_succ g.dp⟩
theorem gen_dyn {d : Nat} {a : Ex Str} (g : Gen d a) : Gen (d + 1) (.un .dyn a) := ⟨⟨trivial, g.ok⟩, g.sm, Nat.succ_le_succ g.dp⟩
theorem gen_bin {k : BK} {d : Nat} {a b : Ex Str} (h : okB k) (g1 : Gen d a) (g2 : Gen d b) : Gen (d + 1) (.bin k a b) :=
  ⟨⟨h, g1.ok, g2.ok⟩, ⟨g1.sm, g2.sm⟩, by have h1 := g1.dp; have h2 := g2.dp; show max (depth a) (depth b) + 1 ≤ d + 1; omega⟩
theorem gen_tri {k : TK} {d : Nat} {a b c : Ex Str} (g1 : Gen d a) (g2 : Gen d b) (g3 : Gen d c) : Gen (d + 1) (.tri k a b c) :=
  ⟨⟨g1.ok, g2.ok, g3.ok⟩, ⟨g1.sm, g2.sm, g3.sm⟩, by have h1 := g1.dp; have h2 := g2.dp; have h3 := g3.dp; show max (max (depth a) (depth b)) (depth c) + 1 ≤ d + 1; omega⟩
theorem gen_empty : Gen 1 (.lit (Str.ofString "")) := gen_lit ⟨by decide +kernel, asc_of (by decide +kernel)⟩
section
variable {P : Program} {w : World} {K : PySem.W.Frag} {mg : Str → Option Value} {base : Heap} {dP eE : Addr} {tM : Tok}
/-- a written expression is handed back -/
theorem fin_tup {H0 H1 : Hp} {t L : Addr} {d : Nat} {Q : VK} {e : Ex Str} {xs : List V} (q : ∀ v (e : Ex Str) H', Bt t H0 H' → TapeAt K L H' t → Tp K H' v (dW e) → Gen d e → Q v H')
    (b : Bt t H0 H1) (tp : TapeAt K L H1 t) (hx : Tps K H1 xs (ds PyData.str dW e)) (g : Gen d e) : xs.length ≤ sizeLine ∧ ∀ p, H1 p = none → Q (.ref p) (upd H1 p (.tup xs)) := by
  refine ⟨?_, fun p np => q _ e _ (b.new np) (tp.new np) (Tp.ex (.inl upd_same) (hx.mono (keepT_new np))) g⟩
  rw [hx.len]
  exact Nat.le_trans (ds_length _ _ e).2 line4

/-! ### _law_literal -/
theorem scLiteral : FnScope ["_law_tape_here", "_law_choice"] ["_law_tape_here"] (defScope sLiteral) := ⟨rfl, rfl, rfl, by decide +kernel, rfl, by decide +kernel, by decide +kernel⟩
def spLiteral (K : PySem.W.Frag) : Sp := fun vs H Q _ => ∃ (t L : Addr), vs = [.ref t] ∧ TapeAt K L H t ∧ ∀ (x : Str) H', Bt t H H' → TapeAt K L H' t → okW x → Q (.str x) H'
theorem ok_literal {f fD fS : Addr} {fd fdD fdS : FuncData} {k : Nat} (F : Fun K "_law_literal" "_law_literal" sLiteral f fd) (T : Txt K w mg dP eE tM) (DD : Dfn K mg "_law_draw" sDraw ["_law_tape_here", "_law_many"] fD fdD)
    (DS : Dfn K mg "_law_string" sString ["_law_tape_here", "_law_size"] fS fdS) : FnOk P w K mg base CX0 (k + 3) f fd ["_law_tape_here"] (spLiteral K) := by
  have GD : FnOk P w K mg base CX0 (k + 1) fD fdD ["_law_tape_here", "_law_many"] (spDraw K) := ok_draw DD.F T
  have GS : FnOk P w K mg base CX0 (k + 2) fS fdS ["_law_tape_here", "_law_size"] (spString K) := ok_string DS.F T DD
  refine F.ok scLiteral (fun vs H Q E h => ?_) (fun cdv A outer s H vs Q E hr h => ?_)
  · obtain ⟨t, L, rfl, _⟩ := h
    rfl
  obtain ⟨t, L, rfl, ht, q⟩ := h
  have hr1 := hr.mono (show k + 1 ≤ k + 2 by omega)
  refine ⟨_, pss_cons (ps_set (i := 1) scLiteral.nd rfl (.inl rfl) (pe_call GD hr1 (by rfl) DD.g DD.F.kp DD.b .nil pass0 (pa_cons (pv 0) (pa_cons pe_int pa_nil))))
    (pss_cons (ps_if (pt_cmpR op_lt (pv 1) pe_int (nomark _))
      (pss_one (ps_ret (pe_ix ix_list (pe_lst (pa_cons (pe_op op_xy30 pe_str pe_int) (pa_cons (pe_op op_add_str pe_str (pe_op op_xy30 pe_str pe_int)) pa_nil))) (pv 1) (fun _ _ => rfl)))) pss_nil)
    (pss_one (ps_ret (pe_call GS hr (by rfl) DS.g DS.F.kp DS.b .nil pass0 (pa_cons (pv 0) (pa_cons
      (pe_ix ix_list (pe_lst (pa_cons pe_int (pa_cons pe_int (pa_cons pe_int (pa_cons pe_int (pa_cons pe_int (pa_cons pe_int (pa_cons pe_int pa_nil))))))))
        (pe_op op_mod (pe_callTy call_int1 (by rfl) T.int (by decide +kernel) (pa_cons (pv 1) pa_nil)) pe_int) (fun _ _ => rfl)) pa_nil)))))), ?_⟩
  refine rd_draw (m := 14) rfl ht rfl (by decide) (by decide) fun r H1 b1 t1 hr => ⟨_, rfl, r, 2, rfl, rfl, _, rfl, ?_⟩
  refine ite2 (fun h2 => ?_) fun h2 => ?_
  · have hr2 : r < 2 := by have := of_decide_eq_true h2; omega
    have lz : (Str.ofString "z" ++ xy30).length = 61 := by decide +kernel
    refine ⟨rfl, rfl, rfl, rfl, _, _, rfl, rfl, by decide +kernel, line2, fun p np => ⟨.int r, rfl, ?_⟩⟩
    have go : ∀ x : Str, okW x → Q (.str x) (upd H1 p (.lst [.str xy30, .str (Str.ofString "z" ++ xy30)])) := fun x hx => q x _ (b1.new np) (t1.new np) hx
    have az : asc (Str.ofString "z" ++ xy30) := asc_app (asc_of (by decide +kernel)) xy30_asc
    rcases (show r = 0 ∨ r = 1 by omega) with rfl | rfl
    · exact ⟨p, _, _, .str xy30, rfl, rfl, SqL.of upd_same, atI_nat (j := 0) rfl, go _ ⟨by rw [xy30_len]; decide, xy30_asc⟩⟩
    · exact ⟨p, _, _, .str (Str.ofString "z" ++ xy30), rfl, rfl, SqL.of upd_same, atI_nat (j := 1) rfl, go _ ⟨by rw [lz]; decide, az⟩⟩
  · refine ⟨.ref t, rfl, le_line (by decide), fun p np => ⟨_, rfl, .inl ⟨r, rfl, r, 7, rfl, rfl, by show (0 : Int) < 7; decide, ?_⟩⟩⟩
    obtain ⟨n, hn, hx⟩ : ∃ n : Nat, n ≤ 3 ∧ ([V.int 0, .int 0, .int 0, .int 1, .int 1, .int 2, .int 3] : List V)[r % 7]? = some (.int n) := by
      have : r % 7 < 7 := Nat.mod_lt _ (by decide)
      rcases (show r % 7 = 0 ∨ r % 7 = 1 ∨ r % 7 = 2 ∨ r % 7 = 3 ∨ r % 7 = 4 ∨ r % 7 = 5 ∨ r % 7 = 6 by omega) with e | e | e | e | e | e | e <;> rw [e]
      · exact ⟨0, by decide, rfl⟩
      · exact ⟨0, by decide, rfl⟩
      · exact ⟨0, by decide, rfl⟩
      · exact ⟨1, by decide, rfl⟩
      · exact ⟨1, by decide, rfl⟩
      · exact ⟨2, by decide, rfl⟩
      · exact ⟨3, by decide, rfl⟩
    refine ⟨p, _, (r : Int) % 7, .int n, rfl, rfl, SqL.of upd_same, atI_nat (j := r % 7) hx, t, L, n, rfl, t1.new np, by omega, fun x H2 b2 t2 lx ax => ?_⟩
    exact q x H2 ((b1.new np).trans b2) t2 ⟨by omega, ax⟩

/-! ### _law_leaf, _law_plain -/
theorem scLeaf : FnScope ["_law_tape_here", "_law_names_here", "_law_choice", "_law_name_here"] ["_law_tape_here", "_law_names_here"] (defScope sLeaf) := ⟨rfl, rfl, rfl, by decide +kernel, rfl, by decide +kernel, by decide +kernel⟩
def spLeaf (K : PySem.W.Frag) : Sp := fun vs H Q _ => ∃ (t L nm : Addr), vs = [.ref t, .ref nm] ∧ TapeAt K L H t ∧ NamesAt H nm ∧ nm ≠ t ∧ ∀ v (e : Ex Str) H', Bt t H H' → TapeAt K L H' t → Tp K H' v (dW e) → Gen 1 e → Q v H'
theorem ok_leaf {f fD fL fS : Addr} {fd fdD fdL fdS : FuncData} {k : Nat} (F : Fun K "_law_leaf" "_law_leaf" sLeaf f fd) (T : Txt K w mg dP eE tM) (DD : Dfn K mg "_law_draw" sDraw ["_law_tape_here", "_law_many"] fD fdD)
    (DS : Dfn K mg "_law_string" sString ["_law_tape_here", "_law_size"] fS fdS) (DL : Dfn K mg "_law_literal" sLiteral ["_law_tape_here"] fL fdL) : FnOk P w K mg base CX0 (k + 4) f fd ["_law_tape_here", "_law_names_here"] (spLeaf K) := by
  have GD : FnOk P w K mg base CX0 (k + 1) fD fdD ["_law_tape_here", "_law_many"] (spDraw K) := ok_draw DD.F T
  have GL : FnOk P w K mg base CX0 (k + 3) fL fdL ["_law_tape_here"] (spLiteral K) := ok_literal DL.F T DD DS
  refine F.ok scLeaf (fun vs H Q E h => ?_) (fun cdv A outer s H vs Q E hr h => ?_)
  · obtain ⟨t, L, nm, rfl, _⟩ := h
    rfl
  obtain ⟨t, L, nm, rfl, ht, hnm, hne, q⟩ := h
  have hr1 := hr.mono (show k + 1 ≤ k + 3 by omega)
  refine ⟨_, pss_cons (ps_set (i := 2) scLeaf.nd rfl (.inl rfl) (pe_call GD hr1 (by rfl) DD.g DD.F.kp DD.b .nil pass0 (pa_cons (pv 0) (pa_cons pe_int pa_nil))))
    (pss_cons (ps_set (i := 3) scLeaf.nd rfl (.inl rfl) (pe_ix ix_list (pv 1) (pe_call GD hr1 (by rfl) DD.g DD.F.kp DD.b .nil pass0 (pa_cons (pv 0) (pa_cons (pe_callB call_len_seq (by rfl) T.len PySem.boot_len (pa_cons (pv 1) pa_nil)) pa_nil))) (fun _ _ => rfl)))
    (pss_cons (ps_if (pt_cmpR op_lt (pv 2) pe_int (nomark _))
      (pss_one (ps_ret (pe_tup (pa_cons pe_str (pa_cons (pe_call GL hr (by rfl) DL.g DL.F.kp DL.b .nil pass0 (pa_cons (pv 0) pa_nil)) pa_nil))))) pss_nil)
    (pss_cons (ps_if (pt_cmpR op_eq (pv 2) pe_int (nomark _))
      (pss_one (ps_ret (pe_tup (pa_cons pe_str (pa_cons (pe_slice sl_str (pv 3) po_none (po_some (pe_call GD hr1 (by rfl) DD.g DD.F.kp DD.b .nil pass0 (pa_cons (pv 0)
        (pa_cons (pe_op op_add (pe_callB call_len_str (by rfl) T.len PySem.boot_len (pa_cons (pv 3) pa_nil)) pe_int) pa_nil))))) pa_nil))))) pss_nil)
    (pss_one (ps_ret (pe_tup (pa_cons (pe_ix ix_list (pe_lst (pa_cons pe_str (pa_cons pe_str (pa_cons pe_str (pa_cons pe_str pa_nil))))) (pe_op op_sub (pv 2) pe_int) (fun _ _ => rfl)) (pa_cons (pv 3) pa_nil)))))))), ?_⟩
  refine rd_draw (m := 9) rfl ht rfl (by decide) (by decide) fun r H1 b1 t1 hr => ?_
  obtain ⟨ys, hys, l1, l2, ay⟩ := hnm.bt b1 hne
  have lm : (ys.map V.str).length = ys.length := List.length_map _
  refine ⟨.ref nm, rfl, .ref t, rfl, .ref nm, rfl, nm, ys.map V.str, rfl, .inl (SqL.of hys), t, L, (ys.map V.str).length, rfl, t1, by omega, by omega, fun r2 H2 b2 t2 hr2 => ?_⟩
  have hr2' : r2 < ys.length := by omega
  have hys2 := b2 nm _ hne hys
  obtain ⟨oy, py⟩ := ay ys[r2] (List.getElem_mem hr2')
  refine ⟨nm, ys.map V.str, r2, .str ys[r2], rfl, rfl, SqL.of hys2, atI_nat (by rw [List.getElem?_map, List.getElem?_eq_getElem hr2']; rfl), ?_⟩
  generalize ys[r2] = y at oy py
  have b12 := b1.trans b2
  refine ⟨_, rfl, r, 4, rfl, rfl, _, rfl, ite2 (fun h4 => ?_) fun h4 => ?_⟩
  · refine ⟨.ref t, rfl, t, L, rfl, t2, fun x H3 b3 t3 hx => ?_⟩
    exact fin_tup (e := .lit x) q (b12.trans b3) t3 (.cons (.str _) (.cons (.str _) .nil)) (gen_lit hx)
  refine ⟨_, rfl, rfl, _, rfl, ite2 (fun h5 => ?_) fun h5 => ?_⟩
  · have ly : y.length ≤ 16 := oy.1
    refine ⟨.str y, rfl, .ref t, rfl, .str y, rfl, y, rfl, le_line (by omega), y.length, 1, rfl, rfl, t, L, y.length + 1, rfl, t2, by omega, by omega, fun r3 H3 b3 t3 hr3 => ⟨r3, rfl, y, rfl, le_line (by omega), ?_⟩⟩
    refine fin_tup (e := .atom .cfiles (cutS y none (some (r3 : Int)))) q (b12.trans b3) t3 (.cons (.str _) (.cons (.str _) .nil)) (gen_atom ⟨Nat.le_trans (cutS_length _ _ _) ly, asc_cutS oy.2 _ _⟩)
  · have hr5 : 5 ≤ r := by
      have h4' : ¬ (r : Int) < 4 := fun z => h4 (decide_eq_true z)
      have h5' : ¬ r = 4 := fun z => h5 (decide_eq_true (by rw [z]; rfl))
      omega
    obtain ⟨j, rfl⟩ : ∃ j, r = j + 5 := ⟨r - 5, by omega⟩
    obtain ⟨kd, hkd⟩ : ∃ kd : AK, ([.str (Str.ofString "file"), .str (Str.ofString "optional file"), .str (Str.ofString "target"), .str (Str.ofString "target")] : List V)[j]? = some (.str (wA kd)) := by
      rcases (show j = 0 ∨ j = 1 ∨ j = 2 ∨ j = 3 by omega) with rfl | rfl | rfl | rfl
      · exact ⟨.file, rfl⟩
      · exact ⟨.ofile, rfl⟩
      · exact ⟨.target, rfl⟩
      · exact ⟨.target, rfl⟩
    refine ⟨line4, fun p np => ⟨_, rfl, _, 5, rfl, rfl, p, _, (j : Int), .str (wA kd), rfl, (show V.int (((j + 5 : Nat) : Int) - 5) = V.int (j : Int) by congr 1; omega), SqL.of upd_same, atI_nat hkd, .str y, rfl, ?_⟩⟩
    exact fin_tup (e := .atom kd y) q (b12.new np) (t2.new np) (.cons (.str _) (.cons (.str _) .nil)) (gen_atom oy)
theorem scPlain : FnScope ["_law_tape_here", "_law_names_here"] ["_law_tape_here", "_law_names_here"] (defScope sPlain) := ⟨rfl, rfl, rfl, by decide +kernel, rfl, by decide +kernel, by decide +kernel⟩
theorem ok_plain {f fD fL fS : Addr} {fd fdD fdL fdS : FuncData} {k : Nat} (F : Fun K "_law_plain" "_law_plain" sPlain f fd) (T : Txt K w mg dP eE tM) (DD : Dfn K mg "_law_draw" sDraw ["_law_tape_here", "_law_many"] fD fdD)
    (DS : Dfn K mg "_law_string" sString ["_law_tape_here", "_law_size"] fS fdS) (DL : Dfn K mg "_law_literal" sLiteral ["_law_tape_here"] fL fdL) : FnOk P w K mg base CX0 (k + 4) f fd ["_law_tape_here", "_law_names_here"] (spLeaf K) := by
  have GD : FnOk P w K mg base CX0 (k + 1) fD fdD ["_law_tape_here", "_law_many"] (spDraw K) := ok_draw DD.F T
  have GL : FnOk P w K mg base CX0 (k + 3) fL fdL ["_law_tape_here"] (spLiteral K) := ok_literal DL.F T DD DS
  refine F.ok scPlain (fun vs H Q E h => ?_) (fun cdv A outer s H vs Q E hr h => ?_)
  · obtain ⟨t, L, nm, rfl, _⟩ := h
    rfl
  obtain ⟨t, L, nm, rfl, ht, hnm, hne, q⟩ := h
  have hr1 := hr.mono (show k + 1 ≤ k + 3 by omega)
  refine ⟨_, pss_one (ps_ret (pe_ix ix_list (pe_lst (pa_cons (pe_tup (pa_cons pe_str (pa_cons (pe_call GL hr (by rfl) DL.g DL.F.kp DL.b .nil pass0 (pa_cons (pv 0) pa_nil)) pa_nil)))
      (pa_cons (pe_tup (pa_cons pe_str (pa_cons (pe_ix ix_list (pv 1) pe_int (fun _ _ => rfl)) pa_nil)))
      (pa_cons (pe_tup (pa_cons pe_str (pa_cons (pe_ix ix_list (pv 1) (pe_un un_neg pe_int) (fun _ _ => rfl)) pa_nil))) pa_nil))))
    (pe_call GD hr1 (by rfl) DD.g DD.F.kp DD.b .nil pass0 (pa_cons (pv 0) (pa_cons pe_int pa_nil))) (fun _ _ => rfl))), ?_⟩
  refine ⟨.ref t, rfl, t, L, rfl, ht, fun x H1 b1 t1 hx => ⟨line2, fun p1 n1 => ?_⟩⟩
  obtain ⟨ys, hys, l1, l2, ay⟩ := hnm.bt b1 hne
  have hys1 := (same_new (o := .tup [.str (Str.ofString "literal"), .str x]) n1) nm _ hys
  obtain ⟨y0, yr, rfl⟩ : ∃ y0 yr, ys = y0 :: yr := by
    cases ys with
    | nil => exact absurd l1 (by decide)
    | cons a b => exact ⟨a, b, rfl⟩
  refine ⟨.ref nm, rfl, nm, _, 0, .str y0, rfl, rfl, SqL.of hys1, atI_nat (j := 0) rfl, line2, fun p2 n2 => ?_⟩
  have hys2 := (same_new (o := .tup [.str (Str.ofString "file"), .str y0]) n2) nm _ hys1
  obtain ⟨yl, hl⟩ : ∃ yl, y0 :: yr = (y0 :: yr).dropLast ++ [yl] := ⟨_, (List.dropLast_concat_getLast (List.cons_ne_nil _ _)).symm⟩
  have hlm : yl ∈ y0 :: yr := by
    rw [hl]
    exact List.mem_append_right _ (List.mem_singleton.mpr rfl)
  have eml : (y0 :: yr).map V.str = ((y0 :: yr).dropLast).map V.str ++ [.str yl] := by
    rw [← List.map_singleton, ← List.map_append, ← hl]
  refine ⟨.ref nm, rfl, 1, rfl, nm, _, -1, .str yl, rfl, rfl, SqL.of hys2, by rw [eml]; exact atI_last _ _, line2, fun p3 n3 => ⟨line3, fun l nl => ?_⟩⟩
  have k1 := keepT_new (o := .tup [.str (Str.ofString "file"), .str y0]) n2
  have k2 := keepT_new (o := .tup [.str (Str.ofString "target"), .str yl]) n3
  have k3 := keepT_new (o := .lst [.ref p1, .ref p2, .ref p3]) nl
  have t5 := TapeAt.new (o := .lst [.ref p1, .ref p2, .ref p3]) (((t1.new n1).new n2).new n3) nl
  have b5 := Bt.new (o := .lst [.ref p1, .ref p2, .ref p3]) (((b1.new n1).new n2).new n3) nl
  have hlt : l ≠ t := (((t1.new n1).new n2).new n3).ne nl
  refine rd_draw (m := 3) rfl t5 rfl (by decide) (by decide) fun r H6 b6 t6 hr => ?_
  have k6 := b6.keepT t5
  have w1 : Tp K H6 (.ref p1) (dW (.lit x)) := Tp.ex (xs := [.str wL, .str x]) (.inl (k6 _ _ (k3 _ _ (k2 _ _ (k1 _ _ upd_same))))) (.cons (.str _) (.cons (.str _) .nil))
  have w2 : Tp K H6 (.ref p2) (dW (.atom .file y0)) := Tp.ex (xs := [.str (Str.ofString "file"), .str y0]) (.inl (k6 _ _ (k3 _ _ (k2 _ _ upd_same)))) (.cons (.str _) (.cons (.str _) .nil))
  have w3 : Tp K H6 (.ref p3) (dW (.atom .target yl)) := Tp.ex (xs := [.str (Str.ofString "target"), .str yl]) (.inl (k6 _ _ (k3 _ _ upd_same))) (.cons (.str _) (.cons (.str _) .nil))
  have hl6 : H6 l = some (.lst [.ref p1, .ref p2, .ref p3]) := b6 l _ hlt upd_same
  rcases (show r = 0 ∨ r = 1 ∨ r = 2 by omega) with rfl | rfl | rfl
  · exact ⟨l, _, _, .ref p1, rfl, rfl, SqL.of hl6, atI_nat (j := 0) rfl, q _ _ H6 (b5.trans b6) t6 w1 (gen_lit hx)⟩
  · exact ⟨l, _, _, .ref p2, rfl, rfl, SqL.of hl6, atI_nat (j := 1) rfl, q _ _ H6 (b5.trans b6) t6 w2 (gen_atom (ay y0 List.mem_cons_self).1)⟩
  · exact ⟨l, _, _, .ref p3, rfl, rfl, SqL.of hl6, atI_nat (j := 2) rfl, q _ _ H6 (b5.trans b6) t6 w3 (gen_atom (ay yl hlm).1)⟩
end
end K12

/-! Walks: _law_redex. -/
namespace K12
open PySem PySem.Spec PyProof.Rows L2
theorem dec_nat_lt {r m : Nat} {z : Int} (e : z = (m : Int)) (h : ¬ decide ((r : Int) < z) = true) : m ≤ r := by
  subst e
  have : ¬ (r : Int) < (m : Int) := fun q => h (decide_eq_true q)
  omega
theorem dec_nat_lt' {r m : Nat} {z : Int} (e : z = (m : Int)) (h : decide ((r : Int) < z) = true) : r < m := by
  subst e
  have := of_decide_eq_true h
  omega
section
variable {P : Program} {w : World} {K : PySem.W.Frag} {mg : Str → Option Value} {base : Heap} {dP eE : Addr} {tM : Tok}
theorem scRedex : FnScope ["_law_tape_here", "_law_names_here", "_law_depth_here", "_law_choice", "_law_inner", "_law_first", "_law_last", "_law_empty"] ["_law_tape_here", "_law_names_here", "_law_depth_here"] (defScope sRedex) :=
  ⟨rfl, rfl, rfl, by decide +kernel, rfl, by decide +kernel, by decide +kernel⟩
def spRedex (K : PySem.W.Frag) (d : Nat) : Sp := fun vs H Q _ => ∃ (t L nm : Addr), vs = [.ref t, .ref nm, .int d] ∧ TapeAt K L H t ∧ NamesAt H nm ∧ nm ≠ t ∧ ∀ v (e : Ex Str) H', Bt t H H' → TapeAt K L H' t → Tp K H' v (dW e) → Gen d e → Q v H'
/-- a small number, drawn -/
theorem small_of {xs : List V} {r m : Nat} {x : V} (hx : xs[r]? = some x) (h : xs.all (fun v => match v with | .int i => decide (0 ≤ i ∧ i ≤ m) | _ => false) = true) : ∃ n : Nat, x = .int n ∧ n ≤ m := by
  have := List.all_eq_true.mp h x (List.mem_of_getElem? hx)
  cases x with
  | int i =>
    have h' : 0 ≤ i ∧ i ≤ m := of_decide_eq_true this
    obtain ⟨n, rfl⟩ : ∃ n : Nat, i = n := ⟨i.toNat, by omega⟩
    exact ⟨n, rfl, by omega⟩
  | _ => cases this
theorem ok_redex {f fD fL fS fP : Addr} {fd fdD fdL fdS fdP : FuncData} (D : Dfn K mg "_law_redex" sRedex ["_law_tape_here", "_law_names_here", "_law_depth_here"] f fd) (T : Txt K w mg dP eE tM)
    (DD : Dfn K mg "_law_draw" sDraw ["_law_tape_here", "_law_many"] fD fdD) (DS : Dfn K mg "_law_string" sString ["_law_tape_here", "_law_size"] fS fdS) (DL : Dfn K mg "_law_literal" sLiteral ["_law_tape_here"] fL fdL)
    (DP : Dfn K mg "_law_plain" sPlain ["_law_tape_here", "_law_names_here"] fP fdP) :
    ∀ d : Nat, FnOk P w K mg base CX0 (d + 5) f fd ["_law_tape_here", "_law_names_here", "_law_depth_here"] (spRedex K (d + 1)) := by
  have GD : FnOk P w K mg base CX0 1 fD fdD ["_law_tape_here", "_law_many"] (spDraw K) := ok_draw DD.F T
  have GP : FnOk P w K mg base CX0 4 fP fdP ["_law_tape_here", "_law_names_here"] (spLeaf K) := ok_plain DP.F T DD DS DL
  intro d
  induction d with
  | zero =>
    refine D.F.ok scRedex (fun vs H Q E h => ?_) (fun cdv A outer s H vs Q E hr h => ?_)
    · obtain ⟨t, L, nm, rfl, _⟩ := h
      rfl
    obtain ⟨t, L, nm, rfl, ht, hnm, hne, q⟩ := h
    refine ⟨_, pss_cons (ps_set (i := 3) scRedex.nd rfl (.inl rfl) (pe_call GD (hr.mono (by omega)) (by rfl) DD.g DD.F.kp DD.b .nil pass0 (pa_cons (pv 0) (pa_cons pe_int pa_nil))))
      (pss_cons (ps_if (pt_cmpR op_lt (pv 2) pe_int (nomark _)) (pss_one (ps_ret (pe_call GP hr (by rfl) DP.g DP.F.kp DP.b .nil pass0 (pa_cons (pv 0) (pa_cons (pv 1) pa_nil))))) pss_nil) pss_never), ?_⟩
    refine rd_draw (m := 12) rfl ht rfl (by decide) (by decide) fun r H1 b1 t1 hr => ⟨_, rfl, _, 2, rfl, rfl, _, rfl, ?_⟩
    refine iteTe rfl ⟨.ref t, rfl, .ref nm, rfl, t, L, nm, rfl, t1, hnm.bt b1 hne, hne, fun v e H2 b2 t2 te ge => q v e H2 (b1.trans b2) t2 te ge⟩
  | succ d ih =>
    refine D.F.ok scRedex (fun vs H Q E h => ?_) (fun cdv A outer s H vs Q E hr h => ?_)
    · obtain ⟨t, L, nm, rfl, _⟩ := h
      rfl
    obtain ⟨t, L, nm, rfl, ht, hnm, hne, q⟩ := h
    have hr1 := hr.mono (show 1 ≤ d + 5 by omega)
    have hr4 := hr.mono (show 4 ≤ d + 5 by omega)
    refine ⟨_, pss_cons (ps_set (i := 3) scRedex.nd rfl (.inl rfl) (pe_call GD hr1 (by rfl) DD.g DD.F.kp DD.b .nil pass0 (pa_cons (pv 0) (pa_cons pe_int pa_nil))))
      (pss_cons (ps_if (pt_cmpR op_lt (pv 2) pe_int (nomark _)) (pss_one (ps_ret (pe_call GP hr4 (by rfl) DP.g DP.F.kp DP.b .nil pass0 (pa_cons (pv 0) (pa_cons (pv 1) pa_nil))))) pss_nil)
      (pss_cons (ps_set (i := 4) scRedex.nd rfl (.inl rfl) (pe_call ih hr (by rfl) D.g D.F.kp D.b .nil pass0 (pa_cons (pv 0) (pa_cons (pv 1) (pa_cons (pe_op op_sub (pv 2) pe_int) pa_nil)))))
      (pss_cons (ps_set (i := 5) scRedex.nd rfl (.inl rfl) (pe_ix ix_list (pe_lst (pa_cons pe_int (pa_cons pe_int (pa_cons pe_int (pa_cons pe_int (pa_cons pe_int pa_nil))))))
        (pe_call GD hr1 (by rfl) DD.g DD.F.kp DD.b .nil pass0 (pa_cons (pv 0) (pa_cons pe_int pa_nil))) (fun _ _ => rfl)))
      (pss_cons (ps_set (i := 6) scRedex.nd rfl (.inl rfl) (pe_ix ix_list (pe_lst (pa_cons pe_int (pa_cons pe_int (pa_cons pe_int (pa_cons pe_int (pa_cons pe_int pa_nil))))))
        (pe_call GD hr1 (by rfl) DD.g DD.F.kp DD.b .nil pass0 (pa_cons (pv 0) (pa_cons pe_int pa_nil))) (fun _ _ => rfl)))
      (pss_cons (ps_if (pt_cmpR op_lt (pv 3) pe_int (nomark _)) (pss_one (ps_ret (pe_tup (pa_cons pe_str (pa_cons (pv 4) (pa_cons (pv 5) (pa_cons (pv 6) pa_nil))))))) pss_nil)
      (pss_cons (ps_set (i := 7) scRedex.nd rfl (.inl rfl) (pe_tup (pa_cons pe_str (pa_cons pe_str pa_nil))))
      (pss_cons (ps_if (pt_cmpR op_lt (pv 3) pe_int (nomark _)) (pss_one (ps_ret (pe_tup (pa_cons (pe_ix ix_list (pe_lst (pa_cons pe_str (pa_cons pe_str (pa_cons pe_str (pa_cons pe_str pa_nil))))) (pe_op op_sub (pv 3) pe_int) (fun _ _ => rfl))
        (pa_cons (pv 4) (pa_cons (pv 7) pa_nil)))))) pss_nil)
      (pss_cons (ps_if (pt_cmpR op_eq (pv 3) pe_int (nomark _)) (pss_one (ps_ret (pe_tup (pa_cons pe_str (pa_cons (pv 4) (pa_cons (pv 7)
        (pa_cons (pe_call GP hr4 (by rfl) DP.g DP.F.kp DP.b .nil pass0 (pa_cons (pv 0) (pa_cons (pv 1) pa_nil))) pa_nil))))))) pss_nil)
      (pss_cons (ps_if (pt_cmpR op_eq (pv 3) pe_int (nomark _)) (pss_one (ps_ret (pe_tup (pa_cons pe_str (pa_cons (pe_call GP hr4 (by rfl) DP.g DP.F.kp DP.b .nil pass0 (pa_cons (pv 0) (pa_cons (pv 1) pa_nil)))
        (pa_cons (pv 4) (pa_cons (pe_call ih hr (by rfl) D.g D.F.kp D.b .nil pass0 (pa_cons (pv 0) (pa_cons (pv 1) (pa_cons (pe_op op_sub (pv 2) pe_int) pa_nil)))) pa_nil))))))) pss_nil)
      (pss_cons (ps_if (pt_cmpR op_eq (pv 3) pe_int (nomark _)) (pss_one (ps_ret (pe_tup (pa_cons pe_str (pa_cons (pe_call GP hr4 (by rfl) DP.g DP.F.kp DP.b .nil pass0 (pa_cons (pv 0) (pa_cons (pv 1) pa_nil)))
        (pa_cons (pe_call GP hr4 (by rfl) DP.g DP.F.kp DP.b .nil pass0 (pa_cons (pv 0) (pa_cons (pv 1) pa_nil))) pa_nil)))))) pss_nil)
      (pss_cons (ps_if (pt_cmpR op_eq (pv 3) pe_int (nomark _)) (pss_one (ps_ret (pe_tup (pa_cons pe_str (pa_cons (pv 7) (pa_cons (pv 4) pa_nil)))))) pss_nil)
      (pss_one (ps_ret (pe_tup (pa_cons pe_str (pa_cons (pv 4) (pa_cons (pe_call ih hr (by rfl) D.g D.F.kp D.b .nil pass0 (pa_cons (pv 0) (pa_cons (pv 1) (pa_cons (pe_op op_sub (pv 2) pe_int) pa_nil)))) pa_nil))))))))))))))))), ?_⟩
    refine rd_draw (m := 12) rfl ht rfl (by decide) (by decide) fun r H1 b1 t1 hr => ⟨_, rfl, ((d + 1 + 1 : Nat) : Int), 2, rfl, rfl, _, rfl, ?_⟩
    refine iteFe (decide_eq_false (by omega)) ?_
    have ed : ((d + 1 + 1 : Nat) : Int) - 1 = ((d + 1 : Nat) : Int) := by omega
    -- a call of itself
    have again : ∀ {σ : L2.St} {Hx : Hp} {R : VK}, σ[0]? = some (some (.ref t)) → σ[1]? = some (some (.ref nm)) → σ[2]? = some (some (.int ((d + 1 + 1 : Nat) : Int))) → Bt t H Hx → TapeAt K L Hx t →
        (∀ v (e : Ex Str) H', Bt t Hx H' → TapeAt K L H' t → Tp K H' v (dW e) → Gen (d + 1) e → R v H') →
        tCall (spRedex K (d + 1)) [] E0 (tCons (tVar 0) (tCons (tVar 1) (tCons (tOp (rI0 fun i j => .int (i - j)) (tVar 2) (tC (.int 1))) tNil))) σ Hx R := fun {σ Hx R} s0 s1 s2 bx tx k => by
      refine ⟨.ref t, s0, .ref nm, s1, _, s2, _, 1, rfl, rfl, t, L, nm, ?_, tx, hnm.bt bx hne, hne, k⟩
      show [V.ref t, V.ref nm, V.int (((d + 1 + 1 : Nat) : Int) - 1)] ++ [] = _
      rw [ed]
      rfl
    have pln : ∀ {σ : L2.St} {Hx : Hp} {R : VK}, σ[0]? = some (some (.ref t)) → σ[1]? = some (some (.ref nm)) → Bt t H Hx → TapeAt K L Hx t →
        (∀ v (e : Ex Str) H', Bt t Hx H' → TapeAt K L H' t → Tp K H' v (dW e) → Gen (d + 1) e → R v H') →
        tCall (spLeaf K) [] E0 (tCons (tVar 0) (tCons (tVar 1) tNil)) σ Hx R := fun {σ Hx R} s0 s1 bx tx k =>
      ⟨.ref t, s0, .ref nm, s1, t, L, nm, rfl, tx, hnm.bt bx hne, hne, fun v e H' b' t' te ge => k v e H' b' t' te (ge.mono (by omega))⟩
    refine again rfl rfl rfl b1 t1 fun v0 e0 H2 b2 t2 te0 ge0 => ?_
    refine rd_setC (v := v0) (i := 4) ?_
    refine rd_pick (m := 5) (xs := [.int 0, .int 0, .int 1, .int 2, .int 5]) rfl t2 rfl rfl (by decide) (by decide) (fun R h => h) fun r3 y3 H3 hy3 b3 t3 => ?_
    obtain ⟨i, rfl, hi⟩ := small_of (m := 5) hy3 (by decide)
    refine rd_setC (v := .int i) (i := 5) ?_
    refine rd_pick (m := 5) (xs := [.int 0, .int 1, .int 2, .int 3, .int 7]) rfl t3 rfl rfl (by decide) (by decide) (fun R h => h) fun r4 y4 H4 hy4 b4 t4 => ?_
    obtain ⟨j, rfl, hj⟩ := small_of (m := 7) hy4 (by decide)
    have b04 := ((b1.trans b2).trans b3).trans b4
    have te4 := te0.mono ((b3.keepT t2).trans (b4.keepT t3))
    refine ⟨_, rfl, r, 3, rfl, rfl, _, rfl, ite2 (fun h3 => ?_) fun h3 => ?_⟩
    · refine ⟨v0, rfl, _, rfl, _, rfl, ?_⟩
      exact fin_tup (e := .un (.slice i j) e0) q b04 t4 (.cons (.str _) (.cons te4 (.cons (.int _) (.cons (.int _) .nil)))) (gen_slice (by omega) (by omega) ge0)
    have r3' := dec_nat_lt (m := 3) rfl h3
    refine ⟨line2, fun p np => ?_⟩
    have b5 := b04.new (o := .tup [.str (Str.ofString "literal"), .str (Str.ofString "")]) np
    have t5 := t4.new (o := .tup [.str (Str.ofString "literal"), .str (Str.ofString "")]) np
    have te5 := te4.mono (keepT_new (o := .tup [.str (Str.ofString "literal"), .str (Str.ofString "")]) np)
    have tm5 : Tp K (upd H4 p (.tup [.str (Str.ofString "literal"), .str (Str.ofString "")])) (.ref p) (dW (.lit (Str.ofString ""))) := Tp.ex (xs := [.str wL, .str (Str.ofString "")]) (.inl upd_same) (.cons (.str _) (.cons (.str _) .nil))
    have gm : Gen (d + 1) (.lit (Str.ofString "")) := gen_empty.mono (by omega)
    refine ⟨_, rfl, r, 7, rfl, rfl, _, rfl, ite2 (fun h7 => ?_) fun h7 => ?_⟩
    · have r7' := dec_nat_lt' (m := 7) rfl h7
      obtain ⟨j', rfl⟩ : ∃ j', r = j' + 3 := ⟨r - 3, by omega⟩
      obtain ⟨kd, hkd, okd⟩ : ∃ kd : BK, ([.str (Str.ofString "find"), .str (Str.ofString "before"), .str (Str.ofString "after"), .str (Str.ofString "concat")] : List V)[j']? = some (.str (wB kd)) ∧ okB kd ∧ bArgs kd = [] := by
        rcases (show j' = 0 ∨ j' = 1 ∨ j' = 2 ∨ j' = 3 by omega) with rfl | rfl | rfl | rfl
        · exact ⟨.find, rfl, trivial, rfl⟩
        · exact ⟨.before, rfl, trivial, rfl⟩
        · exact ⟨.after, rfl, trivial, rfl⟩
        · exact ⟨.concat, rfl, trivial, rfl⟩
      refine ⟨line4, fun g ng => ⟨_, rfl, _, 3, rfl, rfl, g, _, (j' : Int), .str (wB kd), rfl, (show V.int (((j' + 3 : Nat) : Int) - 3) = V.int (j' : Int) by congr 1; omega), SqL.of upd_same, atI_nat hkd, v0, rfl, .ref p, rfl, ?_⟩⟩
      have k6 := keepT_new (o := .lst [.str (Str.ofString "find"), .str (Str.ofString "before"), .str (Str.ofString "after"), .str (Str.ofString "concat")]) ng
      refine fin_tup (e := .bin kd e0 (.lit (Str.ofString ""))) q (b5.new ng) (t5.new ng) ?_ (gen_bin okd.1 ge0 gm)
      show Tps K _ _ (.str (wB kd) :: (bArgs kd ++ [dW e0, dW (.lit (Str.ofString ""))]))
      rw [okd.2]
      exact .cons (.str _) (.cons (te5.mono k6) (.cons (tm5.mono k6) .nil))
    refine ⟨_, rfl, rfl, _, rfl, ite2 (fun h8 => ?_) fun h8 => ?_⟩
    · refine ⟨v0, rfl, .ref p, rfl, pln rfl rfl b5 t5 fun v e H6 b6 t6 te ge => ?_⟩
      have k6 := b6.keepT t5
      exact fin_tup (e := .tri .repl e0 (.lit (Str.ofString "")) e) q (b5.trans b6) t6 (.cons (.str _) (.cons (te5.mono k6) (.cons (tm5.mono k6) (.cons te .nil)))) (gen_tri ge0 gm ge)
    refine ⟨_, rfl, rfl, _, rfl, ite2 (fun h9 => ?_) fun h9 => ?_⟩
    · refine pln rfl rfl b5 t5 fun v e H6 b6 t6 te ge => ⟨v0, rfl, again rfl rfl rfl (b5.trans b6) t6 fun v' e' H7 b7 t7 te' ge' => ?_⟩
      have k6 := b6.keepT t5
      have k7 := b7.keepT t6
      exact fin_tup (e := .tri .ite e e0 e') q ((b5.trans b6).trans b7) t7 (.cons (.str _) (.cons (te.mono k7) (.cons (te5.mono (k6.trans k7)) (.cons te' .nil)))) (gen_tri ge ge0 ge')
    refine ⟨_, rfl, rfl, _, rfl, ite2 (fun h10 => ?_) fun h10 => ?_⟩
    · refine pln rfl rfl b5 t5 fun v e H6 b6 t6 te ge => pln rfl rfl (b5.trans b6) t6 fun v' e' H7 b7 t7 te' ge' => ?_
      have k7 := b7.keepT t6
      exact fin_tup (e := .bin .concat e e') q ((b5.trans b6).trans b7) t7 (.cons (.str _) (.cons (te.mono k7) (.cons te' .nil))) (gen_bin trivial ge ge')
    refine ⟨_, rfl, rfl, _, rfl, ite2 (fun h11 => ?_) fun h11 => ?_⟩
    · refine ⟨.ref p, rfl, v0, rfl, ?_⟩
      exact fin_tup (e := .bin .concat (.lit (Str.ofString "")) e0) q b5 t5 (.cons (.str _) (.cons tm5 (.cons te5 .nil))) (gen_bin trivial gm ge0)
    · refine ⟨v0, rfl, again rfl rfl rfl b5 t5 fun v' e' H7 b7 t7 te' ge' => ?_⟩
      have k7 := b7.keepT t5
      exact fin_tup (e := .bin .concat e0 e') q (b5.trans b7) t7 (.cons (.str _) (.cons (te5.mono k7) (.cons te' .nil))) (gen_bin trivial ge0 ge')
end
end K12

/-! Walks: _law_expression. -/
namespace K12
open PySem PySem.Spec PyProof.Rows L2
section
variable {P : Program} {w : World} {K : PySem.W.Frag} {mg : Str → Option Value} {base : Heap} {dP eE : Addr} {tM : Tok}
abbrev nsExpr : List Str := ["_law_tape_here", "_law_names_here", "_law_depth_here", "_law_coins"]
theorem scExpr : FnScope ["_law_tape_here", "_law_names_here", "_law_depth_here", "_law_coins", "_law_choice", "_law_left", "_law_first", "_law_right"] nsExpr (defScope sExpr) :=
  ⟨rfl, rfl, rfl, by decide +kernel, rfl, by decide +kernel, by decide +kernel⟩
def spExpr (K : PySem.W.Frag) (d : Nat) : Sp := fun vs H Q _ => ∃ (t L nm : Addr), vs = [.ref t, .ref nm, .int d, .bl true] ∧ TapeAt K L H t ∧ NamesAt H nm ∧ nm ≠ t ∧ ∀ v (e : Ex Str) H', Bt t H H' → TapeAt K L H' t → Tp K H' v (dW e) → Gen d e → Q v H'
theorem ok_expr {f fD fL fS fE : Addr} {fd fdD fdL fdS fdE : FuncData} (D : Dfn K mg "_law_expression" sExpr nsExpr f fd) (T : Txt K w mg dP eE tM)
    (DD : Dfn K mg "_law_draw" sDraw ["_law_tape_here", "_law_many"] fD fdD) (DS : Dfn K mg "_law_string" sString ["_law_tape_here", "_law_size"] fS fdS) (DL : Dfn K mg "_law_literal" sLiteral ["_law_tape_here"] fL fdL)
    (DE : Dfn K mg "_law_leaf" sLeaf ["_law_tape_here", "_law_names_here"] fE fdE) :
    ∀ d : Nat, FnOk P w K mg base CX0 (d + 5) f fd nsExpr (spExpr K (d + 1)) := by
  have GD : FnOk P w K mg base CX0 1 fD fdD ["_law_tape_here", "_law_many"] (spDraw K) := ok_draw DD.F T
  have GE : FnOk P w K mg base CX0 4 fE fdE ["_law_tape_here", "_law_names_here"] (spLeaf K) := ok_leaf DE.F T DD DS DL
  intro d
  induction d with
  | zero =>
    refine D.F.ok scExpr (fun vs H Q E h => ?_) (fun cdv A outer s H vs Q E hr h => ?_)
    · obtain ⟨t, L, nm, rfl, _⟩ := h
      rfl
    obtain ⟨t, L, nm, rfl, ht, hnm, hne, q⟩ := h
    refine ⟨_, pss_cons (ps_set (i := 4) scExpr.nd rfl (.inl rfl) (pe_call GD (hr.mono (by omega)) (by rfl) DD.g DD.F.kp DD.b .nil pass0 (pa_cons (pv 0) (pa_cons pe_int pa_nil))))
      (pss_cons (ps_if (PW.pt (pw_or (pt_cmpR op_lt (pv 2) pe_int (nomark _)) (pw_or1 (pt_cmpR op_gt (pv 4) pe_int (nomark _))))) (pss_one (ps_ret (pe_call GE hr (by rfl) DE.g DE.F.kp DE.b .nil pass0 (pa_cons (pv 0) (pa_cons (pv 1) pa_nil))))) pss_nil) pss_never), ?_⟩
    refine rd_draw (m := 18) rfl ht rfl (by decide) (by decide) fun r H1 b1 t1 hr => ⟨_, rfl, _, 2, rfl, rfl, _, rfl, ?_⟩
    refine iteTe rfl ?_
    exact ⟨.ref t, rfl, .ref nm, rfl, t, L, nm, rfl, t1, hnm.bt b1 hne, hne, fun v e H2 b2 t2 te ge => q v e H2 (b1.trans b2) t2 te ge⟩
  | succ d ih =>
    refine D.F.ok scExpr (fun vs H Q E h => ?_) (fun cdv A outer s H vs Q E hr h => ?_)
    · obtain ⟨t, L, nm, rfl, _⟩ := h
      rfl
    obtain ⟨t, L, nm, rfl, ht, hnm, hne, q⟩ := h
    have hr1 := hr.mono (show 1 ≤ d + 5 by omega)
    have hr4 := hr.mono (show 4 ≤ d + 5 by omega)
    refine ⟨_, pss_cons (ps_set (i := 4) scExpr.nd rfl (.inl rfl) (pe_call GD hr1 (by rfl) DD.g DD.F.kp DD.b .nil pass0 (pa_cons (pv 0) (pa_cons pe_int pa_nil))))
      (pss_cons (ps_if (PW.pt (pw_or (pt_cmpR op_lt (pv 2) pe_int (nomark _)) (pw_or1 (pt_cmpR op_gt (pv 4) pe_int (nomark _))))) (pss_one (ps_ret (pe_call GE hr4 (by rfl) DE.g DE.F.kp DE.b .nil pass0 (pa_cons (pv 0) (pa_cons (pv 1) pa_nil))))) pss_nil)
      (pss_cons (ps_set (i := 5) scExpr.nd rfl (.inl rfl) (pe_call ih hr (by rfl) D.g D.F.kp D.b .nil pass0 (pa_cons (pv 0) (pa_cons (pv 1) (pa_cons (pe_op op_sub (pv 2) pe_int) (pa_cons (pv 3) pa_nil))))))
      (pss_cons (ps_if (pt_cmpR op_lt (pv 4) pe_int (nomark _))
        (pss_cons (ps_set (i := 6) scExpr.nd rfl (.inl rfl) (pe_ix ix_list (pe_lst (pa_cons pe_int (pa_cons pe_int (pa_cons pe_int (pa_cons pe_int (pa_cons pe_int (pa_cons pe_int pa_nil)))))))
          (pe_call GD hr1 (by rfl) DD.g DD.F.kp DD.b .nil pass0 (pa_cons (pv 0) (pa_cons pe_int pa_nil))) (fun _ _ => rfl)))
        (pss_one (ps_ret (pe_tup (pa_cons pe_str (pa_cons (pv 5) (pa_cons (pv 6) (pa_cons
          (pe_ix ix_list (pe_lst (pa_cons pe_int (pa_cons pe_int (pa_cons pe_int (pa_cons pe_int (pa_cons pe_int (pa_cons (pe_op op_pow pe_int pe_int) pa_nil)))))))
            (pe_call GD hr1 (by rfl) DD.g DD.F.kp DD.b .nil pass0 (pa_cons (pv 0) (pa_cons pe_int pa_nil))) (fun _ _ => rfl)) pa_nil)))))))) pss_nil)
      (pss_cons (ps_if (pt_cmpR op_eq (pv 4) pe_int (nomark _)) (pss_one (ps_ret (pe_tup (pa_cons pe_str (pa_cons (pv 5) pa_nil))))) pss_nil)
      (pss_cons (ps_set (i := 7) scExpr.nd rfl (.inl rfl) (pe_call ih hr (by rfl) D.g D.F.kp D.b .nil pass0 (pa_cons (pv 0) (pa_cons (pv 1) (pa_cons (pe_op op_sub (pv 2) pe_int) (pa_cons (pv 3) pa_nil))))))
      (pss_cons (ps_if (pt_cmpR op_lt (pv 4) pe_int (nomark _)) (pss_one (ps_ret (pe_tup (pa_cons pe_str (pa_cons (pv 5) (pa_cons (pv 7) pa_nil)))))) pss_nil)
      (pss_cons (ps_if (pt_cmpR op_lt (pv 4) pe_int (nomark _)) (pss_one (ps_ret (pe_tup (pa_cons (pe_ix ix_list (pe_lst (pa_cons pe_str (pa_cons pe_str (pa_cons pe_str pa_nil)))) (pe_op op_sub (pv 4) pe_int) (fun _ _ => rfl))
        (pa_cons (pv 5) (pa_cons (pv 7) pa_nil)))))) pss_nil)
      (pss_cons (ps_if (PW.pt (pw_and (pt_cmpR op_eq (pv 4) pe_int (nomark _)) (pw_and1 (pt_val (pv 3))))) (pss_one (ps_ret (pe_tup (pa_cons pe_str (pa_cons
        (pe_call GD hr1 (by rfl) DD.g DD.F.kp DD.b .nil pass0 (pa_cons (pv 0) (pa_cons pe_int pa_nil))) (pa_cons (pv 5) (pa_cons (pv 7) pa_nil))))))) pss_nil)
      (pss_one (ps_ret (pe_tup (pa_cons (pe_ix ix_list (pe_lst (pa_cons pe_str (pa_cons pe_str pa_nil))) (pe_op op_mod (pe_callTy call_int1 (by rfl) T.int (by decide +kernel) (pa_cons (pv 4) pa_nil)) pe_int) (fun _ _ => rfl))
        (pa_cons (pv 5) (pa_cons (pv 7) (pa_cons (pe_call ih hr (by rfl) D.g D.F.kp D.b .nil pass0 (pa_cons (pv 0) (pa_cons (pv 1) (pa_cons (pe_op op_sub (pv 2) pe_int) (pa_cons (pv 3) pa_nil))))) pa_nil))))))))))))))), ?_⟩
    refine rd_draw (m := 18) rfl ht rfl (by decide) (by decide) fun r H1 b1 t1 hr => ⟨_, rfl, ((d + 1 + 1 : Nat) : Int), 2, rfl, rfl, _, rfl, ?_⟩
    have ed : ((d + 1 + 1 : Nat) : Int) - 1 = ((d + 1 : Nat) : Int) := by omega
    refine iteFe (decide_eq_false (by omega)) ⟨_, rfl, r, 12, rfl, rfl, _, rfl, ite2 (fun h12 => ?_) fun h12 => ?_⟩
    · exact ⟨.ref t, rfl, .ref nm, rfl, t, L, nm, rfl, t1, hnm.bt b1 hne, hne, fun v e H2 b2 t2 te ge => q v e H2 (b1.trans b2) t2 te (ge.mono (by omega))⟩
    have r12 : r ≤ 12 := by
      have : ¬ (12 : Int) < r := fun z => h12 (decide_eq_true z)
      omega
    -- a call of itself
    have again : ∀ {σ : L2.St} {Hx : Hp} {R : VK}, σ[0]? = some (some (.ref t)) → σ[1]? = some (some (.ref nm)) → σ[2]? = some (some (.int ((d + 1 + 1 : Nat) : Int))) → σ[3]? = some (some (.bl true)) → Bt t H Hx → TapeAt K L Hx t →
        (∀ v (e : Ex Str) H', Bt t Hx H' → TapeAt K L H' t → Tp K H' v (dW e) → Gen (d + 1) e → R v H') →
        tCall (spExpr K (d + 1)) [] E0 (tCons (tVar 0) (tCons (tVar 1) (tCons (tOp (rI0 fun i j => .int (i - j)) (tVar 2) (tC (.int 1))) (tCons (tVar 3) tNil)))) σ Hx R := fun {σ Hx R} s0 s1 s2 s3 bx tx k => by
      refine ⟨.ref t, s0, .ref nm, s1, _, s2, _, 1, rfl, rfl, .bl true, s3, t, L, nm, ?_, tx, hnm.bt bx hne, hne, k⟩
      show [V.ref t, V.ref nm, V.int (((d + 1 + 1 : Nat) : Int) - 1), V.bl true] ++ [] = _
      rw [ed]
      rfl
    refine again rfl rfl rfl rfl b1 t1 fun v0 e0 H2 b2 t2 te0 ge0 => ?_
    have b02 := b1.trans b2
    refine ⟨_, rfl, r, 3, rfl, rfl, _, rfl, ite2 (fun h3 => ?_) fun h3 => ?_⟩
    · refine rd_pick (m := 6) (xs := [.int 0, .int 0, .int 1, .int 2, .int 3, .int 120]) rfl t2 rfl rfl (by decide) (by decide) (fun R h => h) fun r3 y3 H3 hy3 b3 t3 => ?_
      obtain ⟨i, rfl, hi⟩ := small_of (m := 120) hy3 (by decide)
      refine ⟨v0, rfl, _, rfl, ?_⟩
      refine rd_pick (m := 6) (xs := [.int 0, .int 1, .int 2, .int 4, .int 119, .int 1000000000]) rfl t3 rfl rfl (by decide) (by decide) (fun R h => ⟨10, 9, rfl, rfl, by unfold CPow; decide, h⟩) fun r4 y4 H4 hy4 b4 t4 => ?_
      obtain ⟨j, rfl, hj⟩ := small_of (m := 1000000000) hy4 (by decide)
      exact fin_tup (e := .un (.slice i j) e0) q ((b02.trans b3).trans b4) t4 (.cons (.str _) (.cons (te0.mono ((b3.keepT t2).trans (b4.keepT t3))) (.cons (.int _) (.cons (.int _) .nil)))) (gen_slice hi hj ge0)
    have r3' := dec_nat_lt (m := 3) rfl h3
    refine ⟨_, rfl, rfl, _, rfl, ite2 (fun h4 => ?_) fun h4 => ?_⟩
    · exact ⟨v0, rfl, fin_tup (e := .un .dyn e0) q b02 t2 (.cons (.str _) (.cons te0 .nil)) (gen_dyn ge0)⟩
    refine again rfl rfl rfl rfl b02 t2 fun v1 e1 H3 b3 t3 te1 ge1 => ?_
    have b03 := b02.trans b3
    have te0' := te0.mono (b3.keepT t2)
    refine ⟨_, rfl, r, 7, rfl, rfl, _, rfl, ite2 (fun h7 => ?_) fun h7 => ?_⟩
    · exact ⟨v0, rfl, v1, rfl, fin_tup (e := .bin .concat e0 e1) q b03 t3 (.cons (.str _) (.cons te0' (.cons te1 .nil))) (gen_bin trivial ge0 ge1)⟩
    have r7' := dec_nat_lt (m := 7) rfl h7
    refine ⟨_, rfl, r, 10, rfl, rfl, _, rfl, ite2 (fun h10 => ?_) fun h10 => ?_⟩
    · have r10' := dec_nat_lt' (m := 10) rfl h10
      obtain ⟨j', rfl⟩ : ∃ j', r = j' + 7 := ⟨r - 7, by omega⟩
      obtain ⟨kd, hkd, okd⟩ : ∃ kd : BK, ([.str (Str.ofString "find"), .str (Str.ofString "after"), .str (Str.ofString "before")] : List V)[j']? = some (.str (wB kd)) ∧ okB kd ∧ bArgs kd = [] := by
        rcases (show j' = 0 ∨ j' = 1 ∨ j' = 2 by omega) with rfl | rfl | rfl
        · exact ⟨.find, rfl, trivial, rfl⟩
        · exact ⟨.after, rfl, trivial, rfl⟩
        · exact ⟨.before, rfl, trivial, rfl⟩
      refine ⟨line3, fun g ng => ⟨_, rfl, _, 7, rfl, rfl, g, _, (j' : Int), .str (wB kd), rfl, (show V.int (((j' + 7 : Nat) : Int) - 7) = V.int (j' : Int) by congr 1; omega), SqL.of upd_same, atI_nat hkd, v0, rfl, v1, rfl, ?_⟩⟩
      have k6 := keepT_new (o := .lst [.str (Str.ofString "find"), .str (Str.ofString "after"), .str (Str.ofString "before")]) ng
      refine fin_tup (e := .bin kd e0 e1) q (b03.new ng) (t3.new ng) ?_ (gen_bin okd.1 ge0 ge1)
      show Tps K _ _ (.str (wB kd) :: (bArgs kd ++ [dW e0, dW e1]))
      rw [okd.2]
      exact .cons (.str _) (.cons (te0'.mono k6) (.cons (te1.mono k6) .nil))
    refine ⟨_, rfl, rfl, _, rfl, ite2 (fun h11 => ?_) fun h11 => ?_⟩
    · refine ⟨.bl true, rfl, true, rfl, ?_⟩
      refine iteT ?_
      refine rd_draw (m := 3) rfl t3 rfl (by decide) (by decide) fun r4 H4 b4 t4 hr4 => ⟨v0, rfl, v1, rfl, ?_⟩
      have k4 := b4.keepT t3
      exact fin_tup (e := .bin (.coin r4) e0 e1) q (b03.trans b4) t4 (.cons (.str _) (.cons (.int _) (.cons (te0'.mono k4) (.cons (te1.mono k4) .nil)))) (gen_bin hr4 ge0 ge1)
    · refine iteF ?_
      obtain ⟨kd, hkd⟩ : ∃ kd : TK, ([.str (Str.ofString "replace all"), .str (Str.ofString "if")] : List V)[r % 2]? = some (.str (wT kd)) := by
        have : r % 2 < 2 := Nat.mod_lt _ (by decide)
        rcases (show r % 2 = 0 ∨ r % 2 = 1 by omega) with e | e <;> rw [e]
        · exact ⟨.repl, rfl⟩
        · exact ⟨.ite, rfl⟩
      refine ⟨line2, fun g ng => ⟨_, rfl, .inl ⟨r, rfl, r, 2, rfl, rfl, by show (0 : Int) < 2; decide, g, _, (r : Int) % 2, .str (wT kd), rfl, rfl, SqL.of upd_same, atI_nat (j := r % 2) hkd, v0, rfl, v1, rfl, ?_⟩⟩⟩
      have k6 := keepT_new (o := .lst [.str (Str.ofString "replace all"), .str (Str.ofString "if")]) ng
      refine again rfl rfl rfl rfl (b03.new ng) (t3.new ng) fun v2 e2 H5 b5 t5 te2 ge2 => ?_
      have k7 := k6.trans (b5.keepT (t3.new ng))
      exact fin_tup (e := .tri kd e0 e1 e2) q ((b03.new ng).trans b5) t5 (.cons (.str _) (.cons (te0'.mono k7) (.cons (te1.mono k7) (.cons te2 .nil)))) (gen_tri ge0 ge1 ge2)
end
end K12

/-! Walks: _law_marked. -/
namespace K12
open PySem PySem.Spec PyProof.Rows L2
def cdep {α : Type} : Cell α → Nat | .d _ => 0 | .e x => depth x
def cok {α : Type} (P : α → Prop) : Cell α → Prop | .d x => flatD x = true | .e x => Ok P x
theorem cells_ok {α : Type} {P : α → Prop} {e : Ex α} (o : Ok P e) {c : Cell α} (h : c ∈ cells e) : cok P c := by
  cases c with
  | d x => exact cells_flat h
  | e x =>
    cases e with
    | lit t => exact absurd h List.not_mem_nil
    | atom k n => exact absurd h (by simp [cells])
    | un k a =>
      have h' : x = a := by cases k <;> simpa [cells, uArgs] using h
      rw [h']; exact o.2
    | bin k a b =>
      have h' : x = a ∨ x = b := by cases k <;> simpa [cells, bArgs] using h
      rcases h' with rfl | rfl
      · exact o.2.1
      · exact o.2.2
    | tri k a b c =>
      have h' : x = a ∨ x = b ∨ x = c := by simpa [cells] using h
      rcases h' with rfl | rfl | rfl
      · exact o.1
      · exact o.2.1
      · exact o.2.2
theorem cells_dep {α : Type} {e : Ex α} {c : Cell α} {d : Nat} (hd : depth e ≤ d + 1) (h : c ∈ cells e) : cdep c ≤ d := by
  cases c with
  | d x => exact Nat.zero_le _
  | e x =>
    have := cells_depth h
    show depth x ≤ d
    omega
theorem markCs_snoc : ∀ (l : List (Cell Str)) (c : Cell Str) (n : Int), markCs (l ++ [c]) n = ((markCs l n).1 ++ [(markC c (markCs l n).2).1], (markC c (markCs l n).2).2)
  | [], _, _ => rfl
  | a :: r, c, n => by
    show ((markC a n).1 :: (markCs (r ++ [c]) (markC a n).2).1, (markCs (r ++ [c]) (markC a n).2).2) = _
    rw [markCs_snoc r c]
    rfl
section
variable {P : Program} {w : World} {K : PySem.W.Frag} {mg : Str → Option Value} {base : Heap} {dP eE : Addr} {tM : Tok}
/-- isinstance(x, tuple), of a flat datum -/
theorem isi_flat {H : Hp} {v : V} {x : PyData} {Q : VK} (h : Tp K H v x) (f : flatD x = true) (q : Q (.bl false) H) : rIsi K [v, .ty "tuple"] H Q := by
  cases h with
  | int i => exact ⟨_, _, _, _, _, rfl, .ty _, .base (.int i), kit_ty rfl, q⟩
  | str x => exact ⟨_, _, _, _, _, rfl, .ty _, .base (.str x), kit_ty rfl, q⟩
  | tup _ _ => cases f
theorem isi_tup {H : Hp} {a : Addr} {xs : List V} {Q : VK} (h : TT K H a xs) (q : Q (.bl true) H) : rIsi K [.ref a, .ty "tuple"] H Q := by
  rcases h with h | ⟨o, its, n, h1, h2, _⟩
  · exact ⟨_, _, _, _, _, rfl, .ty _, .base (.tup h), kit_ty rfl, q⟩
  · exact ⟨_, _, _, _, _, rfl, .ty _, .kTuple h1 h2, kit_ty rfl, q⟩
theorem rd_isiF {i : Nat} {v : V} {x : PyData} {tb tc u : TS} {D : Ends} {σ : L2.St} {H : Hp} (hσ : σ[i]? = some (some v)) (h : Tp K H v x) (f : flatD x = true) (q : tb { D with nx := u D } σ H) :
    tSeq (tIfS (tNot (tB (tCB (rIsi K) (tCons (tVar i) (tCons (tC (.ty "tuple")) tNil))))) tb tc) u D σ H := by
  refine ⟨v, hσ, ?_⟩
  exact isi_flat (Q := fun x H1 => ∃ c, x = V.bl c ∧ if (!c) = true then tb { D with nx := u D } σ H1 else tc { D with nx := u D } σ H1) h f ⟨false, rfl, iteT q⟩
theorem rd_isiT {i : Nat} {a : Addr} {xs : List V} {tb tc u : TS} {D : Ends} {σ : L2.St} {H : Hp} (hσ : σ[i]? = some (some (.ref a))) (h : TT K H a xs) (q : tc { D with nx := u D } σ H) :
    tSeq (tIfS (tNot (tB (tCB (rIsi K) (tCons (tVar i) (tCons (tC (.ty "tuple")) tNil))))) tb tc) u D σ H := by
  refine ⟨.ref a, hσ, ?_⟩
  exact isi_tup (Q := fun x H1 => ∃ c, x = V.bl c ∧ if (!c) = true then tb { D with nx := u D } σ H1 else tc { D with nx := u D } σ H1) h ⟨true, rfl, iteF q⟩
abbrev nsMarked : List Str := ["_law_part", "_law_change", "_law_count"]
abbrev NMarked : List Str := ["_law_part", "_law_change", "_law_count", "_law_first", "_law_inner"]
theorem scMarked : FnScope NMarked nsMarked (defScope sMarked) := ⟨rfl, rfl, rfl, by decide +kernel, rfl, by decide +kernel, by decide +kernel⟩
def spMarked (K : PySem.W.Frag) (d : Nat) : Sp := fun vs H Q _ => ∃ (v : V) (cl : Cell Str) (c : Addr) (n : Int), vs = [v, .int 1, .ref c] ∧ H c = some (.lst [.int n]) ∧ Tp K H v (cdata dW cl) ∧ cok okW cl ∧ cdep cl ≤ d ∧
  ∀ v' H', Bt c H H' → H' c = some (.lst [.int (markC cl n).2]) → Tp K H' v' (markC cl n).1 → Q v' H'
theorem ok_marked {f fS : Addr} {fd fdS : FuncData} (D : Dfn K mg "_law_marked" sMarked nsMarked f fd) (T : Txt K w mg dP eE tM)
    (DS : Dfn K mg "_law_stamped" sStamped ["_law_string_here", "_law_change", "_law_start"] fS fdS) :
    ∀ d : Nat, FnOk P w K mg base CX0 (d + 2) f fd nsMarked (spMarked K d) := by
  have GS : FnOk P w K mg base CX0 1 fS fdS ["_law_string_here", "_law_change", "_law_start"] (spStamped K) := ok_stamped (k := 0) DS.F T
  intro d
  induction d with
  | zero =>
    refine D.F.ok scMarked (fun vs H Q E h => ?_) (fun cdv A outer s H vs Q E hr h => ?_)
    · obtain ⟨v, cl, c, n, rfl, _⟩ := h
      rfl
    obtain ⟨v, cl, c, n, rfl, hc, tv, ok, dp, q⟩ := h
    refine ⟨_, pss_cons (ps_if (pt_not (pt_val (pe_callB call_isi (by rfl) T.isinstance (by decide +kernel) (pa_cons (pv 0) (pa_cons (pe_bltn (v := .ty "tuple") (by rfl) T.tuple (by decide +kernel) rfl) pa_nil)))))
      (pss_one (ps_ret (pv 0))) pss_nil) pss_never, ?_⟩
    cases cl with
    | d x => exact rd_isiF rfl tv ok ⟨v, rfl, q v H (Bt.refl _ _) hc tv⟩
    | e x =>
      have h1 : depth x ≤ 0 := dp
      have := depth_pos x
      omega
  | succ d ih =>
    refine D.F.ok scMarked (fun vs H Q E h => ?_) (fun cdv A outer s H vs Q E hr h => ?_)
    · obtain ⟨v, cl, c, n, rfl, _⟩ := h
      rfl
    obtain ⟨v, cl, c, n, rfl, hc, tv, ok, dp, q⟩ := h
    have hr1 := hr.mono (show 1 ≤ d + 2 by omega)
    refine ⟨_, pss_cons (ps_if (pt_not (pt_val (pe_callB call_isi (by rfl) T.isinstance (by decide +kernel) (pa_cons (pv 0) (pa_cons (pe_bltn (v := .ty "tuple") (by rfl) T.tuple (by decide +kernel) rfl) pa_nil)))))
      (pss_one (ps_ret (pv 0))) pss_nil)
      (pss_cons (ps_if (pt_cmpR op_eq (pe_ix ix_tup (pv 0) pe_int (fun _ _ => rfl)) pe_str (nomark _))
        (pss_cons (ps_set (i := 3) scMarked.nd rfl (.inl rfl) (pe_ix ix_list (pv 2) pe_int (fun _ _ => rfl)))
        (pss_cons (ps_asg (pe_op op_add (pv 3) (pe_callB call_len_str (by rfl) T.len PySem.boot_len (pa_cons (pe_ix ix_tup (pv 0) pe_int (fun _ _ => rfl)) pa_nil))) (pg_sub (pv 2) pe_int set_list))
        (pss_one (ps_ret (pe_tup (pa_cons pe_str (pa_cons (pe_call GS hr1 (by rfl) DS.g DS.F.kp DS.b .nil pass0 (pa_cons (pe_ix ix_tup (pv 0) pe_int (fun _ _ => rfl)) (pa_cons (pv 1) (pa_cons (pv 3) pa_nil)))) pa_nil))))))) pss_nil)
      (pss_one (ps_ret (pe_callTy call_tuple_of (by rfl) T.tuple (by decide +kernel) (pa_cons
        (pe_lc (own := [("_law_inner", 4)]) (g := gName 4) (tt := tYes) rfl scMarked.nd (pi_tup (pv 0))
          (blkOk_by (N := NMarked) (sc := defScope sMarked) (by decide +kernel))
          (fun _ _ _ _ _ => pg_name (i := 4) scMarked.nd rfl (Or.inl rfl)) (fun _ _ _ _ _ => pts_nil)
          (fun _ _ _ _ _ => pe_call ih hr (by rfl) D.g D.F.kp D.b .nil pass0 (pa_cons (pv 4) (pa_cons (pv 1) (pa_cons (pv 2) pa_nil))))) pa_nil))))), ?_⟩
    cases cl with
    | d x => exact rd_isiF rfl tv ok ⟨v, rfl, q v H (Bt.refl _ _) hc tv⟩
    | e x =>
      have tv0 : Tp K H v (dW x) := tv
      have ok0 : Ok okW x := ok
      have dp0 : depth x ≤ d + 1 := dp
      obtain ⟨a, xs, rfl, ta, tx⟩ := tv0.ex_inv
      refine rd_isiT rfl ta ?_
      refine ⟨.ref a, rfl, a, xs, 0, .str (word x), rfl, rfl, ta.sq, atI_nat (j := 0) tx.head, rfl, _, rfl, ?_⟩
      cases hx : isL x with
      | true =>
        cases x with
        | lit s =>
          obtain ⟨v1, h1, t1⟩ := tx.get (i := 1) (d := .str s) rfl
          have e1 := t1.str_inv
          subst e1
          have ls : s.length ≤ 61 := ok0.1
          refine iteTe (dec_w (show decide (wL = Str.ofString "literal") = true by decide +kernel)) ?_
          refine ⟨.ref c, rfl, c, _, 0, .int n, rfl, rfl, SqL.of hc, atI_nat (j := 0) rfl, ?_⟩
          refine ⟨.int n, rfl, .ref a, rfl, a, xs, 1, .str s, rfl, rfl, ta.sq, atI_nat (j := 1) h1, s, rfl, le_line (by omega), n, s.length, rfl, rfl, ?_⟩
          refine ⟨.ref c, rfl, c, _, 0, 0, rfl, rfl, hc, rfl, ?_⟩
          have kt : KeepT H (upd H c (.lst [.int (n + s.length)])) := keepT_lst hc
          have bt : Bt c H (upd H c (.lst [.int (n + s.length)])) := (Bt.refl c H).put
          have ta1 := ta.keep kt
          refine ⟨.ref a, rfl, a, xs, 1, .str s, rfl, rfl, ta1.sq, atI_nat (j := 1) h1, .int 1, rfl, .int n, rfl, s, n, rfl, by omega, fun H2 p ys sm tp typ => ?_⟩
          refine ⟨line2, fun g ng => ?_⟩
          refine q (.ref g) _ ((bt.trans (.of sm)).new ng) ?_ ?_
          · exact (same_new ng) c _ (sm c _ upd_same)
          · show Tp K _ (.ref g) (dS (.lit (stampS s n)))
            exact Tp.ex (xs := [.str wL, .ref p]) (.inl upd_same) (.cons (.str _) (.cons (.tup (tp.keep (keepT_new ng)) (typ.mono (keepT_new ng))) .nil))
        | atom k y => cases hx
        | un k y => cases hx
        | bin k y z => cases hx
        | tri k y z u => cases hx
      | false =>
        have hw : word x ≠ wL := fun z => by
          rw [(word_lit x).mp z] at hx
          cases hx
        refine iteFe (decide_eq_false fun z => hw (V.str.inj z)) ?_
        have cs : ds PyData.str dW x = (cells x).map (cdata dW) := cells_ds _ _ hx
        rw [cs] at tx
        have lx : xs.length = (cells x).length := by rw [tx.len, List.length_map]
        have l4 : xs.length ≤ 4 := by
          rw [tx.len, ← cs]
          exact (ds_length _ _ x).2
        refine ⟨.ref a, rfl, a, rfl, ⟨xs, ta.sq⟩, fun D nD => ?_⟩
        have hDc : D ≠ c := fun z => by rw [z, hc] at nD; cases nD
        refine lc_tup (xs := xs) (fun i H' => Bt c H H' ∧ H' c = some (.lst [.int (markCs ((cells x).take i) n).2]) ∧ ∃ ys, H' D = some (.lst ys) ∧ ys.length = i ∧ Tps K H' ys (markCs ((cells x).take i) n).1)
          ⟨Bt.of (same_new nD), (same_new nD) c _ hc, [], upd_same, rfl, .nil⟩ (fun i H2 hi hP => ?_) (fun i v H2 hv hP => ?_) (fun H2 hP => ?_)
        · exact (ta.keep (hP.1.keep hc)).sq
        · obtain ⟨bt, hc2, ys, hD, ly, ty⟩ := hP
          obtain ⟨dd, hdd, tv2⟩ := tx.get' hv
          rw [List.getElem?_map] at hdd
          obtain ⟨cl, hcl, rfl⟩ := Option.map_eq_some_iff.mp hdd
          have hm := List.mem_of_getElem? hcl
          refine ⟨rfl, v, rfl, .int 1, rfl, .ref c, rfl, v, cl, c, _, rfl, hc2, tv2.mono (bt.keep hc), cells_ok ok0 hm, cells_dep dp0 hm, fun v' H3 b3 hc3 tv3 => ?_⟩
          have hD3 := b3 D _ hDc hD
          have hi : i < xs.length := by
            have := List.getElem?_eq_some_iff.mp hv
            exact this.1
          have k3 : KeepT H3 (upd H3 D (.lst (ys ++ [v']))) := keepT_lst hD3
          refine ⟨ys, hD3, small_le (by omega), ?_, ?_, ys ++ [v'], upd_same, by rw [List.length_append, ly]; rfl, ?_⟩
          · intro b o nb e
            have hb : b ≠ D := fun z => by rw [z, nD] at e; cases e
            rw [upd_ne hb]
            exact (bt.trans b3) b o nb e
          · rw [upd_ne (Ne.symm hDc), List.take_add_one, hcl, Option.toList_some, markCs_snoc]
            exact hc3
          · rw [List.take_add_one, hcl, Option.toList_some, markCs_snoc]
            exact ((ty.mono (b3.keep hc2)).mono k3).app (.one (tv3.mono k3))
        · obtain ⟨bt, hc2, ys, hD, ly, ty⟩ := hP
          rw [lx, List.take_length, mark_cells hx] at hc2 ty
          refine ⟨D, ys, rfl, .inl ⟨SqL.of hD, fun l nl => ?_⟩⟩
          exact q (.ref l) _ (bt.new nl) ((same_new nl) c _ hc2) (Tp.ex (.inl upd_same) (ty.mono (keepT_new nl)))
end
end K12

/-! Walks: _law_visited, _law_depth. -/
namespace K12
open PySem PySem.Spec PyProof.Rows L2
theorem vis_len {α : Type} (e : Ex α) (i : Nat) : (e :: ((cells e).tail.take i).flatMap csubs).length ≤ (subs e).length := by
  rw [subs_cells e, List.length_cons, List.length_cons]
  have h := congrArg List.length (congrArg (List.flatMap csubs) (List.take_append_drop i (cells e).tail))
  rw [List.flatMap_append, List.length_append] at h
  omega
theorem vis_succ {α : Type} {e : Ex α} {i : Nat} {c : Cell α} (h : (cells e).tail[i]? = some c) : e :: ((cells e).tail.take (i + 1)).flatMap csubs = (e :: ((cells e).tail.take i).flatMap csubs) ++ csubs c := by
  rw [List.take_add_one, h, Option.toList_some, List.flatMap_append, List.cons_append]
  simp
theorem tail_mem {α : Type} {e : Ex α} {i : Nat} {c : Cell α} (h : (cells e).tail[i]? = some c) : c ∈ cells e := List.mem_of_mem_tail (List.mem_of_getElem? h)
theorem dep_succ {α : Type} {e : Ex α} {i : Nat} {c : Cell α} (h : (cells e).tail[i]? = some c) : ((cells e).tail.take (i + 1)).foldl cmax 0 = cmax (((cells e).tail.take i).foldl cmax 0) c := by
  rw [List.take_add_one, h, Option.toList_some, List.foldl_append]
  rfl
section
variable {P : Program} {w : World} {K : PySem.W.Frag} {mg : Str → Option Value} {base : Heap} {dP eE : Addr} {tM : Tok}
theorem rd_isiF1 {i : Nat} {v : V} {x : PyData} {tb tc : TS} {D : Ends} {σ : L2.St} {H : Hp} (hσ : σ[i]? = some (some v)) (h : Tp K H v x) (f : flatD x = true) (q : tc D σ H) :
    tIfS (tB (tCB (rIsi K) (tCons (tVar i) (tCons (tC (.ty "tuple")) tNil)))) tb tc D σ H := by
  refine ⟨v, hσ, ?_⟩
  exact isi_flat (Q := fun x H1 => ∃ c, x = V.bl c ∧ if c = true then tb D σ H1 else tc D σ H1) h f ⟨false, rfl, iteF q⟩
theorem rd_isiT1 {i : Nat} {a : Addr} {xs : List V} {tb tc : TS} {D : Ends} {σ : L2.St} {H : Hp} (hσ : σ[i]? = some (some (.ref a))) (h : TT K H a xs) (q : tb D σ H) :
    tIfS (tB (tCB (rIsi K) (tCons (tVar i) (tCons (tC (.ty "tuple")) tNil)))) tb tc D σ H := by
  refine ⟨.ref a, hσ, ?_⟩
  exact isi_tup (Q := fun x H1 => ∃ c, x = V.bl c ∧ if c = true then tb D σ H1 else tc D σ H1) h ⟨true, rfl, iteT q⟩
/-- part[1:] -/
theorem tail_ne {xs : List V} {z : Nat} (h : 1 ≤ xs.length) : ¬ (HT.sIx xs.length 0 (some 1) = 0 ∧ HT.sIx xs.length xs.length none = z) := fun hw => by
  have := hw.1
  rw [show (1 : Int) = ((1 : Nat) : Int) from rfl, HT.sIx_nat] at this
  omega
theorem tail_cut {xs : List V} (h : 1 ≤ xs.length) : cutV xs (some 1) none = xs.drop 1 := cutV_from (p := 1) xs h

/-! ### _law_visited -/
theorem scVisited : FnScope ["_law_part", "_law_found", "_law_inner"] ["_law_part"] (defScope sVisited) := ⟨rfl, rfl, rfl, by decide +kernel, rfl, by decide +kernel, by decide +kernel⟩
def spVisited (K : PySem.W.Frag) (d : Nat) : Sp := fun vs H Q _ => ∃ v, ∃ e : Ex Tx, vs = [v] ∧ Tp K H v (dS e) ∧ depth e ≤ d ∧ depth e ≤ 4 ∧
  ∀ H' o xs, Same H H' → H' o = some (.lst xs) → Tps K H' xs ((subs e).map dS) → Q (.ref o) H'
theorem ok_visited {f : Addr} {fd : FuncData} (D : Dfn K mg "_law_visited" sVisited ["_law_part"] f fd) (T : Txt K w mg dP eE tM) :
    ∀ d : Nat, FnOk P w K mg base CX0 (d + 1) f fd ["_law_part"] (spVisited K d) := by
  intro d
  induction d with
  | zero =>
    refine D.F.ok scVisited (fun vs H Q E h => ?_) (fun cdv A outer s H vs Q E hr h => ?_)
    · obtain ⟨v, e, rfl, _⟩ := h
      rfl
    · obtain ⟨v, e, rfl, _, hd, _⟩ := h
      have := depth_pos e
      omega
  | succ d ih =>
    refine D.F.ok scVisited (fun vs H Q E h => ?_) (fun cdv A outer s H vs Q E hr h => ?_)
    · obtain ⟨v, e, rfl, _⟩ := h
      rfl
    obtain ⟨v, e, rfl, te, hd, h4, q⟩ := h
    have te0 := te
    obtain ⟨a, xs, rfl, ta, tx⟩ := te.ex_inv
    refine ⟨_, pss_cons (ps_set (i := 1) scVisited.nd rfl (.inl rfl) (pe_lst (pa_cons (pv 0) pa_nil)))
      (C8.pss_cut (ps_if (pt_cmpR op_ne (pe_ix ix_tup (pv 0) pe_int (fun _ _ => rfl)) pe_str (nomark _))
        (pss_one (ps_for PassesOwn.never rfl (pi_tup (pe_slice sl_tupA (pv 0) (po_some pe_int) po_none)) (pg_name (i := 2) scVisited.nd rfl (.inl rfl))
          (pss_one (ps_if (pt_val (pe_callB call_isi (by rfl) T.isinstance (by decide +kernel) (pa_cons (pv 2) (pa_cons (pe_bltn (v := .ty "tuple") (by rfl) T.tuple (by decide +kernel) rfl) pa_nil))))
            (pss_one (ps_set (i := 1) scVisited.nd rfl (.inl rfl) (pe_op op_cat (pv 1) (pe_call ih hr (by rfl) D.g D.F.kp D.b .nil pass0 (pa_cons (pv 2) pa_nil))))) pss_nil)))) pss_nil)
      (pss_one (ps_ret (pv 1)))), ?_⟩
    refine ⟨.ref a, rfl, line1, fun o no => ?_⟩
    have ta1 := ta.keep (keepT_new (o := .lst [.ref a]) no)
    refine ⟨fun σ H' => ∃ o ys y, σ = [some (.ref a), some (.ref o), y] ∧ Same H H' ∧ H' o = some (.lst ys) ∧ Tps K H' ys ((subs e).map dS), ?_, ?_⟩
    · refine ⟨.ref a, rfl, a, xs, 0, .str (word e), rfl, rfl, ta1.sq, atI_nat (j := 0) tx.head, rfl, _, rfl, ?_⟩
      have t0 : Tps K (upd H o (.lst [.ref a])) [.ref a] [dS e] := .one (te0.mono (keepT_new no))
      cases hx : isL e with
      | true =>
        refine iteFe ?_ ?_
        · show (!decide (V.str (word e) = V.str wL)) = false
          rw [(word_lit e).mpr hx, decide_eq_true rfl]
          rfl
        · refine ⟨o, [.ref a], none, rfl, same_new no, upd_same, ?_⟩
          cases e with
          | lit t => exact t0
          | atom k y => cases hx
          | un k y => cases hx
          | bin k y z => cases hx
          | tri k y z u => cases hx
      | false =>
        refine iteTe ?_ ?_
        · have hw : word e ≠ wL := fun z => by
            rw [(word_lit e).mp z] at hx
            cases hx
          show (!decide (V.str (word e) = V.str wL)) = true
          rw [decide_eq_false fun z => hw (V.str.inj z)]
          rfl
        have cs : ds txData dS e = (cells e).map (cdata dS) := cells_ds _ _ hx
        have lx1 : 1 ≤ xs.length := by
          rw [tx.len]
          exact Nat.le_trans (by decide) (ds_length txData dS e).1
        have ec := tail_cut lx1
        refine ⟨.ref a, rfl, 1, rfl, a, xs, rfl, ta1.sq, fun hw => absurd hw (tail_ne lx1), fun hw g ng => ?_⟩
        rw [ec]
        have hog : o ≠ g := fun z => by rw [← z, upd_same] at ng; cases ng
        have hx1 : Tps K (upd (upd H o (.lst [.ref a])) g (.tup (xs.drop 1))) (xs.drop 1) ((cells e).tail.map (cdata dS)) := by
          have := (tx.mono ((keepT_new (o := .lst [.ref a]) no).trans (keepT_new (o := .tup (xs.drop 1)) ng))).drop 1
          rw [cs, ← List.map_drop] at this
          rw [← List.drop_one]
          exact this
        refine ⟨g, rfl, ⟨_, SqT.of upd_same⟩, for_tup (xs := xs.drop 1) (fun i σ H' => ∃ o ys y, σ = [some (.ref a), some (.ref o), y] ∧ Same H H' ∧ H' g = some (.tup (xs.drop 1)) ∧ Tps K H' (xs.drop 1) ((cells e).tail.map (cdata dS)) ∧
            H' o = some (.lst ys) ∧ Tps K H' ys ((e :: ((cells e).tail.take i).flatMap csubs).map dS))
          ⟨o, [.ref a], none, rfl, sameNew (same_new no) ng, upd_same, hx1, by rw [upd_ne hog, upd_same], t0.mono (keepT_new ng)⟩ (fun i σ H2 _ hP => ?_) (fun i v σ H2 hv hP => ?_) (fun σ H2 hP => ?_)⟩
        · obtain ⟨_, _, _, _, _, hg, _⟩ := hP
          exact SqT.of hg
        · obtain ⟨o2, ys, y, rfl, sm, hg, hxs, ho, ty⟩ := hP
          obtain ⟨dd, hdd, tv⟩ := hxs.get' hv
          rw [List.getElem?_map] at hdd
          obtain ⟨cl, hcl, rfl⟩ := Option.map_eq_some_iff.mp hdd
          have hm := tail_mem hcl
          have hdp := cells_dep hd hm
          dsimp only [gName]
          cases cl with
          | d x =>
            refine rd_isiF1 rfl tv (cells_flat hm) ?_
            refine ⟨o2, ys, _, rfl, sm, hg, hxs, ho, ?_⟩
            rw [vis_succ hcl]
            show Tps K H2 ys ((_ ++ []).map dS)
            rw [List.append_nil]
            exact ty
          | e x =>
            have hdx : depth x ≤ d := hdp
            have tvx : Tp K H2 v (dS x) := tv
            obtain ⟨b, zs, rfl, tb, _⟩ := tvx.ex_inv
            refine rd_isiT1 rfl tb ?_
            have hx4 := cells_depth hm
            refine ⟨.ref o2, rfl, .ref b, rfl, .ref b, x, rfl, tvx, hdx, by omega, fun H3 p ws sm3 hp tw => ?_⟩
            have hos := sm3 _ _ ho
            have ln : ys.length + ws.length ≤ 40 := by
              have h1 := (ty.mono (keepT_same sm3)).app tw
              have h2 := h1.len
              rw [List.length_append, ← List.map_append, List.length_map] at h2
              have h3 := vis_len e (i + 1)
              rw [vis_succ hcl] at h3
              have h3' : ((e :: ((cells e).tail.take i).flatMap csubs) ++ subs x).length ≤ (subs e).length := h3
              have h5 := subs_length e
              have h6 := size40 h4
              omega
            refine ⟨o2, p, ys, ws, rfl, rfl, hos, hp, le_line (by omega), fun u nu => ?_⟩
            have k3 := keepT_same sm3
            have k4 := keepT_new (o := .lst (ys ++ ws)) nu
            refine ⟨u, ys ++ ws, _, rfl, sameNew (sm.trans sm3) nu, same_new nu g _ (sm3 _ _ hg), hxs.mono (k3.trans k4), upd_same, ?_⟩
            rw [vis_succ hcl, List.map_append]
            exact (ty.mono (k3.trans k4)).app (tw.mono k4)
        · obtain ⟨o2, ys, y, rfl, sm, hg, hxs, ho, ty⟩ := hP
          refine ⟨o2, ys, y, rfl, sm, ho, ?_⟩
          have ll : (xs.drop 1).length = (cells e).tail.length := by rw [hxs.len, List.length_map]
          rw [ll, List.take_length, ← subs_cells] at ty
          exact ty
    · rintro σ' H1 ⟨o2, ys, y, rfl, sm, ho, ty⟩
      exact ⟨.ref o2, rfl, q H1 o2 ys sm ho ty⟩

/-! ### _law_depth -/
theorem scDepth : FnScope ["_law_part", "_law_depth_here", "_law_inner"] ["_law_part"] (defScope sDepth) := ⟨rfl, rfl, rfl, by decide +kernel, rfl, by decide +kernel, by decide +kernel⟩
def spDepth (K : PySem.W.Frag) (d : Nat) : Sp := fun vs H Q _ => ∃ v, ∃ e : Ex Tx, vs = [v] ∧ Tp K H v (dS e) ∧ depth e ≤ d ∧ ∀ H', Same H H' → Q (.int (depth e)) H'
theorem ok_depth {f : Addr} {fd : FuncData} (D : Dfn K mg "_law_depth" sDepth ["_law_part"] f fd) (T : Txt K w mg dP eE tM) :
    ∀ d : Nat, FnOk P w K mg base CX0 (d + 1) f fd ["_law_part"] (spDepth K d) := by
  intro d
  induction d with
  | zero =>
    refine D.F.ok scDepth (fun vs H Q E h => ?_) (fun cdv A outer s H vs Q E hr h => ?_)
    · obtain ⟨v, e, rfl, _⟩ := h
      rfl
    · obtain ⟨v, e, rfl, _, hd, _⟩ := h
      have := depth_pos e
      omega
  | succ d ih =>
    refine D.F.ok scDepth (fun vs H Q E h => ?_) (fun cdv A outer s H vs Q E hr h => ?_)
    · obtain ⟨v, e, rfl, _⟩ := h
      rfl
    obtain ⟨v, e, rfl, te, hd, q⟩ := h
    obtain ⟨a, xs, rfl, ta, tx⟩ := te.ex_inv
    refine ⟨_, pss_cons (ps_set (i := 1) scDepth.nd rfl (.inl rfl) pe_int)
      (C8.pss_cut (ps_if (pt_cmpR op_ne (pe_ix ix_tup (pv 0) pe_int (fun _ _ => rfl)) pe_str (nomark _))
        (pss_one (ps_for PassesOwn.never rfl (pi_tup (pe_slice sl_tupA (pv 0) (po_some pe_int) po_none)) (pg_name (i := 2) scDepth.nd rfl (.inl rfl))
          (pss_one (ps_if (pt_val (pe_callB call_isi (by rfl) T.isinstance (by decide +kernel) (pa_cons (pv 2) (pa_cons (pe_bltn (v := .ty "tuple") (by rfl) T.tuple (by decide +kernel) rfl) pa_nil))))
            (pss_one (ps_set (i := 1) scDepth.nd rfl (.inl rfl) (pe_callB (call_max2 rfl) (by rfl) T.max (by decide +kernel) (pa_cons (pv 1) (pa_cons (pe_call ih hr (by rfl) D.g D.F.kp D.b .nil pass0 (pa_cons (pv 2) pa_nil)) pa_nil))))) pss_nil)))) pss_nil)
      (pss_one (ps_ret (pe_op op_add (pv 1) pe_int)))), ?_⟩
    refine rd_setC ?_
    refine ⟨fun σ H' => ∃ y, σ = [some (.ref a), some (.int ((cells e).tail.foldl cmax 0 : Nat)), y] ∧ Same H H', ?_, ?_⟩
    · refine ⟨.ref a, rfl, a, xs, 0, .str (word e), rfl, rfl, ta.sq, atI_nat (j := 0) tx.head, rfl, _, rfl, ?_⟩
      cases hx : isL e with
      | true =>
        refine iteFe ?_ ?_
        · show (!decide (V.str (word e) = V.str wL)) = false
          rw [(word_lit e).mpr hx, decide_eq_true rfl]
          rfl
        · refine ⟨none, ?_, fun _ _ h => h⟩
          cases e with
          | lit t => rfl
          | atom k y => cases hx
          | un k y => cases hx
          | bin k y z => cases hx
          | tri k y z u => cases hx
      | false =>
        refine iteTe ?_ ?_
        · have hw : word e ≠ wL := fun z => by
            rw [(word_lit e).mp z] at hx
            cases hx
          show (!decide (V.str (word e) = V.str wL)) = true
          rw [decide_eq_false fun z => hw (V.str.inj z)]
          rfl
        have cs : ds txData dS e = (cells e).map (cdata dS) := cells_ds _ _ hx
        have lx1 : 1 ≤ xs.length := by
          rw [tx.len]
          exact Nat.le_trans (by decide) (ds_length txData dS e).1
        have ec := tail_cut lx1
        refine ⟨.ref a, rfl, 1, rfl, a, xs, rfl, ta.sq, fun hw => absurd hw (tail_ne lx1), fun hw g ng => ?_⟩
        rw [ec]
        have hx1 : Tps K (upd H g (.tup (xs.drop 1))) (xs.drop 1) ((cells e).tail.map (cdata dS)) := by
          have := (tx.mono (keepT_new (o := .tup (xs.drop 1)) ng)).drop 1
          rw [cs, ← List.map_drop] at this
          rw [← List.drop_one]
          exact this
        refine ⟨g, rfl, ⟨_, SqT.of upd_same⟩, for_tup (xs := xs.drop 1) (fun i σ H' => ∃ y, σ = [some (.ref a), some (.int (((cells e).tail.take i).foldl cmax 0 : Nat)), y] ∧ Same H H' ∧ H' g = some (.tup (xs.drop 1)) ∧ Tps K H' (xs.drop 1) ((cells e).tail.map (cdata dS)))
          ⟨none, rfl, same_new ng, upd_same, hx1⟩ (fun i σ H2 _ hP => ?_) (fun i v σ H2 hv hP => ?_) (fun σ H2 hP => ?_)⟩
        · obtain ⟨_, _, _, hg, _⟩ := hP
          exact SqT.of hg
        · obtain ⟨y, rfl, sm, hg, hxs⟩ := hP
          obtain ⟨dd, hdd, tv⟩ := hxs.get' hv
          rw [List.getElem?_map] at hdd
          obtain ⟨cl, hcl, rfl⟩ := Option.map_eq_some_iff.mp hdd
          have hm := tail_mem hcl
          have hdp := cells_dep hd hm
          dsimp only [gName]
          cases cl with
          | d x =>
            refine rd_isiF1 rfl tv (cells_flat hm) ?_
            refine ⟨some v, ?_, sm, hg, hxs⟩
            rw [dep_succ hcl]
            rfl
          | e x =>
            have hdx : depth x ≤ d := hdp
            have tvx : Tp K H2 v (dS x) := tv
            obtain ⟨b, zs, rfl, tb, _⟩ := tvx.ex_inv
            refine rd_isiT1 rfl tb ?_
            refine ⟨_, rfl, .ref b, rfl, .ref b, x, rfl, tvx, hdx, fun H3 sm3 => ⟨_, _, rfl, ?_⟩⟩
            refine ⟨some (.ref b), ?_, sm.trans sm3, sm3 _ _ hg, hxs.mono (keepT_same sm3)⟩
            rw [dep_succ hcl]
            generalize ((cells e).tail.take i).foldl cmax 0 = m
            have em : (if (depth x : Int) > (m : Int) then (depth x : Int) else (m : Int)) = ((max m (depth x) : Nat) : Int) := by
              split <;> omega
            rw [em]
            rfl
        · obtain ⟨y, rfl, sm, hg, hxs⟩ := hP
          refine ⟨y, ?_, sm⟩
          have ll : (xs.drop 1).length = (cells e).tail.length := by rw [hxs.len, List.length_map]
          rw [ll, List.take_length]
    · rintro σ' H1 ⟨y, rfl, sm⟩
      refine ⟨_, rfl, _, 1, rfl, rfl, ?_⟩
      have := q H1 sm
      rw [depth_cells] at this
      exact this
end
end K12

/-! Walks: _law_letters, _law_targets. -/
namespace K12
open PySem PySem.Spec PyProof.Rows L2
theorem lt_len {l : List (Ex Tx)} (h : ∀ x ∈ l, (ltOf x).length ≤ 120) : (l.flatMap ltOf).length ≤ 120 * l.length := by
  induction l with
  | nil => exact Nat.le_refl _
  | cons x r ih =>
    have h1 := ih fun y hy => h y (List.mem_cons_of_mem _ hy)
    have h2 := h x List.mem_cons_self
    rw [List.flatMap_cons, List.length_append, List.length_cons]
    omega
theorem lt_one {e x : Ex Tx} (f : Fine e) (h : x ∈ subs e) : (ltOf x).length ≤ 120 := by
  have := f.lits x h
  cases x with
  | lit t => exact this.1
  | atom k n => exact Nat.zero_le _
  | un k a => exact Nat.zero_le _
  | bin k a b => exact Nat.zero_le _
  | tri k a b c => exact Nat.zero_le _
theorem lt_take {e : Ex Tx} (f : Fine e) (i : Nat) : (((subs e).take i).flatMap ltOf).length ≤ 4800 := by
  have h1 := lt_len (l := (subs e).take i) fun x hx => lt_one f (List.mem_of_mem_take hx)
  have h2 := subs_length e
  have h3 := size40 f.dp
  have h4 := List.length_take_le i (subs e)
  have h5 : ((subs e).take i).length ≤ (subs e).length := by
    rw [List.length_take]
    exact Nat.min_le_right _ _
  omega
theorem take_flat {α β : Type} {l : List α} {f : α → List β} {i : Nat} {x : α} (h : l[i]? = some x) : (l.take (i + 1)).flatMap f = (l.take i).flatMap f ++ f x := by
  rw [List.take_add_one, h, Option.toList_some, List.flatMap_append]
  simp
theorem word_target {α : Type} (x : Ex α) : (∃ n, x = .atom .target n) ∨ (word x ≠ Str.ofString "target" ∧ tgOf x = []) := by
  cases x with
  | lit t => exact .inr ⟨by show wL ≠ Str.ofString "target"; decide +kernel, rfl⟩
  | atom k n =>
    cases k with
    | target => exact .inl ⟨n, rfl⟩
    | file => exact .inr ⟨by show wA .file ≠ Str.ofString "target"; decide +kernel, rfl⟩
    | ofile => exact .inr ⟨by show wA .ofile ≠ Str.ofString "target"; decide +kernel, rfl⟩
    | cfiles => exact .inr ⟨by show wA .cfiles ≠ Str.ofString "target"; decide +kernel, rfl⟩
  | un k a =>
    cases k with
    | slice i j => exact .inr ⟨by show Str.ofString "slice" ≠ Str.ofString "target"; decide +kernel, rfl⟩
    | dyn => exact .inr ⟨by show wU .dyn ≠ Str.ofString "target"; decide +kernel, rfl⟩
  | bin k a b =>
    cases k with
    | concat => exact .inr ⟨by show wB .concat ≠ Str.ofString "target"; decide +kernel, rfl⟩
    | find => exact .inr ⟨by show wB .find ≠ Str.ofString "target"; decide +kernel, rfl⟩
    | after => exact .inr ⟨by show wB .after ≠ Str.ofString "target"; decide +kernel, rfl⟩
    | before => exact .inr ⟨by show wB .before ≠ Str.ofString "target"; decide +kernel, rfl⟩
    | coin c => exact .inr ⟨by show Str.ofString "coin" ≠ Str.ofString "target"; decide +kernel, rfl⟩
  | tri k a b c =>
    cases k with
    | repl => exact .inr ⟨by show wT .repl ≠ Str.ofString "target"; decide +kernel, rfl⟩
    | ite => exact .inr ⟨by show wT .ite ≠ Str.ofString "target"; decide +kernel, rfl⟩
theorem ltOf_nl {x : Ex Tx} (h : isL x = false) : ltOf x = [] := by
  cases x with
  | lit t => cases h
  | atom k n => rfl
  | un k a => rfl
  | bin k a b => rfl
  | tri k a b c => rfl
section
variable {P : Program} {w : World} {K : PySem.W.Frag} {mg : Str → Option Value} {base : Heap} {dP eE : Addr} {tM : Tok}
theorem scLetters : FnScope ["_law_part", "_law_letters_here", "_law_inner"] ["_law_part"] (defScope sLetters) := ⟨rfl, rfl, rfl, by decide +kernel, rfl, by decide +kernel, by decide +kernel⟩
def spLetters (K : PySem.W.Frag) : Sp := fun vs H Q _ => ∃ v, ∃ e : Ex Tx, vs = [v] ∧ Tp K H v (dS e) ∧ Fine e ∧
  ∀ H' o xs, Same H H' → H' o = some (.lst xs) → Tps K H' xs ((letters e).map chData) → Q (.ref o) H'
theorem ok_letters {f fV : Addr} {fd fdV : FuncData} (D : Dfn K mg "_law_letters" sLetters ["_law_part"] f fd) (T : Txt K w mg dP eE tM) (DV : Dfn K mg "_law_visited" sVisited ["_law_part"] fV fdV) :
    FnOk P w K mg base CX0 6 f fd ["_law_part"] (spLetters K) := by
  have GV : FnOk P w K mg base CX0 5 fV fdV ["_law_part"] (spVisited K 4) := ok_visited DV T 4
  refine D.F.ok scLetters (fun vs H Q E h => ?_) (fun cdv A outer s H vs Q E hr h => ?_)
  · obtain ⟨v, e, rfl, _⟩ := h
    rfl
  obtain ⟨v, e, rfl, te, fe, q⟩ := h
  refine ⟨_, pss_cons (ps_set (i := 1) scLetters.nd rfl (.inl rfl) (pe_lst pa_nil))
    (pss_cons (ps_for PassesOwn.never rfl (pi_list (pe_call GV hr (by rfl) DV.g DV.F.kp DV.b .nil pass0 (pa_cons (pv 0) pa_nil))) (pg_name (i := 2) scLetters.nd rfl (.inl rfl))
      (pss_one (ps_if (pt_cmpR op_eq (pe_ix ix_tup (pv 2) pe_int (fun _ _ => rfl)) pe_str (nomark _))
        (pss_one (ps_set (i := 1) scLetters.nd rfl (.inl rfl) (pe_op op_cat (pv 1) (pe_callTy call_list_of (by rfl) T.list (by decide +kernel) (pa_cons (pe_ix ix_tup (pv 2) pe_int (fun _ _ => rfl)) pa_nil))))) pss_nil)))
    (pss_one (ps_ret (pv 1)))), ?_⟩
  refine ⟨Nat.zero_le _, fun o no => ?_⟩
  refine ⟨v, rfl, v, e, rfl, te.mono (keepT_new no), fe.dp, fe.dp, fun H1 vo xs sm1 hv tx => ?_⟩
  refine ⟨vo, rfl, ⟨xs, SqL.of hv⟩, for_list (xs := xs) (fun i σ H' => ∃ o ys y, σ = [some v, some (.ref o), y] ∧ Same H H' ∧ H' vo = some (.lst xs) ∧ Tps K H' xs ((subs e).map dS) ∧
      H' o = some (.lst ys) ∧ Tps K H' ys ((((subs e).take i).flatMap ltOf).map chData))
    ⟨o, [], none, rfl, (same_new no).trans sm1, hv, tx, sm1 _ _ upd_same, .nil⟩ (fun i σ H2 _ hP => ?_) (fun i x σ H2 hx hP => ?_) (fun σ H2 hP => ?_)⟩
  · obtain ⟨_, _, _, _, _, hg, _⟩ := hP
    exact SqL.of hg
  · obtain ⟨o2, ys, y, rfl, sm, hvo, txs, ho, ty⟩ := hP
    obtain ⟨dd, hdd, tv⟩ := txs.get' hx
    rw [List.getElem?_map] at hdd
    obtain ⟨u, hu, rfl⟩ := Option.map_eq_some_iff.mp hdd
    obtain ⟨b, zs, rfl, tb, tz⟩ := tv.ex_inv
    dsimp only [gName]
    refine ⟨.ref b, rfl, b, zs, 0, .str (word u), rfl, rfl, tb.sq, atI_nat (j := 0) tz.head, rfl, _, rfl, ?_⟩
    cases hl : isL u with
    | false =>
      have hw : word u ≠ wL := fun z => by
        rw [(word_lit u).mp z] at hl
        cases hl
      refine iteFe (decide_eq_false fun z => hw (V.str.inj z)) ?_
      refine ⟨o2, ys, _, rfl, sm, hvo, txs, ho, ?_⟩
      rw [take_flat hu, ltOf_nl hl, List.append_nil]
      exact ty
    | true =>
      cases u with
      | lit t =>
        refine iteTe (dec_w (show decide (wL = Str.ofString "literal") = true by decide +kernel)) ?_
        obtain ⟨v1, h1, t1⟩ := tz.get (i := 1) (d := txData t) rfl
        obtain ⟨c, cs, rfl, tc, tcs⟩ := t1.tup_inv
        refine ⟨.ref o2, rfl, .ref b, rfl, b, zs, 1, .ref c, rfl, rfl, tb.sq, atI_nat (j := 1) h1, c, cs, rfl, .inr tc.sq, fun l nl => ?_⟩
        have k1 := keepT_new (o := .lst cs) nl
        have ho' := (same_new (o := .lst cs) nl) o2 _ ho
        have lb : ys.length + cs.length ≤ 4800 := by
          have h2 := lt_take fe (i + 1)
          rw [take_flat hu, List.length_append] at h2
          rw [ty.len, tcs.len, List.length_map, List.length_map]
          exact h2
        refine ⟨o2, l, ys, cs, rfl, rfl, ho', upd_same, le_line (by omega), fun g ng => ?_⟩
        have k2 := keepT_new (o := .lst (ys ++ cs)) ng
        refine ⟨g, ys ++ cs, _, rfl, sameNew (sameNew sm nl) ng, same_new ng vo _ ((same_new nl) vo _ hvo), txs.mono (k1.trans k2), upd_same, ?_⟩
        rw [take_flat hu, List.map_append]
        exact (ty.mono (k1.trans k2)).app (tcs.mono (k1.trans k2))
      | atom k y => cases hl
      | un k y => cases hl
      | bin k y z => cases hl
      | tri k y z u => cases hl
  · obtain ⟨o2, ys, y, rfl, sm, hvo, txs, ho, ty⟩ := hP
    have ll : xs.length = (subs e).length := by rw [tx.len, List.length_map]
    rw [ll, List.take_length] at ty
    exact ⟨.ref o2, rfl, q H2 o2 ys sm ho ty⟩

/-! ### _law_targets -/
abbrev NTargets : List Str := ["_law_part", "_law_inner"]
theorem scTargets : FnScope NTargets ["_law_part"] (defScope sTargets) := ⟨rfl, rfl, rfl, by decide +kernel, rfl, by decide +kernel, by decide +kernel⟩
def spTargets (K : PySem.W.Frag) : Sp := fun vs H Q _ => ∃ v, ∃ e : Ex Tx, vs = [v] ∧ Tp K H v (dS e) ∧ depth e ≤ 4 ∧
  ∀ H' o, Same H H' → H' o = some (.lst ((targets e).map V.str)) → Q (.ref o) H'
theorem tg_len {α : Type} : ∀ (l : List (Ex α)), (l.flatMap tgOf).length ≤ l.length
  | [] => Nat.le_refl _
  | x :: r => by
    have h := tg_len r
    have h1 : (tgOf x).length ≤ 1 := by
      rcases word_target x with ⟨n, rfl⟩ | ⟨_, e⟩
      · exact Nat.le_refl _
      · rw [e]; exact Nat.zero_le _
    rw [List.flatMap_cons, List.length_append, List.length_cons]
    omega
theorem ok_targets {f fV : Addr} {fd fdV : FuncData} (D : Dfn K mg "_law_targets" sTargets ["_law_part"] f fd) (T : Txt K w mg dP eE tM) (DV : Dfn K mg "_law_visited" sVisited ["_law_part"] fV fdV) :
    FnOk P w K mg base CX0 6 f fd ["_law_part"] (spTargets K) := by
  have GV : FnOk P w K mg base CX0 5 fV fdV ["_law_part"] (spVisited K 4) := ok_visited DV T 4
  refine D.F.ok scTargets (fun vs H Q E h => ?_) (fun cdv A outer s H vs Q E hr h => ?_)
  · obtain ⟨v, e, rfl, _⟩ := h
    rfl
  obtain ⟨v, e, rfl, te, h4, q⟩ := h
  refine ⟨_, pss_one (ps_ret (pe_lc (own := [("_law_inner", 1)]) (g := gName 1) (tt := tTest (tOp rEq (tOp (rIxT K) (tVar 1) (tC (.int 0))) (tC (.str (Str.ofString "target"))))) (te := tOp (rIxT K) (tVar 1) (tC (.int 1))) rfl scTargets.nd (pi_list (pe_call GV hr (by rfl) DV.g DV.F.kp DV.b .nil pass0 (pa_cons (pv 0) pa_nil)))
      (blkOk_by (N := NTargets) (sc := defScope sTargets) (by decide +kernel))
      (fun _ _ _ _ _ => pg_name (i := 1) scTargets.nd rfl (Or.inl rfl)) (fun _ _ _ _ _ => pts_one (pt_cmpR op_eq (pe_ix ix_tup (pv 1) pe_int (fun _ _ => rfl)) pe_str (nomark _)))
      (fun _ _ _ _ _ => pe_ix ix_tup (pv 1) pe_int (fun _ _ => rfl)))), ?_⟩
  refine ⟨v, rfl, v, e, rfl, te, h4, h4, fun H1 vo xs sm1 hv tx => ?_⟩
  refine ⟨vo, rfl, ⟨xs, SqL.of hv⟩, fun D nD => ?_⟩
  have hne : vo ≠ D := fun z => by rw [← z, hv] at nD; cases nD
  have nD0 : H D = none := by
    cases hD : H D with
    | none => rfl
    | some o =>
      rw [sm1 _ _ hD] at nD
      cases nD
  refine lc_list (xs := xs) (fun i H' => Same H H' ∧ H' vo = some (.lst xs) ∧ Tps K H' xs ((subs e).map dS) ∧ H' D = some (.lst ((((subs e).take i).flatMap tgOf).map V.str)))
    ⟨sameNew sm1 nD, by rw [upd_ne hne]; exact hv, tx.mono (keepT_new nD), upd_same⟩ (fun i H2 _ hP => SqL.of hP.2.1) (fun i x H2 hx hP => ?_) (fun H2 hP => ?_)
  · obtain ⟨sm, hvo, txs, hD⟩ := hP
    obtain ⟨dd, hdd, tv⟩ := txs.get' hx
    rw [List.getElem?_map] at hdd
    obtain ⟨u, hu, rfl⟩ := Option.map_eq_some_iff.mp hdd
    obtain ⟨b, zs, rfl, tb, tz⟩ := tv.ex_inv
    refine ⟨rfl, .ref b, rfl, b, zs, 0, .str (word u), rfl, rfl, tb.sq, atI_nat (j := 0) tz.head, rfl, _, rfl, ?_⟩
    rcases word_target u with ⟨n, rfl⟩ | ⟨hw, ht⟩
    · refine iteTe (dec_w (show decide (wA .target = Str.ofString "target") = true by decide +kernel)) ?_
      obtain ⟨v1, h1, t1⟩ := tz.get (i := 1) (d := .str n) rfl
      have e1 := t1.str_inv
      subst e1
      have lb : (((subs e).take i).flatMap tgOf).length ≤ 40 := by
        have h2 := tg_len ((subs e).take i)
        have h3 : ((subs e).take i).length ≤ (subs e).length := by
          rw [List.length_take]
          exact Nat.min_le_right _ _
        have h5 := subs_length e
        have h6 := size40 h4
        omega
      refine ⟨.ref b, rfl, b, zs, 1, .str n, rfl, rfl, tb.sq, atI_nat (j := 1) h1, _, hD, small_le (by rw [List.length_map]; omega), ?_⟩
      refine ⟨samePut sm nD0, ?_, txs.mono (keepT_lst hD), ?_⟩
      · rw [upd_ne hne]; exact hvo
      · rw [upd_same, take_flat hu, List.map_append]
        rfl
    · refine iteFe (decide_eq_false fun z => hw (V.str.inj z)) ⟨sm, hvo, txs, ?_⟩
      rw [take_flat hu, ht, List.append_nil]
      exact hD
  · obtain ⟨sm, hvo, txs, hD⟩ := hP
    have ll : xs.length = (subs e).length := by rw [tx.len, List.length_map]
    rw [ll, List.take_length] at hD
    exact q H2 D sm hD
end
end K12

/-! Walks: _law_rising, _law_within. -/
namespace K12
open PySem PySem.Spec PyProof.Rows L2
theorem eqv_ch (c : Ch) : PyData.eqv (chData c) (chData c) = true := by
  unfold chData
  simp only [PyData.eqv, PyData.eqvAll, beq_self_eq_true, Bool.and_self]
theorem shaped_ch {c : Ch} (h : okC c) : SeqAt.shaped (chData c) = true := shaped_of (gd_ch h) (by rw [dep_ch]; decide)
theorem in_str {x : Str} : ∀ {l : List Str}, x ∈ l → inV (.str x) (l.map V.str) = true
  | y :: r, h => by
    rcases List.mem_cons.mp h with rfl | h
    · simp [inV, eqV]
    · have := in_str h
      simp [inV, eqV] at this ⊢
      exact .inr this
theorem first_at {x : Str} : ∀ {l : List Str}, x ∈ l → ∃ j : Nat, l[j]? = some x ∧ ∀ m, m < j → l[m]? ≠ some x
  | y :: r, h => by
    by_cases hy : y = x
    · exact ⟨0, by rw [hy]; rfl, fun m hm => absurd hm (Nat.not_lt_zero _)⟩
    · obtain ⟨j, h1, h2⟩ := first_at (l := r) ((List.mem_cons.mp h).resolve_left fun z => hy z.symm)
      refine ⟨j + 1, h1, fun m hm => ?_⟩
      cases m with
      | zero => exact fun z => hy (Option.some.inj z)
      | succ m => exact h2 m (Nat.lt_of_succ_lt_succ hm)
section
variable {P : Program} {w : World} {K : PySem.W.Frag} {mg : Str → Option Value} {base : Heap} {dP eE : Addr} {tM : Tok}
abbrev nsRising : List Str := ["_law_few", "_law_many", "_law_first"]
theorem scRising : FnScope ["_law_few", "_law_many", "_law_first", "_law_last", "_law_char", "_law_place"] nsRising (defScope sRising) := ⟨rfl, rfl, rfl, by decide +kernel, rfl, by decide +kernel, by decide +kernel⟩
def spRising (K : PySem.W.Frag) : Sp := fun vs H Q _ => ∃ (a b : Addr) (n : Int) (few many : List Ch) (xs ys : List V), vs = [.ref a, .ref b, .int n] ∧ H a = some (.lst xs) ∧ H b = some (.lst ys) ∧ Tps K H xs (few.map chData) ∧ Tps K H ys (many.map chData) ∧
  few.Sublist many ∧ From n many ∧ (∀ c ∈ many, okC c) ∧ many.length ≤ 5000 ∧ Q (.bl true) H
theorem ok_rising {f : Addr} {fd : FuncData} (D : Dfn K mg "_law_rising" sRising nsRising f fd) (T : Txt K w mg dP eE tM) : FnOk P w K mg base CX0 1 f fd nsRising (spRising K) := by
  refine D.F.ok scRising (fun vs H Q E h => ?_) (fun cdv A outer s H vs Q E hr h => ?_)
  · obtain ⟨a, b, n, few, many, xs, ys, rfl, _⟩ := h
    rfl
  obtain ⟨a, b, n, few, many, xs, ys, rfl, ha, hb, tx, ty, hsub, hfr, hok, hlen, q⟩ := h
  refine ⟨_, pss_cons (ps_set (i := 3) scRising.nd rfl (.inl rfl) (pe_un un_neg pe_int))
    (pss_cons (ps_for PassesOwn.never rfl (pi_list (pv 0)) (pg_name (i := 4) scRising.nd rfl (.inl rfl))
      (pss_cons (ps_set (i := 5) scRising.nd rfl (.inl rfl) (pe_op op_sub (pe_ix ix_tup (pv 4) pe_int (fun _ _ => rfl)) (pv 2)))
      (pss_cons (ps_if (PW.pt (pw_or (pt_cmpR op_le (pv 5) (pv 3) (nomark _)) (pw_or (pt_cmpR op_ge (pv 5) (pe_callB call_len_seq (by rfl) T.len PySem.boot_len (pa_cons (pv 1) pa_nil)) (nomark _))
          (pw_or1 (pt_cmpR (op_neD hr.units) (pv 4) (pe_ix ix_list (pv 1) (pv 5) (fun _ _ => rfl)) (nomark _))))))
        (pss_one (ps_ret pe_bl)) pss_nil)
      (pss_one (ps_set (i := 3) scRising.nd rfl (.inl rfl) (pv 5))))))
    (pss_one (ps_ret pe_bl))), ?_⟩
  have ly : ys.length = many.length := by rw [ty.len, List.length_map]
  have hpw : few.Pairwise fun a b => a.ix < b.ix := hfr.pair.sublist hsub
  refine ⟨1, rfl, .ref a, rfl, a, rfl, ⟨xs, SqL.of ha⟩, for_list (xs := xs) (fun i σ H' => ∃ z y4 y5, σ = [some (.ref a), some (.ref b), some (.int n), some (.int z), y4, y5] ∧ H' = H ∧ ∀ j c, i ≤ j → few[j]? = some c → z < c.ix - n)
    ⟨-1, none, none, rfl, rfl, fun j c _ hc => ?_⟩ (fun i σ H2 _ hP => ?_) (fun i v σ H2 hv hP => ?_) (fun σ H2 hP => ?_)⟩
  · obtain ⟨k, hk, _⟩ := hfr.at_ (hsub.subset (List.mem_of_getElem? hc))
    omega
  · obtain ⟨_, _, _, _, rfl, _⟩ := hP
    exact SqL.of ha
  · obtain ⟨z, y4, y5, rfl, rfl, hz⟩ := hP
    obtain ⟨dd, hdd, tv⟩ := tx.get' hv
    rw [List.getElem?_map] at hdd
    obtain ⟨c, hc, rfl⟩ := Option.map_eq_some_iff.mp hdd
    obtain ⟨k, hk, hkm⟩ := hfr.at_ (hsub.subset (List.mem_of_getElem? hc))
    have hcm := List.mem_of_getElem? hkm
    obtain ⟨p, zs, rfl, tp, tz⟩ := tv.tup_inv
    obtain ⟨v2, h2, t2⟩ := tz.get (i := 2) (d := .int c.ix) rfl
    have e2 := t2.int_inv
    subst e2
    obtain ⟨v3, h3, t3⟩ := ty.get (i := k) (d := chData c) (by rw [List.getElem?_map, hkm]; rfl)
    have hkl : k < many.length := (List.getElem?_eq_some_iff.mp hkm).1
    dsimp only [gName]
    refine ⟨.ref p, rfl, p, zs, 2, .int c.ix, rfl, rfl, tp.sq, atI_nat (j := 2) h2, .int n, rfl, c.ix, n, rfl, rfl, ?_⟩
    have hzi := hz i c (Nat.le_refl _) hc
    refine ⟨_, rfl, _, rfl, _, _, rfl, rfl, _, rfl, iteFe (decide_eq_false (by omega)) ?_⟩
    refine ⟨_, rfl, .ref b, rfl, b, ys, rfl, .inl (SqL.of hb), _, _, rfl, rfl, _, rfl, iteFe (decide_eq_false (by omega)) ?_⟩
    refine ⟨.ref p, rfl, .ref b, rfl, .int (c.ix - n), rfl, b, ys, c.ix - n, v3, rfl, rfl, SqL.of hb, by rw [hk]; exact atI_nat h3, chData c, chData c, tv.dp, t3.dp, shaped_ch (hok c hcm), shaped_ch (hok c hcm), _, rfl, ?_⟩
    refine iteFe (by rw [eqv_ch]; rfl) ?_
    refine ⟨_, rfl, _, _, _, rfl, rfl, fun j c' hj hc' => ?_⟩
    have hi := (List.getElem?_eq_some_iff.mp hc)
    have hj' := (List.getElem?_eq_some_iff.mp hc')
    obtain ⟨hi1, hi2⟩ := hi
    obtain ⟨hj1, hj2⟩ := hj'
    have := List.pairwise_iff_getElem.mp hpw i j hi1 hj1 (by omega)
    rw [hi2, hj2] at this
    omega
  · obtain ⟨z, y4, y5, rfl, rfl, hz⟩ := hP
    exact q

/-! ### _law_within -/
abbrev nsWithin : List Str := ["_law_few", "_law_many"]
theorem scWithin : FnScope ["_law_few", "_law_many", "_law_at", "_law_thing"] nsWithin (defScope sWithin) := ⟨rfl, rfl, rfl, by decide +kernel, rfl, by decide +kernel, by decide +kernel⟩
def spWithin (K : PySem.W.Frag) : Sp := fun vs H Q _ => ∃ (a b : Addr) (few many : List Str), vs = [.ref a, .ref b] ∧ H a = some (.lst (few.map V.str)) ∧ H b = some (.lst (many.map V.str)) ∧ few.Sublist many ∧ many.length ≤ 40 ∧ ∀ H', Same H H' → Q (.bl true) H'
theorem flat_strs (l : List Str) : (l.map V.str).all flatV = true := List.all_eq_true.mpr fun v hv => by
  obtain ⟨x, _, rfl⟩ := List.mem_map.mp hv
  rfl
theorem ok_within {f : Addr} {fd : FuncData} (D : Dfn K mg "_law_within" sWithin nsWithin f fd) (T : Txt K w mg dP eE tM) : FnOk P w K mg base CX0 1 f fd nsWithin (spWithin K) := by
  refine D.F.ok scWithin (fun vs H Q E h => ?_) (fun cdv A outer s H vs Q E hr h => ?_)
  · obtain ⟨a, b, few, many, rfl, _⟩ := h
    rfl
  obtain ⟨a, b, few, many, rfl, ha, hb, hsub, hlen, q⟩ := h
  refine ⟨_, pss_cons (ps_set (i := 2) scWithin.nd rfl (.inl rfl) pe_int)
    (pss_cons (ps_for PassesOwn.never rfl (pi_list (pv 0)) (pg_name (i := 3) scWithin.nd rfl (.inl rfl))
      (pss_cons (ps_if (pt_cmpR op_notIn_seq (pv 3) (pe_slice sl_list (pv 1) (po_some (pv 2)) po_none) (by rfl)) (pss_one (ps_ret pe_bl)) pss_nil)
      (pss_one (ps_set (i := 2) scWithin.nd rfl (.inl rfl) (pe_op op_add (pe_op op_add (pv 2)
        (pe_bm PySem.F.plainAttrs_list PySem.F.slot_list_index PySem.F.type_list_index mt_index (pe_slice sl_list (pv 1) (po_some (pv 2)) po_none) (pa_cons (pv 3) pa_nil))) pe_int)))))
    (pss_one (ps_ret pe_bl))), ?_⟩
  refine rd_setC ?_
  refine ⟨.ref a, rfl, a, rfl, ⟨_, SqL.of ha⟩, for_list (xs := few.map V.str) (fun i σ H' => ∃ (m : Nat) (y3 : Option V), σ = [some (.ref a), some (.ref b), some (.int m), y3] ∧ Same H H' ∧ (few.drop i).Sublist (many.drop m))
    ⟨0, none, rfl, fun _ _ h => h, hsub⟩ (fun i σ H2 _ hP => ?_) (fun i v σ H2 hv hP => ?_) (fun σ H2 hP => ?_)⟩
  · obtain ⟨_, _, _, sm, _⟩ := hP
    exact SqL.of (sm _ _ ha)
  · obtain ⟨m, y3, rfl, sm, hs⟩ := hP
    rw [List.getElem?_map] at hv
    obtain ⟨x, hx, rfl⟩ := Option.map_eq_some_iff.mp hv
    obtain ⟨hi, rfl⟩ := List.getElem?_eq_some_iff.mp hx
    rw [List.drop_eq_getElem_cons hi] at hs
    have hmem : few[i] ∈ many.drop m := hs.subset List.mem_cons_self
    have hm : m ≤ many.length := by
      have := List.length_pos_of_mem hmem
      rw [List.length_drop] at this
      omega
    obtain ⟨j, h1, h2⟩ := first_at hmem
    have hnext := sub_first hs h1 h2
    rw [List.drop_drop] at hnext
    have ecut : cutV (many.map V.str) (some (m : Int)) none = (many.drop m).map V.str := by
      rw [cutV_from _ (by rw [List.length_map]; exact hm), List.map_drop]
    have hb2 := sm _ _ hb
    generalize few[i] = x at *
    dsimp only [gName]
    refine ⟨.str x, rfl, .ref b, rfl, .int m, rfl, m, rfl, b, many.map V.str, rfl, SqL.of hb2, fun p np => ?_⟩
    rw [ecut]
    refine ⟨p, (many.drop m).map V.str, rfl, .inl (SqL.of upd_same), rfl, flat_strs _, _, rfl, ?_⟩
    refine iteFe (by rw [in_str hmem]; rfl) ?_
    have sm1 := sameNew (o := p) (u := .lst ((many.drop m).map V.str)) sm np
    refine ⟨.int m, rfl, .ref b, rfl, .int m, rfl, m, rfl, b, many.map V.str, rfl, SqL.of (sm1 _ _ hb), fun g ng => ?_⟩
    rw [ecut]
    refine ⟨.inl ⟨rfl, _, .inl (.inl upd_same)⟩, .str x, rfl, g, (many.drop m).map V.str, .str x, j, .str x, rfl, rfl, SqL.of upd_same, rfl, flat_strs _, by rw [List.getElem?_map, h1]; rfl, by simp [eqV], fun m' z' hm' hz' => ?_, m, j, rfl, rfl, _, 1, rfl, rfl, ?_⟩
    · rw [List.getElem?_map] at hz'
      obtain ⟨u, hu, rfl⟩ := Option.map_eq_some_iff.mp hz'
      have : u ≠ x := fun z => h2 m' hm' (by rw [hu, z])
      simp [eqV, this]
    · exact ⟨m + (j + 1), _, rfl, sameNew sm1 ng, hnext⟩
  · obtain ⟨_, _, rfl, sm, _⟩ := hP
    exact q H2 sm
end
end K12

/-! The law's def, called from outside: no repr is under way there, so its own body may call repr. -/
namespace K12
open PySem PySem.Spec PyProof.Rows L2
/-- an abstract heap in which at most the script stands -/
structure Script (P : Program) (w : World) (K : PySem.W.Frag) (h : Heap) (p : Addr) (l : List V) (T : Hp) : Prop where
  sees : SqL K T p l
  good : HOk P w T h
  one : ∀ b u, T b = some u → b = p ∧ ∃ ob, u = .frz ob (.lst l)
  own : ∀ u, T p = some u → K.lookup p = none
theorem script_heap {P : Program} {w : World} {K : PySem.W.Frag} {h : Heap} {p : Addr} {us : List Value} {l : List V} (hk : K.In h) (hp : h.get? p = some { cls := .type "list", data := .seq us.toArray })
    (hv : Vals l us) (hz : l.length ≤ sizeLine) (hz' : us.length ≤ sizeLine) : ∃ T, Script P w K h p l T := by
  cases known : K.lookup p with
  | none =>
    refine ⟨fun b => if b = p then some (.frz { cls := .type "list", data := .seq us.toArray } (.lst l)) else none, .inl (.inr ⟨_, if_pos rfl⟩), fun b u hu => ?_, fun b u hu => ?_, fun _ _ => known⟩
    all_goals
      by_cases same : b = p
      · subst same
        have := Option.some.inj ((if_pos rfl).symm.trans hu)
        subst this
        first
          | exact ⟨hp, hz, us, _, hv, hp⟩
          | exact ⟨rfl, _, rfl⟩
      · exact nomatch (if_neg same).symm.trans hu
  | some ob =>
    have there := (hk p ob known).symm.trans hp
    cases there
    exact ⟨fun _ => none, .inr ⟨_, us.toArray, _, known, rfl, rfl, rfl, by rw [List.size_toArray]; exact hz', by simpa using hv⟩, (fun _ _ q => by cases q), (fun _ _ q => by cases q), (fun _ q => by cases q)⟩
section
variable {P : Program} {w : World} {K : PySem.W.Frag} {mg mb : Str → Option Value} {h : Heap} {p : Addr} {us : List Value} {l : List V} {T : Hp}
theorem Script.base (S : Script P w K h p l T) {b : Addr} {o : Obj} (e : h.get? b = some o) (n : T b = none) : (hidT h T).get? b = some o := hidT_get e n
theorem Script.seen (S : Script P w K h p l T) (hp : h.get? p = some { cls := .type "list", data := .seq us.toArray }) {b : Addr} {o : Obj} (e : h.get? b = some o) (d : ∀ us n, o.data ≠ .seq us n) : (hidT h T).get? b = some o := by
  cases q : T b with
  | none => exact hidT_get e q
  | some u =>
    obtain ⟨rfl, _⟩ := S.one b u q
    have := Option.some.inj (e.symm.trans hp)
    subst this
    exact absurd rfl (d _ _)
theorem Script.names (S : Script P w K h p l T) (hp : h.get? p = some { cls := .type "list", data := .seq us.toArray }) {b : Addr} {m : Str → Option Value} (ns : h.Ns b m) : (hidT h T).Ns b m := by
  obtain ⟨o, es, c, g, d, r⟩ := ns
  exact ⟨o, es, c, S.seen hp g (fun _ _ z => by rw [d] at z; cases z), d, r⟩
theorem Script.frag (S : Script P w K h p l T) (hk : K.In h) : K.In (hidT h T) := fun b o e => by
  refine hidT_get (hk b o e) ?_
  cases q : T b with
  | none => rfl
  | some u =>
    obtain ⟨rfl, _⟩ := S.one b u q
    exact nomatch e.symm.trans (S.own u q)
/-- the module and the entry, beneath the script -/
theorem Script.entry {s : Shared} (S : Script P w K s.heap p l T) (hp : s.heap.get? p = some { cls := .type "list", data := .seq us.toArray }) (hk : K.In s.heap) (gl : s.heap.Ns mainGlobals mg) (bn : s.heap.Ns builtinsNs mb)
    (bb : ∀ x : Str, x ≠ "__name__" → mb x = bootBuiltins x) (nl : s.heap.NoLimit) (ng : s.gens = #[]) : Env0 P w K mg (hidT s.heap T) callerA [] s T where
  frames := rfl
  mod := by
    obtain ⟨ml, q1, q2⟩ := nl
    exact { kin := S.frag hk, glob := S.names hp gl, blt := ⟨mb, S.names hp bn, bb⟩, nolimit := ⟨ml, S.names hp q1, q2⟩ }
  bs := fun _ _ e => of_hidT e
  bsz := by rw [hidT_size]; exact Nat.le_refl _
  funs := trivial
  frf := fun b hb => absurd hb (show b ∉ ([] : List Addr) from List.not_mem_nil)
  hok := S.good
  bare := .of_eq ng
/-- what stood before the call stands behind it -/
theorem Script.back {h' : Heap} {T' : Hp} (S : Script P w K h p l T) (un : Un [] [] T T' h h') (good' : HOk P w T' h') : OldK h h' := OldK.of_keep fun b o e => by
  cases q : T b with
  | none => exact un.keep b o e q List.not_mem_nil List.not_mem_nil
  | some u =>
    obtain ⟨rfl, ob, rfl⟩ := S.one b u q
    have first := (S.good b _ q).1
    have behind := (good' b _ (un.frzs b ob _ q)).1
    rw [Option.some.inj (e.symm.trans first)]
    exact behind
end
/-- the law, handed the script -/
theorem outside {P : Program} {w : World} {K : PySem.W.Frag} {mg mb : Str → Option Value} {s : Shared} {f p : Addr} {fd : FuncData} {nm x : Str} {st : Stmt} {N : List Str} {us : List Value} {ns : List Int}
    (F : Fun K nm nm st f fd) (B : Binds K fd [x] []) (C : FnScope N [x] (defScope st)) (hk : K.In s.heap) (gl : s.heap.Ns mainGlobals mg) (bn : s.heap.Ns builtinsNs mb) (bb : ∀ x : Str, x ≠ "__name__" → mb x = bootBuiltins x)
    (nl : s.heap.NoLimit) (ng : s.gens = #[]) (hp : s.heap.get? p = some { cls := .type "list", data := .seq us.toArray }) (hi : IntsAre us ns) (hz : ns.length ≤ sizeLine)
    (body : ∀ (base : Heap) (cdv : Value) (T : Hp), K.In base → base.Ns mainGlobals mg → SqL K T p (ns.map V.int) →
      ∃ t, PSs (cxOf CX0 P w K mg base N nm (defScope st) f cdv callerA [] s T E0).nox (defBody st) t ∧ t { nx := fun _ _ => V.non = .bl true, rt := fun v _ => v = .bl true } (start N [.ref p]) T) :
    codeAny (model P w) callerA (.call (.ref f) ⟨[.ref p], []⟩) (fun r s' => r = .ok (.ret (.bool true)) ∧ OldK s.heap s'.heap ∧ s'.os = s.os ∧ AllBare s'.gens) s := by
  obtain ⟨T, S⟩ := script_heap (P := P) (w := w) hk hp (vals_ints hi) (by rw [List.length_map]; exact hz) (by rw [hi.length]; exact hz)
  have e0 := S.entry hp hk gl bn bb nl ng
  obtain ⟨oc, od, kV, doc, pm, an, cdv, ct, osl, rfl, look, code⟩ := F.ex
  have args : Vals [V.ref p] [Value.ref p] := .cons rfl .nil
  refine codeAny_call_function (by decide) (hk _ _ look) rfl C.co C.gen rfl (PySem.W.codeRec_of hk code) (B s [.ref p] hk rfl _ _ _ _ ?_)
  refine wpAny_newFunctionEnv_cells C.kind (fun y hy => ?_) fun env env_eq s1 call => ?_
  · obtain rfl : y = (x, Value.ref p) := List.mem_singleton.mp hy
    exact (C.par x (List.mem_singleton.mpr rfl)).imp id fun c => ⟨c, PySem.W.cellsFrom_some _ _ _ (.inl c)⟩
  · subst env_eq
    obtain ⟨t, walk, reads⟩ := body _ cdv T (S.frag hk) (S.names hp gl) S.sees
    refine ⟨nl.keeps call.toInCall.keep, codeAny_func (wpAny_mono (walk.nox.run [] s1 _ _ _ (inv_start C rfl e0 rfl args call) reads) (fun fl s' done => ?_) fun e s' bad => ?_)⟩
    · cases fl with
      | ret u =>
        obtain ⟨v, σ', T', J, same, rfl⟩ := done
        obtain rfl : u = Value.bool true := same
        exact ⟨rfl, S.back J.base J.hok, J.os, J.bare⟩
      | next =>
        obtain ⟨_, _, _, bad⟩ := done
        cases bad
      | brk =>
        obtain ⟨_, _, _, bad⟩ := done
        exact bad.elim
      | cont =>
        obtain ⟨_, _, _, bad⟩ := done
        exact bad.elim
    · refine wpAny_mono bad (fun _ _ z => ?_) fun _ _ z => ?_
      · exact z.elim
      · exact z.elim
open PySem.W in
/-- the end of the row -/
theorem row_end {r : OpenLaw} {most : Nat} {q : Program} {loose : List Str} {XP : (Str → Option Value) → Heap → Prop} {YP : World → Heap → Prop} {d : DefRec} {KK : Params → Frag} {N : List Str} {x : Str} {st : Stmt}
    (h1 : r.most = some most) (h2 : most ≤ sizeLine) (h3 : d.params.defaults = []) (C : FnScope N [x] (defScope st)) (left : ∀ (w : World) (h : Heap), YP w h → (KK w.params).In h)
    (law : ∀ (w : World) (mg : Str → Option Value) (f : Addr) (h : Heap), (KK w.params).In h → h.Ns mainGlobals mg → mg d.name = some (.ref f) →
      ∃ fd : FuncData, Fun (KK w.params) d.name d.name st f fd ∧ Binds (KK w.params) fd [x] [] ∧ ∀ (base : Heap) (cdv : Value) (s : Shared) (T : Hp) (p : Addr) (ns : List Int), (KK w.params).In base → base.Ns mainGlobals mg → ns.length ≤ most → SqL (KK w.params) T p (ns.map V.int) →
        ∃ t, PSs (cxOf CX0 r.prog w (KK w.params) mg base N d.name (defScope st) f cdv callerA [] s T E0).nox (defBody st) t ∧ t { nx := fun _ _ => V.non = .bl true, rt := fun v _ => v = .bl true } (start N [.ref p]) T) :
    WalkO q loose XP YP r.row.toRowW d [] (fun f vs => PySem.call f vs) := by
  refine Att.attach_call h1 h3 fun w s₀ s₁ mg mb f o pm cd doc p us ns ground yp _ _ _ hf hp nums few nogens => ?_
  have hk := left w _ yp
  obtain ⟨fd, F, B, body⟩ := law w mg f _ hk ground.T.g hf
  exact outside F B C hk ground.T.g ground.T.b ground.T.builtins ground.T.nolimit nogens hp nums (Nat.le_trans few h2) fun base cdv T b1 b2 b3 => body base cdv s₁ T p ns b1 b2 few b3
end K12

/-! The law's own body. -/
namespace K12
open PySem PySem.Spec PyProof.Rows L2
/-- a def of the text stands at some place -/
def Has (K : PySem.W.Frag) (mg : Str → Option Value) (nm : Str) (st : Stmt) (ps : List Str) : Prop := ∃ f fd, Dfn K mg nm st ps f fd
structure Defs (K : PySem.W.Frag) (mg : Str → Option Value) : Prop where
  places : Has K mg "part_places" sPlaces ["expression"]
  concat : Has K mg "concat_rewritings" sConcat ["left", "right"]
  slice : Has K mg "slice_rewritings" sSlice ["part", "start", "end"]
  search : Has K mg "search_rewritings" sSearch ["expression"]
  top : Has K mg "top_rewritings" sTop ["expression"]
  rws : Has K mg "rewritings" sRws ["expression"]
  norm : Has K mg "normalize" sNorm ["expression"]
  tape : Has K mg "_law_tape" sTape ["_law_script"]
  draw : Has K mg "_law_draw" sDraw ["_law_tape_here", "_law_many"]
  string : Has K mg "_law_string" sString ["_law_tape_here", "_law_size"]
  stamped : Has K mg "_law_stamped" sStamped ["_law_string_here", "_law_change", "_law_start"]
  name : Has K mg "_law_name" sName ["_law_tape_here", "_law_stem"]
  names : Has K mg "_law_names" sNames ["_law_tape_here", "_law_most"]
  literal : Has K mg "_law_literal" sLiteral ["_law_tape_here"]
  leaf : Has K mg "_law_leaf" sLeaf ["_law_tape_here", "_law_names_here"]
  expr : Has K mg "_law_expression" sExpr nsExpr
  marked : Has K mg "_law_marked" sMarked nsMarked
  plain : Has K mg "_law_plain" sPlain ["_law_tape_here", "_law_names_here"]
  redex : Has K mg "_law_redex" sRedex ["_law_tape_here", "_law_names_here", "_law_depth_here"]
  visited : Has K mg "_law_visited" sVisited ["_law_part"]
  depth : Has K mg "_law_depth" sDepth ["_law_part"]
  within : Has K mg "_law_within" sWithin nsWithin
  rising : Has K mg "_law_rising" sRising nsRising
  letters : Has K mg "_law_letters" sLetters ["_law_part"]
  targets : Has K mg "_law_targets" sTargets ["_law_part"]
/-- a def that keeps a promise -/
structure Good (P : Program) (w : World) (K : PySem.W.Frag) (mg : Str → Option Value) (base : Heap) (k : Nat) (nm : Str) (ps : List Str) (sp : Sp) (f : Addr) (fd : FuncData) : Prop where
  g : mg nm = some (.ref f)
  kp : PySem.W.keepIn K (.ref f) = true
  b : Binds K fd ps []
  ok : FnOk P w K mg base CX0 k f fd ps sp
def Keeps (P : Program) (w : World) (K : PySem.W.Frag) (mg : Str → Option Value) (base : Heap) (k : Nat) (nm : Str) (ps : List Str) (sp : Sp) : Prop := ∃ f fd, Good P w K mg base k nm ps sp f fd
theorem Dfn.good {P : Program} {w : World} {K : PySem.W.Frag} {mg : Str → Option Value} {base : Heap} {k : Nat} {nm : Str} {st : Stmt} {ps : List Str} {sp : Sp} {f : Addr} {fd : FuncData} (D : Dfn K mg nm st ps f fd) (h : FnOk P w K mg base CX0 k f fd ps sp) :
    Keeps P w K mg base k nm ps sp := ⟨f, fd, D.g, D.F.kp, D.b, h⟩
/-- the promises that the law's body uses -/
structure Promises (P : Program) (w : World) (K : PySem.W.Frag) (mg : Str → Option Value) (base : Heap) : Prop where
  tape : Keeps P w K mg base 1 "_law_tape" ["_law_script"] (spTape K)
  names : Keeps P w K mg base 3 "_law_names" ["_law_tape_here", "_law_most"] (spNames K)
  draw : Keeps P w K mg base 1 "_law_draw" ["_law_tape_here", "_law_many"] (spDraw K)
  redex : Keeps P w K mg base 8 "_law_redex" ["_law_tape_here", "_law_names_here", "_law_depth_here"] (spRedex K 4)
  expr : Keeps P w K mg base 8 "_law_expression" nsExpr (spExpr K 4)
  marked : Keeps P w K mg base 6 "_law_marked" nsMarked (spMarked K 4)
  norm : Keeps P w K mg base 8 "normalize" ["expression"] (spNorm K)
  rws : Keeps P w K mg base 7 "rewritings" ["expression"] (spRws K 4)
  visited : Keeps P w K mg base 5 "_law_visited" ["_law_part"] (spVisited K 4)
  depth : Keeps P w K mg base 5 "_law_depth" ["_law_part"] (spDepth K 4)
  letters : Keeps P w K mg base 6 "_law_letters" ["_law_part"] (spLetters K)
  targets : Keeps P w K mg base 6 "_law_targets" ["_law_part"] (spTargets K)
  rising : Keeps P w K mg base 1 "_law_rising" nsRising (spRising K)
  within : Keeps P w K mg base 1 "_law_within" nsWithin (spWithin K)
theorem promises {P : Program} {w : World} {K : PySem.W.Frag} {mg : Str → Option Value} {base : Heap} {dP eE : Addr} {tM : Tok} (T : Txt K w mg dP eE tM) (D : Defs K mg) : Promises P w K mg base := by
  obtain ⟨_, _, d1⟩ := D.places
  obtain ⟨_, _, d2⟩ := D.concat
  obtain ⟨_, _, d3⟩ := D.slice
  obtain ⟨_, _, d4⟩ := D.search
  obtain ⟨_, _, d5⟩ := D.top
  obtain ⟨_, _, d6⟩ := D.rws
  obtain ⟨_, _, d7⟩ := D.norm
  obtain ⟨_, _, d8⟩ := D.tape
  obtain ⟨_, _, d9⟩ := D.draw
  obtain ⟨_, _, d10⟩ := D.string
  obtain ⟨_, _, d11⟩ := D.stamped
  obtain ⟨_, _, d12⟩ := D.name
  obtain ⟨_, _, d13⟩ := D.names
  obtain ⟨_, _, d14⟩ := D.literal
  obtain ⟨_, _, d15⟩ := D.leaf
  obtain ⟨_, _, d16⟩ := D.expr
  obtain ⟨_, _, d17⟩ := D.marked
  obtain ⟨_, _, d18⟩ := D.plain
  obtain ⟨_, _, d19⟩ := D.redex
  obtain ⟨_, _, d20⟩ := D.visited
  obtain ⟨_, _, d21⟩ := D.depth
  obtain ⟨_, _, d22⟩ := D.within
  obtain ⟨_, _, d23⟩ := D.rising
  obtain ⟨_, _, d24⟩ := D.letters
  obtain ⟨_, _, d25⟩ := D.targets
  have gr := ok_rws (P := P) (w := w) (base := base) T d6 d5 d1 d2 d3 d4 4
  exact {
    tape := d8.good (ok_tape (k := 0) d8.F T)
    names := d13.good (ok_names (k := 0) d13.F T d9 d12)
    draw := d9.good (ok_draw (k := 0) d9.F T)
    redex := d19.good (ok_redex d19 T d9 d10 d14 d18 3)
    expr := d16.good (ok_expr d16 T d9 d10 d14 d15 3)
    marked := d17.good (ok_marked d17 T d11 4)
    norm := d7.good (ok_norm T d7 d6 gr)
    rws := d6.good gr
    visited := d20.good (ok_visited d20 T 4)
    depth := d21.good (ok_depth d21 T 4)
    letters := d24.good (ok_letters d24 T d20)
    targets := d25.good (ok_targets d25 T d20)
    rising := d23.good (ok_rising d23 T)
    within := d22.good (ok_within d22 T) }
end K12

/-! The law's own body: its term. -/
namespace K12
open PySem PySem.Spec PyProof.Rows L2
abbrev NLaw : List Str := ["_law_script", "_law_tape_here", "_law_names_here", "_law_written", "_law_first", "_law_part", "_law_told", "_law_road", "_law_k", "_law_ways", "_law_inner"]
theorem scLaw : FnScope NLaw ["_law_script"] (defScope sLaw) := ⟨rfl, rfl, rfl, by decide +kernel, rfl, by decide +kernel, by decide +kernel⟩
theorem let_ok {e : Ex Tx} (f : Fine e) : (∀ c ∈ letters e, okC c) ∧ (letters e).length ≤ 5000 := by
  constructor
  · intro c hc
    obtain ⟨x, hx, hc⟩ := List.mem_flatMap.mp hc
    have := f.lits x hx
    cases x with
    | lit t => exact this.2 c hc
    | atom k n => exact absurd hc List.not_mem_nil
    | un k a => exact absurd hc List.not_mem_nil
    | bin k a b => exact absurd hc List.not_mem_nil
    | tri k a b c => exact absurd hc List.not_mem_nil
  · have h := lt_take f (subs e).length
    rw [List.take_length] at h
    have h' : (letters e).length ≤ 4800 := h
    omega
theorem tar_len {e : Ex Tx} (h : depth e ≤ 4) : (targets e).length ≤ 40 := by
  have h1 : (targets e).length ≤ (subs e).length := tg_len (subs e)
  have h2 := subs_length e
  have h3 := size40 h
  omega
theorem shown_nil : (PyData.tuple []).shown = Str.ofString "()" := by decide +kernel
abbrev rRepr (K : PySem.W.Frag) : List V → Hp → VK → Prop := fun xs H Q => ∃ v d, xs = [v] ∧ (∃ a, v = .ref a) ∧ Tp K H v d ∧ Gd d ∧ d.depth ≤ 64 ∧ d.shown.length ≤ sizeLine ∧ Q (.str d.shown) H
section
variable {P : Program} {w : World} {K : PySem.W.Frag} {mg : Str → Option Value} {base : Heap} {dP eE : Addr} {tM : Tok}
theorem ref_of {v : V} {e : Ex Tx} {H : Hp} (te : Tp K H v (dS e)) : ∃ a, v = .ref a := by
  obtain ⟨a, xs, rfl, _⟩ := te.ex_inv
  exact ⟨a, rfl⟩
theorem dep64 {e : Ex Tx} (fe : Fine e) : (dS e).depth ≤ 64 := by
  have h1 := dep_ds e
  have h2 := fe.dp
  omega
theorem gd_nil : Gd (.tuple []) := gd_tup fun x hx => absurd hx List.not_mem_nil
theorem fit_nil : (PyData.tuple []).shown.length ≤ sizeLine := by rw [shown_nil]; decide +kernel
theorem ne_self {x : V} : (!decide (x = x)) = false := by rw [decide_eq_true rfl]; rfl
theorem law_reads {f p : Addr} {ns : List Int} {cdv : Value} {s : Shared} {H : Hp} (T : Txt K w mg dP eE tM) (R : Promises P w K mg base) (hS : SqL K H p (ns.map V.int)) :
    ∃ t, PSs (cxOf CX0 P w K mg base NLaw "law" (defScope sLaw) f cdv callerA [] s H E0).nox (defBody sLaw) t ∧ t { nx := fun _ _ => V.non = .bl true, rt := fun v _ => v = .bl true } (start NLaw [.ref p]) H := by
  obtain ⟨_, _, gTape⟩ := R.tape
  obtain ⟨_, _, gNames⟩ := R.names
  obtain ⟨_, _, gDraw⟩ := R.draw
  obtain ⟨_, _, gRedex⟩ := R.redex
  obtain ⟨_, _, gExpr⟩ := R.expr
  obtain ⟨_, _, gMarked⟩ := R.marked
  obtain ⟨_, _, gNorm⟩ := R.norm
  obtain ⟨_, _, gRws⟩ := R.rws
  obtain ⟨_, _, gVis⟩ := R.visited
  obtain ⟨_, _, gDep⟩ := R.depth
  obtain ⟨_, _, gLet⟩ := R.letters
  obtain ⟨_, _, gTar⟩ := R.targets
  obtain ⟨_, _, gRis⟩ := R.rising
  obtain ⟨_, _, gWit⟩ := R.within
  have r8 : Room 8 (callerA.deeper (envOfC "law" (defScope sLaw) s.heap.objs.size f cdv)) := (show Room 9 callerA from ⟨rfl, by decide, by decide⟩).deeper _
  have rr1 := r8.mono (show 1 ≤ 8 by decide)
  have rr3 := r8.mono (show 3 ≤ 8 by decide)
  have rr5 := r8.mono (show 5 ≤ 8 by decide)
  have rr6 := r8.mono (show 6 ≤ 8 by decide)
  have rr7 := r8.mono (show 7 ≤ 8 by decide)
  have rr8 := r8.mono (show 8 ≤ 8 by decide)
  have cr : CallR (cxOf CX0 P w K mg base NLaw "law" (defScope sLaw) f cdv callerA [] s H E0).nox (.builtin "repr") (rRepr K) := call_repr_data rfl (show callerA.units + 3 + 100 < cLine by decide)
  refine ⟨_, pss_cons (ps_set (i := 1) scLaw.nd rfl (.inl rfl) (pe_call gTape.ok rr1 (by rfl) gTape.g gTape.kp gTape.b .nil pass0 (pa_cons (pv 0) pa_nil)))
    (pss_cons (ps_set (i := 2) scLaw.nd rfl (.inl rfl) (pe_call gNames.ok rr3 (by rfl) gNames.g gNames.kp gNames.b .nil pass0 (pa_cons (pv 1) (pa_cons pe_int pa_nil))))
    (C8.pss_cut (ps_if (pt_cmpR op_gt (pe_call gDraw.ok rr1 (by rfl) gDraw.g gDraw.kp gDraw.b .nil pass0 (pa_cons (pv 1) (pa_cons pe_int pa_nil))) pe_int (nomark _))
      (pss_one (ps_set (i := 3) scLaw.nd rfl (.inl rfl) (pe_call gRedex.ok rr8 (by rfl) gRedex.g gRedex.kp gRedex.b .nil pass0 (pa_cons (pv 1) (pa_cons (pv 2) (pa_cons pe_int pa_nil))))))
      (pss_one (ps_set (i := 3) scLaw.nd rfl (.inl rfl) (pe_call gExpr.ok rr8 (by rfl) gExpr.g gExpr.kp gExpr.b .nil pass0 (pa_cons (pv 1) (pa_cons (pv 2) (pa_cons pe_int (pa_cons pe_bl pa_nil))))))))
    (pss_cons (ps_set (i := 4) scLaw.nd rfl (.inl rfl) (pe_call gDraw.ok rr1 (by rfl) gDraw.g gDraw.kp gDraw.b .nil pass0 (pa_cons (pv 1) (pa_cons pe_int pa_nil))))
    (pss_cons (ps_set (i := 5) scLaw.nd rfl (.inl rfl) (pe_call gMarked.ok rr6 (by rfl) gMarked.g gMarked.kp gMarked.b .nil pass0 (pa_cons (pv 3) (pa_cons pe_int (pa_cons (pe_lst (pa_cons (pv 4) pa_nil)) pa_nil)))))
    (pss_cons (ps_set (i := 6) scLaw.nd rfl (.inl rfl) (pe_call gNorm.ok rr8 (by rfl) gNorm.g gNorm.kp gNorm.b .nil pass0 (pa_cons (pv 5) pa_nil)))
    (pss_cons (ps_set (i := 7) scLaw.nd rfl (.inl rfl) (pv 5))
    (C8.pss_cut (ps_for PassesOwn.never rfl (pi_range1 (by rfl) T.range (pa_cons (pe_op op_sub (pe_op op_mul pe_int (pe_callB call_len_seq (by rfl) T.len PySem.boot_len
          (pa_cons (pe_call gVis.ok rr5 (by rfl) gVis.g gVis.kp gVis.b .nil pass0 (pa_cons (pv 5) pa_nil)) pa_nil))) pe_int) pa_nil)) (pg_name (i := 8) scLaw.nd rfl (.inl rfl))
      (pss_cons (ps_set (i := 9) scLaw.nd rfl (.inl rfl) (pe_call gRws.ok rr7 (by rfl) gRws.g gRws.kp gRws.b .nil pass0 (pa_cons (pv 7) pa_nil)))
      (pss_cons (ps_if (pt_not (pt_truth (pv 9) (fun _ => rfl))) (pss_one ps_break) pss_nil)
      (pss_cons (ps_set (i := 7) scLaw.nd rfl (.inl rfl) (pe_ix ix_tup (pv 9) (pe_call gDraw.ok rr1 (by rfl) gDraw.g gDraw.kp gDraw.b .nil pass0 (pa_cons (pv 1)
          (pa_cons (pe_callB call_len_seq (by rfl) T.len PySem.boot_len (pa_cons (pv 9) pa_nil)) pa_nil))) (fun _ _ => rfl)))
      (pss_one (ps_if (PW.pt (pw_and (pt_cmpR op_lt (pv 8) pe_int (nomark _)) (pw_and1 (pt_cmpR op_ne
          (pe_callB cr (by rfl) T.repr (by decide +kernel) (pa_cons (pe_call gNorm.ok rr8 (by rfl) gNorm.g gNorm.kp gNorm.b .nil pass0 (pa_cons (pv 7) pa_nil)) pa_nil))
          (pe_callB cr (by rfl) T.repr (by decide +kernel) (pa_cons (pv 6) pa_nil)) (nomark _)))))
        (pss_one (ps_ret pe_bl)) pss_nil))))))
    (pss_cons (ps_if (PW.pt (pw_or (pt_cmpR op_ne (pe_callB cr (by rfl) T.repr (by decide +kernel) (pa_cons (pe_call gRws.ok rr7 (by rfl) gRws.g gRws.kp gRws.b .nil pass0 (pa_cons (pv 7) pa_nil)) pa_nil)) pe_str (nomark _))
        (pw_or (pt_cmpR op_ne (pe_callB cr (by rfl) T.repr (by decide +kernel) (pa_cons (pv 7) pa_nil)) (pe_callB cr (by rfl) T.repr (by decide +kernel) (pa_cons (pv 6) pa_nil)) (nomark _))
        (pw_or1 (pt_cmpR op_ne (pe_callB cr (by rfl) T.repr (by decide +kernel) (pa_cons (pe_call gNorm.ok rr8 (by rfl) gNorm.g gNorm.kp gNorm.b .nil pass0 (pa_cons (pv 6) pa_nil)) pa_nil))
          (pe_callB cr (by rfl) T.repr (by decide +kernel) (pa_cons (pv 6) pa_nil)) (nomark _))))))
      (pss_one (ps_ret pe_bl)) pss_nil)
    (C8.pss_cut (ps_for PassesOwn.never rfl (pi_list (pe_call gVis.ok rr5 (by rfl) gVis.g gVis.kp gVis.b .nil pass0 (pa_cons (pv 6) pa_nil))) (pg_name (i := 10) scLaw.nd rfl (.inl rfl))
      (pss_one (ps_if (PW.pt (pw_and (pt_cmpR op_eq (pe_ix ix_tup (pv 10) pe_int (fun _ _ => rfl)) pe_str (nomark _))
          (pw_and1 (pt_cmpR op_gt (pe_callB call_len_seq (by rfl) T.len PySem.boot_len (pa_cons (pe_ix ix_tup (pv 10) pe_int (fun _ _ => rfl)) pa_nil)) pe_int (nomark _)))))
        (pss_one (ps_ret pe_bl)) pss_nil)))
    (pss_cons (ps_if (PW.pt (pw_or (pt_cmpR op_gt (pe_call gDep.ok rr5 (by rfl) gDep.g gDep.kp gDep.b .nil pass0 (pa_cons (pv 6) pa_nil)) (pe_call gDep.ok rr5 (by rfl) gDep.g gDep.kp gDep.b .nil pass0 (pa_cons (pv 5) pa_nil)) (nomark _))
        (pw_or1 (pt_not (pt_val (pe_call gRis.ok rr1 (by rfl) gRis.g gRis.kp gRis.b .nil pass0 (pa_cons (pe_call gLet.ok rr6 (by rfl) gLet.g gLet.kp gLet.b .nil pass0 (pa_cons (pv 6) pa_nil))
          (pa_cons (pe_call gLet.ok rr6 (by rfl) gLet.g gLet.kp gLet.b .nil pass0 (pa_cons (pv 5) pa_nil)) (pa_cons (pv 4) pa_nil)))))))))
      (pss_one (ps_ret pe_bl)) pss_nil)
    (pss_one (ps_ret (pe_call gWit.ok rr1 (by rfl) gWit.g gWit.kp gWit.b .nil pass0 (pa_cons (pe_call gTar.ok rr6 (by rfl) gTar.g gTar.kp gTar.b .nil pass0 (pa_cons (pv 6) pa_nil))
      (pa_cons (pe_call gTar.ok rr6 (by rfl) gTar.g gTar.kp gTar.b .nil pass0 (pa_cons (pv 5) pa_nil)) pa_nil))))))))))))))), ?_⟩
  have nm3 : ([none, none, none, none, none, none, none, none, none, none] : List (Option V)).length = 10 := rfl
  -- the tape, the names
  refine ⟨.ref p, rfl, p, ns, rfl, hS, fun H1 t L sm1 tp1 => ⟨.ref t, rfl, t, L, rfl, tp1, fun nm H2 b2 tp2 nms hnt => ?_⟩⟩
  -- the expression
  refine ⟨fun σ H' => ∃ v, ∃ e : Ex Str, σ = [some (.ref p), some (.ref t), some (.ref nm), some v, none, none, none, none, none, none, none] ∧ TapeAt K L H' t ∧ Tp K H' v (dW e) ∧ Gen 4 e, ?_, ?_⟩
  · refine rd_draw (m := 3) rfl tp2 rfl (by decide) (by decide) fun r H3 b3 tp3 hr => ⟨_, _, rfl, rfl, _, rfl, ite2 (fun _ => ?_) fun _ => ?_⟩
    · exact ⟨.ref t, rfl, .ref nm, rfl, t, L, nm, rfl, tp3, nms.bt b3 hnt, hnt, fun v e H4 b4 tp4 te ge => ⟨v, e, rfl, tp4, te, ge⟩⟩
    · exact ⟨.ref t, rfl, .ref nm, rfl, t, L, nm, rfl, tp3, nms.bt b3 hnt, hnt, fun v e H4 b4 tp4 te ge => ⟨v, e, rfl, tp4, te, ge⟩⟩
  rintro σ' H3 ⟨v, e, rfl, tp3, te3, ge⟩
  -- the stamps
  refine rd_draw (m := 100) rfl tp3 rfl (by decide) (by decide) fun n H4 b4 tp4 hn => ?_
  have te4 := te3.mono (b4.keepT tp3)
  refine ⟨v, rfl, .int n, rfl, line1, fun c nc => ⟨v, .e e, c, n, rfl, upd_same, te4.mono (keepT_new nc), ge.ok, ge.dp, fun vp H5 b5 _ tv5 => ?_⟩⟩
  have tvp5 : Tp K H5 vp (dS (mark e n).1) := tv5
  have sm45 : Same H4 H5 := fun b o z => b5 b o (fun y => by rw [y, nc] at z; cases z) (same_new nc b o z)
  have tp5 := tp4.same sm45
  have fp : Fine (mark e n).1 := ge.fine (by omega) (by omega)
  have frm := (mark_letters e n).1
  generalize (mark e n).1 = part at tvp5 fp frm
  -- its normal form
  refine ⟨vp, rfl, vp, part, rfl, tvp5, fp, fun H6 vt told sm6 tvt6 stt nmt => ⟨vp, rfl, ?_⟩⟩
  have tp6 := tp5.same sm6
  have tvp6 := tvp5.mono (keepT_same sm6)
  have ft : Fine told := fp.steps stt
  -- the road
  refine ⟨fun σ H' => ∃ vr y3 y8 y9, σ = [some (.ref p), some (.ref t), some (.ref nm), y3, some (.int n), some vp, some vt, some vr, y8, y9, none] ∧ Tp K H' vp (dS part) ∧ Tp K H' vt (dS told) ∧ Tp K H' vr (dS told), ?_, ?_⟩
  · refine ⟨vp, rfl, vp, part, rfl, tvp6, fp.dp, fp.dp, fun H7 o xs sm7 ho tx => ⟨o, xs, rfl, .inl (SqL.of ho), 2, xs.length, rfl, rfl, .inl ⟨by decide, by decide⟩, _, 1, rfl, rfl, ?_⟩⟩
    have lx : xs.length = size part := by rw [tx.len, List.length_map, subs_length]
    have lz := size40 fp.dp
    refine ⟨_, rfl, by omega, by omega, for_range (lo := 0) (n := (2 * (xs.length : Int) - 1).toNat) (fun k σ H' => ∃ vr y3 y8 y9, ∃ road : Ex Tx, σ = [some (.ref p), some (.ref t), some (.ref nm), y3, some (.int n), some vp, some vt, some vr, y8, y9, none] ∧ TapeAt K L H' t ∧
        Tp K H' vp (dS part) ∧ Tp K H' vt (dS told) ∧ Tp K H' vr (dS road) ∧ Steps part road ∧ M road + k ≤ M part)
      ⟨vp, _, none, none, part, rfl, tp6.same sm7, tvp6.mono (keepT_same sm7), tvt6.mono (keepT_same sm7), tvp6.mono (keepT_same sm7), .refl _, Nat.le_refl _⟩ (fun k σ H8 hk hP => ?_) (fun σ H8 hP => ?_)⟩
    · obtain ⟨vr, y3, y8, y9, road, rfl, tp8, tvp8, tvt8, tvr8, str, hM⟩ := hP
      have fr := fp.steps str
      dsimp only [gName]
      refine ⟨vr, rfl, vr, road, rfl, tvr8, fr, fr.dp, fun H9 pw ws sm9 ttw tw => ?_⟩
      have k9 := keepT_same sm9
      refine ⟨.ref pw, rfl, !ws.isEmpty, .inr (.inl ⟨ws, ttw.sq, rfl⟩), ?_⟩
      have lw : ws.length = (rws road).length := by rw [tw.len, List.length_map]
      by_cases h0 : rws road = []
      · have er : road = told := unique str stt h0 nmt
        have ew : ws = [] := List.length_eq_zero_iff.mp (by rw [lw, h0]; rfl)
        refine iteTe (by rw [ew]; rfl) ?_
        rw [er] at tvr8
        exact ⟨vr, _, _, _, rfl, tvp8.mono k9, tvt8.mono k9, tvr8.mono k9⟩
      · obtain ⟨w0, wr, ew⟩ : ∃ w0 wr, ws = w0 :: wr := by
          cases ws with
          | nil => exact absurd (List.length_eq_zero_iff.mp (by rw [← lw]; rfl)) h0
          | cons a b => exact ⟨a, b, rfl⟩
        refine iteFe (by rw [ew]; rfl) ?_
        have l1 : 1 ≤ ws.length := by rw [ew, List.length_cons]; omega
        have l2 : ws.length ≤ 120 := by
          have h1 := rws_length road
          have h2 := size40 fr.dp
          omega
        have tp9 := tp8.same sm9
        refine ⟨.ref pw, rfl, .ref t, rfl, .ref pw, rfl, pw, ws, rfl, .inr ttw.sq, t, L, ws.length, rfl, tp9, l1, by omega, fun r H10 b10 tp10 hr => ?_⟩
        have k10 := b10.keepT tp9
        obtain ⟨x, hx⟩ : ∃ x, ws[r]? = some x := ⟨_, List.getElem?_eq_getElem hr⟩
        obtain ⟨dd, hdd, tx9⟩ := tw.get' hx
        rw [List.getElem?_map] at hdd
        obtain ⟨next, hnext, rfl⟩ := Option.map_eq_some_iff.mp hdd
        have hmem := List.mem_of_getElem? hnext
        have hstep := step_of_mem hmem
        have st' := str.trans (.one hstep)
        have fn := fr.mem hmem
        have hM' : M next + (k + 1) ≤ M part := by
          have := M_step hstep
          omega
        refine ⟨pw, ws, r, x, rfl, rfl, (ttw.keep k10).sq, atI_nat hx, ?_⟩
        have k8 := k9.trans k10
        have tx10 := tx9.mono k10
        refine ⟨_, rfl, _, 3, rfl, rfl, _, rfl, ite2 (fun _ => ?_) fun _ => ?_⟩
        · refine ⟨x, rfl, x, next, rfl, tx10, fn, fun H11 v' e' sm11 te' st11 nm11 => ?_⟩
          have ee : told = e' := unique stt (st'.trans st11) nmt nm11
          subst ee
          have k11 := k8.trans (keepT_same sm11)
          refine ⟨_, _, rfl, ref_of te', te', ft.gd, dep64 ft, ft.fits, ?_⟩
          refine ⟨vt, rfl, ?_⟩
          have q := tvt8.mono k11
          refine ⟨_, _, rfl, ref_of q, q, ft.gd, dep64 ft, ft.fits, ?_⟩
          refine ⟨rfl, _, rfl, ?_⟩
          refine iteFe ne_self ?_
          exact ⟨x, _, _, _, next, rfl, tp10.same sm11, tvp8.mono k11, tvt8.mono k11, tx10.mono (keepT_same sm11), st', hM'⟩
        · exact iteF ⟨x, _, _, _, next, rfl, tp10, tvp8.mono k8, tvt8.mono k8, tx10, st', hM'⟩
    · exfalso
      obtain ⟨vr, y3, y8, y9, road, rfl, tp8, tvp8, tvt8, tvr8, str, hM⟩ := hP
      have h1 := M_size part
      have h2 := M_pos road
      have h3 : (2 * (xs.length : Int) - 1).toNat = 2 * size part - 1 := by rw [lx]; omega
      omega
  rintro σ7 H7 ⟨vr, y3, y8, y9, rfl, tvp7, tvt7, tvr7⟩
  -- the road's end
  refine ⟨vr, rfl, vr, told, rfl, tvr7, ft, ft.dp, fun H8 pw ws sm8 ttw tw => ?_⟩
  have ew : ws = [] := by
    have h1 := tw.len
    rw [nmt] at h1
    exact List.length_eq_zero_iff.mp h1
  subst ew
  refine ⟨_, _, rfl, ⟨pw, rfl⟩, .tup ttw .nil, gd_nil, by decide +kernel, fit_nil, ?_⟩
  refine ⟨rfl, _, rfl, ?_⟩
  refine iteFe (by rw [shown_nil]; exact ne_self) ?_
  have k8 := keepT_same sm8
  refine ⟨vr, rfl, ?_⟩
  have q := tvr7.mono k8
  refine ⟨_, _, rfl, ref_of q, q, ft.gd, dep64 ft, ft.fits, ?_⟩
  refine ⟨vt, rfl, ?_⟩
  have q := tvt7.mono k8
  refine ⟨_, _, rfl, ref_of q, q, ft.gd, dep64 ft, ft.fits, ?_⟩
  refine ⟨rfl, _, rfl, ?_⟩
  refine iteFe ne_self ?_
  refine ⟨vt, rfl, vt, told, rfl, tvt7.mono k8, ft, fun H9 v' e' sm9 te' st9 nm9 => ?_⟩
  have ee : told = e' := unique (.refl _) st9 nmt nm9
  subst ee
  refine ⟨_, _, rfl, ref_of te', te', ft.gd, dep64 ft, ft.fits, ?_⟩
  refine ⟨vt, rfl, ?_⟩
  have k9 := k8.trans (keepT_same sm9)
  have q := tvt7.mono k9
  refine ⟨_, _, rfl, ref_of q, q, ft.gd, dep64 ft, ft.fits, ?_⟩
  refine ⟨rfl, _, rfl, ?_⟩
  refine iteFe ne_self ?_
  have tvp9 := tvp7.mono k9
  have tvt9 := tvt7.mono k9
  -- no long literal
  refine ⟨fun σ H' => ∃ y10, σ = [some (.ref p), some (.ref t), some (.ref nm), y3, some (.int n), some vp, some vt, some vr, y8, y9, y10] ∧ Tp K H' vp (dS part) ∧ Tp K H' vt (dS told), ?_, ?_⟩
  · refine ⟨vt, rfl, vt, told, rfl, tvt9, ft.dp, ft.dp, fun H10 o xs sm10 ho tx => ?_⟩
    refine ⟨o, rfl, ⟨xs, SqL.of ho⟩, for_list (xs := xs) (fun i σ H' => ∃ y10, σ = [some (.ref p), some (.ref t), some (.ref nm), y3, some (.int n), some vp, some vt, some vr, y8, y9, y10] ∧ H' = H10) ⟨none, rfl, rfl⟩ (fun i σ H' _ hP => ?_) (fun i x σ H' hx hP => ?_) (fun σ H' hP => ?_)⟩
    · obtain ⟨_, _, rfl⟩ := hP
      exact SqL.of ho
    · obtain ⟨y10, rfl, rfl⟩ := hP
      obtain ⟨dd, hdd, tv⟩ := tx.get' hx
      rw [List.getElem?_map] at hdd
      obtain ⟨u, hu, rfl⟩ := Option.map_eq_some_iff.mp hdd
      obtain ⟨b, zs, rfl, tb, tz⟩ := tv.ex_inv
      dsimp only [gName]
      refine ⟨.ref b, rfl, b, zs, 0, .str (word u), rfl, rfl, tb.sq, atI_nat (j := 0) tz.head, rfl, _, rfl, ?_⟩
      cases hl : isL u with
      | false =>
        have hw : word u ≠ wL := fun z => by
          rw [(word_lit u).mp z] at hl
          cases hl
        refine iteFe (decide_eq_false fun z => hw (V.str.inj z)) ?_
        exact iteF ⟨_, rfl, rfl⟩
      | true =>
        cases u with
        | lit tt =>
          refine iteTe (dec_w (show decide (wL = Str.ofString "literal") = true by decide +kernel)) ?_
          obtain ⟨v1, h1, t1⟩ := tz.get (i := 1) (d := txData tt) rfl
          obtain ⟨c', cs, rfl, tc, tcs⟩ := t1.tup_inv
          have okl : okT tt := ft.lits (.lit tt) (List.mem_of_getElem? hu)
          have lt : tt.length ≤ 120 := okl.1
          have lc : cs.length = tt.length := by rw [tcs.len, List.length_map]
          refine ⟨.ref b, rfl, b, zs, 1, .ref c', rfl, rfl, tb.sq, atI_nat (j := 1) h1, c', cs, rfl, .inr tc.sq, _, 120, rfl, rfl, _, rfl, ?_⟩
          exact iteFe (decide_eq_false (by omega)) ⟨_, rfl, rfl⟩
        | atom k y => cases hl
        | un k y => cases hl
        | bin k y z => cases hl
        | tri k y z u => cases hl
    · obtain ⟨y10, rfl, rfl⟩ := hP
      exact ⟨y10, rfl, tvp9.mono (keepT_same sm10), tvt9.mono (keepT_same sm10)⟩
  rintro σ10 H10 ⟨y10, rfl, tvp10, tvt10⟩
  -- the depth
  refine ⟨vt, rfl, vt, told, rfl, tvt10, ft.dp, fun H11 sm11 => ⟨vp, rfl, vp, part, rfl, tvp10.mono (keepT_same sm11), fp.dp, fun H12 sm12 => ⟨_, _, rfl, rfl, _, rfl, ?_⟩⟩⟩
  have hd := depth_steps stt
  refine iteFe (decide_eq_false (by omega)) ?_
  have k12 := (keepT_same sm11).trans (keepT_same sm12)
  -- the letters
  refine ⟨vt, rfl, vt, told, rfl, tvt10.mono k12, ft, fun H13 o1 xs1 sm13 ho1 tx1 => ?_⟩
  have k13 := k12.trans (keepT_same sm13)
  refine ⟨vp, rfl, vp, part, rfl, tvp10.mono k13, fp, fun H14 o2 xs2 sm14 ho2 tx2 => ?_⟩
  have k14 := k13.trans (keepT_same sm14)
  refine ⟨.int n, rfl, o1, o2, n, letters told, letters part, xs1, xs2, rfl, sm14 _ _ ho1, ho2, tx1.mono (keepT_same sm14), tx2, letters_steps stt, frm, (let_ok fp).1, (let_ok fp).2, true, rfl, ?_⟩
  refine iteF ?_
  -- the targets
  refine ⟨vt, rfl, vt, told, rfl, tvt10.mono k14, ft.dp, fun H15 o3 sm15 ho3 => ?_⟩
  have k15 := k14.trans (keepT_same sm15)
  refine ⟨vp, rfl, vp, part, rfl, tvp10.mono k15, fp.dp, fun H16 o4 sm16 ho4 => ?_⟩
  exact ⟨o3, o4, targets told, targets part, rfl, sm16 _ _ ho3, ho4, targets_steps stt, tar_len fp.dp, fun _ _ => rfl⟩
end
end K12

/-! What the top leaves, fact by fact. -/
namespace K12
open PySem PySem.Spec PyProof.Rows L2
section
variable {w : World} {K : PySem.W.Frag} {h : Heap} {mg : Str → Option Value}
theorem has_mk {nm : Str} {st : Stmt} {ps : List Str} {f : Addr} {od an : Option Addr} {sl : Array (Option Value)} {oc kV dc pm cd ct : Value} (X : K.In h) (G : h.Ns mainGlobals mg)
    (a : PySem.W.nsIn K mainGlobals nm = some (some (.ref f))) (l : K.lookup f = some ⟨oc, od, .func (PySem.W.fnOf nm nm (defArgs st) (defBody st) (defScope st) .none kV dc pm an cd ct), sl⟩)
    (c : PySem.W.codeIn K cd nm = true) (k : PySem.W.keepIn K (.ref f) = true)
    (b : ∀ (kV doc pm : Value) (an : Option Addr) (cdv ct : Value) (us : List Value), us.length = ps.length → bindArgs (PySem.W.fnOf nm nm (defArgs st) (defBody st) (defScope st) .none kV doc pm an cdv ct) ⟨us, []⟩ = pure (ps.zip us)) : Has K mg nm st ps := by
  have F := fun_mk (st := st) l c k
  exact ⟨f, _, F, PySem.W.mg_of X G a, F.binds b⟩
theorem place_mk {d c : Addr} {x : Str} {ns : List Nat} {its : Array Value} {n : Nat} {od : Option Addr} {sl : Array (Option Value)} (a : PySem.W.nsIn K d x = some (some (.ref c)))
    (l : K.lookup c = some ⟨.type "tuple", od, .seq its n, sl⟩) (z : its.size ≤ sizeLine) (v : Vals (ns.map fun p : Nat => V.int p) its.toList) : PlaceAt K d x ns :=
  ⟨c, ⟨_, a, rfl⟩, _, its, n, l, rfl, rfl, z, v⟩
theorem noplace_mk {d : Addr} {x : Str} (a : PySem.W.nsIn K d x = some none) : KA K d x none := ⟨_, a, trivial⟩
theorem empty_mk {e c : Addr} {its jts : Array Value} {n m : Nat} {od od' : Option Addr} {sl sl' : Array (Option Value)} (l : K.lookup e = some ⟨.type "tuple", od, .seq its n, sl⟩) (z : its.size ≤ sizeLine) (v : Vals [.str wL, .ref c] its.toList)
    (l' : K.lookup c = some ⟨.type "tuple", od', .seq jts m, sl'⟩) (z' : jts.size ≤ sizeLine) (v' : Vals [] jts.toList) : ∀ H, Tp K H (.ref e) (dS (.lit [])) := fun H =>
  Tp.ex (.inr ⟨_, its, n, l, rfl, rfl, z, v⟩) (.cons (.str _) (.cons (.tup (.inr ⟨_, jts, m, l', rfl, rfl, z', v'⟩) .nil) .nil))
theorem kd_mk {d : Addr} {es : Array DictEntry} {n : Nat} (l : K.lookup d = some ⟨.type "dict", none, .dict es n, #[]⟩) (k : PySem.W.KeysLit w.params es.toList) (lo : (d == sysModules) = false) : KD K w d := ⟨⟨es, n, l, k⟩, lo⟩
end
end K12

open PySem PySem.W PyProof.Rows
set_option maxHeartbeats 0
open_top head for PySem.Challenge.rw_shiptrace_k12_whole_normal_form
open K12 L2
theorem PySem.Challenge.cw_shiptrace_k12_whole_normal_form_holds : PySem.Challenge.rw_shiptrace_k12_whole_normal_form.Holds := by
  refine head ?_
  k_fill
  refine K12.row_end (r := PySem.Challenge.rw_shiptrace_k12_whole_normal_form) (most := 63) (N := NLaw) (x := "_law_script") (st := sLaw) rfl (by decide) rfl scLaw (fun w h Y => PySem.W.kIn_of Y) ?F
  case F =>
    intro w mg fa h KX G hmg
    have d_places : Has (KOf KX) mg "part_places" sPlaces ["expression"] := by
      delta KOf
      refine' has_mk KX G ?a ?l ?c ?k fun _ _ _ _ _ _ us hl => match us, hl with | [_], _ => rfl
      (case a => k_is); (case l => k_is); (case c => k_is); (case k => k_is)
    have d_concat : Has (KOf KX) mg "concat_rewritings" sConcat ["left", "right"] := by
      delta KOf
      refine' has_mk KX G ?a ?l ?c ?k fun _ _ _ _ _ _ us hl => match us, hl with | [_, _], _ => rfl
      (case a => k_is); (case l => k_is); (case c => k_is); (case k => k_is)
    have d_slice : Has (KOf KX) mg "slice_rewritings" sSlice ["part", "start", "end"] := by
      delta KOf
      refine' has_mk KX G ?a ?l ?c ?k fun _ _ _ _ _ _ us hl => match us, hl with | [_, _, _], _ => rfl
      (case a => k_is); (case l => k_is); (case c => k_is); (case k => k_is)
    have d_search : Has (KOf KX) mg "search_rewritings" sSearch ["expression"] := by
      delta KOf
      refine' has_mk KX G ?a ?l ?c ?k fun _ _ _ _ _ _ us hl => match us, hl with | [_], _ => rfl
      (case a => k_is); (case l => k_is); (case c => k_is); (case k => k_is)
    have d_top : Has (KOf KX) mg "top_rewritings" sTop ["expression"] := by
      delta KOf
      refine' has_mk KX G ?a ?l ?c ?k fun _ _ _ _ _ _ us hl => match us, hl with | [_], _ => rfl
      (case a => k_is); (case l => k_is); (case c => k_is); (case k => k_is)
    have d_rws : Has (KOf KX) mg "rewritings" sRws ["expression"] := by
      delta KOf
      refine' has_mk KX G ?a ?l ?c ?k fun _ _ _ _ _ _ us hl => match us, hl with | [_], _ => rfl
      (case a => k_is); (case l => k_is); (case c => k_is); (case k => k_is)
    have d_norm : Has (KOf KX) mg "normalize" sNorm ["expression"] := by
      delta KOf
      refine' has_mk KX G ?a ?l ?c ?k fun _ _ _ _ _ _ us hl => match us, hl with | [_], _ => rfl
      (case a => k_is); (case l => k_is); (case c => k_is); (case k => k_is)
    have d_tape : Has (KOf KX) mg "_law_tape" sTape ["_law_script"] := by
      delta KOf
      refine' has_mk KX G ?a ?l ?c ?k fun _ _ _ _ _ _ us hl => match us, hl with | [_], _ => rfl
      (case a => k_is); (case l => k_is); (case c => k_is); (case k => k_is)
    have d_draw : Has (KOf KX) mg "_law_draw" sDraw ["_law_tape_here", "_law_many"] := by
      delta KOf
      refine' has_mk KX G ?a ?l ?c ?k fun _ _ _ _ _ _ us hl => match us, hl with | [_, _], _ => rfl
      (case a => k_is); (case l => k_is); (case c => k_is); (case k => k_is)
    have d_string : Has (KOf KX) mg "_law_string" sString ["_law_tape_here", "_law_size"] := by
      delta KOf
      refine' has_mk KX G ?a ?l ?c ?k fun _ _ _ _ _ _ us hl => match us, hl with | [_, _], _ => rfl
      (case a => k_is); (case l => k_is); (case c => k_is); (case k => k_is)
    have d_stamped : Has (KOf KX) mg "_law_stamped" sStamped ["_law_string_here", "_law_change", "_law_start"] := by
      delta KOf
      refine' has_mk KX G ?a ?l ?c ?k fun _ _ _ _ _ _ us hl => match us, hl with | [_, _, _], _ => rfl
      (case a => k_is); (case l => k_is); (case c => k_is); (case k => k_is)
    have d_name : Has (KOf KX) mg "_law_name" sName ["_law_tape_here", "_law_stem"] := by
      delta KOf
      refine' has_mk KX G ?a ?l ?c ?k fun _ _ _ _ _ _ us hl => match us, hl with | [_, _], _ => rfl
      (case a => k_is); (case l => k_is); (case c => k_is); (case k => k_is)
    have d_names : Has (KOf KX) mg "_law_names" sNames ["_law_tape_here", "_law_most"] := by
      delta KOf
      refine' has_mk KX G ?a ?l ?c ?k fun _ _ _ _ _ _ us hl => match us, hl with | [_, _], _ => rfl
      (case a => k_is); (case l => k_is); (case c => k_is); (case k => k_is)
    have d_literal : Has (KOf KX) mg "_law_literal" sLiteral ["_law_tape_here"] := by
      delta KOf
      refine' has_mk KX G ?a ?l ?c ?k fun _ _ _ _ _ _ us hl => match us, hl with | [_], _ => rfl
      (case a => k_is); (case l => k_is); (case c => k_is); (case k => k_is)
    have d_leaf : Has (KOf KX) mg "_law_leaf" sLeaf ["_law_tape_here", "_law_names_here"] := by
      delta KOf
      refine' has_mk KX G ?a ?l ?c ?k fun _ _ _ _ _ _ us hl => match us, hl with | [_, _], _ => rfl
      (case a => k_is); (case l => k_is); (case c => k_is); (case k => k_is)
    have d_expr : Has (KOf KX) mg "_law_expression" sExpr ["_law_tape_here", "_law_names_here", "_law_depth_here", "_law_coins"] := by
      delta KOf
      refine' has_mk KX G ?a ?l ?c ?k fun _ _ _ _ _ _ us hl => match us, hl with | [_, _, _, _], _ => rfl
      (case a => k_is); (case l => k_is); (case c => k_is); (case k => k_is)
    have d_marked : Has (KOf KX) mg "_law_marked" sMarked ["_law_part", "_law_change", "_law_count"] := by
      delta KOf
      refine' has_mk KX G ?a ?l ?c ?k fun _ _ _ _ _ _ us hl => match us, hl with | [_, _, _], _ => rfl
      (case a => k_is); (case l => k_is); (case c => k_is); (case k => k_is)
    have d_plain : Has (KOf KX) mg "_law_plain" sPlain ["_law_tape_here", "_law_names_here"] := by
      delta KOf
      refine' has_mk KX G ?a ?l ?c ?k fun _ _ _ _ _ _ us hl => match us, hl with | [_, _], _ => rfl
      (case a => k_is); (case l => k_is); (case c => k_is); (case k => k_is)
    have d_redex : Has (KOf KX) mg "_law_redex" sRedex ["_law_tape_here", "_law_names_here", "_law_depth_here"] := by
      delta KOf
      refine' has_mk KX G ?a ?l ?c ?k fun _ _ _ _ _ _ us hl => match us, hl with | [_, _, _], _ => rfl
      (case a => k_is); (case l => k_is); (case c => k_is); (case k => k_is)
    have d_visited : Has (KOf KX) mg "_law_visited" sVisited ["_law_part"] := by
      delta KOf
      refine' has_mk KX G ?a ?l ?c ?k fun _ _ _ _ _ _ us hl => match us, hl with | [_], _ => rfl
      (case a => k_is); (case l => k_is); (case c => k_is); (case k => k_is)
    have d_depth : Has (KOf KX) mg "_law_depth" sDepth ["_law_part"] := by
      delta KOf
      refine' has_mk KX G ?a ?l ?c ?k fun _ _ _ _ _ _ us hl => match us, hl with | [_], _ => rfl
      (case a => k_is); (case l => k_is); (case c => k_is); (case k => k_is)
    have d_within : Has (KOf KX) mg "_law_within" sWithin ["_law_few", "_law_many"] := by
      delta KOf
      refine' has_mk KX G ?a ?l ?c ?k fun _ _ _ _ _ _ us hl => match us, hl with | [_, _], _ => rfl
      (case a => k_is); (case l => k_is); (case c => k_is); (case k => k_is)
    have d_rising : Has (KOf KX) mg "_law_rising" sRising ["_law_few", "_law_many", "_law_first"] := by
      delta KOf
      refine' has_mk KX G ?a ?l ?c ?k fun _ _ _ _ _ _ us hl => match us, hl with | [_, _, _], _ => rfl
      (case a => k_is); (case l => k_is); (case c => k_is); (case k => k_is)
    have d_letters : Has (KOf KX) mg "_law_letters" sLetters ["_law_part"] := by
      delta KOf
      refine' has_mk KX G ?a ?l ?c ?k fun _ _ _ _ _ _ us hl => match us, hl with | [_], _ => rfl
      (case a => k_is); (case l => k_is); (case c => k_is); (case k => k_is)
    have d_targets : Has (KOf KX) mg "_law_targets" sTargets ["_law_part"] := by
      delta KOf
      refine' has_mk KX G ?a ?l ?c ?k fun _ _ _ _ _ _ us hl => match us, hl with | [_], _ => rfl
      (case a => k_is); (case l => k_is); (case c => k_is); (case k => k_is)
    have d_law : Has (KOf KX) mg "law" sLaw ["_law_script"] := by
      delta KOf
      refine' has_mk KX G ?a ?l ?c ?k fun _ _ _ _ _ _ us hl => match us, hl with | [_], _ => rfl
      (case a => k_is); (case l => k_is); (case c => k_is); (case k => k_is)
    have kd : ∃ dP, mg "PLACES" = some (.ref dP) ∧ KD (KOf KX) w dP ∧ PlaceAt (KOf KX) dP "concat" [1, 2] ∧ PlaceAt (KOf KX) dP "slice" [1] ∧ PlaceAt (KOf KX) dP "find" [1, 2] ∧ PlaceAt (KOf KX) dP "after" [1, 2] ∧ PlaceAt (KOf KX) dP "before" [1, 2] ∧
        PlaceAt (KOf KX) dP "replace all" [1, 2, 3] ∧ PlaceAt (KOf KX) dP "if" [1, 2, 3] ∧ PlaceAt (KOf KX) dP "dynamic file" [1] ∧ PlaceAt (KOf KX) dP "coin" [2, 3] ∧
        KA (KOf KX) dP "literal" none ∧ KA (KOf KX) dP "file" none ∧ KA (KOf KX) dP "optional file" none ∧ KA (KOf KX) dP "target" none ∧ KA (KOf KX) dP "concat files" none := by
      delta KOf
      refine' ⟨_, PySem.W.mg_of KX G ?a, kd_mk ?l ?k ?lo, place_mk ?a1 ?l1 ?z1 ?v1, place_mk ?a2 ?l2 ?z2 ?v2, place_mk ?a3 ?l3 ?z3 ?v3, place_mk ?a4 ?l4 ?z4 ?v4, place_mk ?a5 ?l5 ?z5 ?v5, place_mk ?a6 ?l6 ?z6 ?v6, place_mk ?a7 ?l7 ?z7 ?v7, place_mk ?a8 ?l8 ?z8 ?v8, place_mk ?a9 ?l9 ?z9 ?v9,
        noplace_mk ?n1, noplace_mk ?n2, noplace_mk ?n3, noplace_mk ?n4, noplace_mk ?n5⟩
      (case a => k_is); (case l => k_is); (case k => k_keys); (case lo => rfl)
      (case a1 => k_is); (case l1 => k_is); (case z1 => decide); (case v1 => exact .cons ⟨_, rfl⟩ (.cons ⟨_, rfl⟩ .nil))
      (case a2 => k_is); (case l2 => k_is); (case z2 => decide); (case v2 => exact .cons ⟨_, rfl⟩ .nil)
      (case a3 => k_is); (case l3 => k_is); (case z3 => decide); (case v3 => exact .cons ⟨_, rfl⟩ (.cons ⟨_, rfl⟩ .nil))
      (case a4 => k_is); (case l4 => k_is); (case z4 => decide); (case v4 => exact .cons ⟨_, rfl⟩ (.cons ⟨_, rfl⟩ .nil))
      (case a5 => k_is); (case l5 => k_is); (case z5 => decide); (case v5 => exact .cons ⟨_, rfl⟩ (.cons ⟨_, rfl⟩ .nil))
      (case a6 => k_is); (case l6 => k_is); (case z6 => decide); (case v6 => exact .cons ⟨_, rfl⟩ (.cons ⟨_, rfl⟩ (.cons ⟨_, rfl⟩ .nil)))
      (case a7 => k_is); (case l7 => k_is); (case z7 => decide); (case v7 => exact .cons ⟨_, rfl⟩ (.cons ⟨_, rfl⟩ (.cons ⟨_, rfl⟩ .nil)))
      (case a8 => k_is); (case l8 => k_is); (case z8 => decide); (case v8 => exact .cons ⟨_, rfl⟩ .nil)
      (case a9 => k_is); (case l9 => k_is); (case z9 => decide); (case v9 => exact .cons ⟨_, rfl⟩ (.cons ⟨_, rfl⟩ .nil))
      (case n1 => k_is)
      (case n2 => k_is)
      (case n3 => k_is)
      (case n4 => k_is)
      (case n5 => k_is)
    have ke : ∃ eE, mg "EMPTY_LITERAL" = some (.ref eE) ∧ ∀ H, Tp (KOf KX) H (.ref eE) (dS (.lit [])) := by
      delta KOf
      refine' ⟨_, PySem.W.mg_of KX G ?a, empty_mk ?l ?z ?v ?m ?y ?u⟩
      (case a => k_is); (case l => k_is); (case z => decide); (case v => exact .cons ⟨_, rfl⟩ (.cons rfl .nil)); (case m => k_is); (case y => decide); (case u => exact .nil)
    have km : ∃ tM, mg "MOST_CHARACTERS" = some (.int 120 tM) := by
      refine' ⟨_, (PySem.W.mg_of KX G ?a).trans ?e⟩
      (case a => k_is)
      (case e => exact rfl)
    have b_len : mg "len" = none := by
      refine' PySem.W.mg_none_of KX G ?a
      (case a => k_is)
    have b_min : mg "min" = none := by
      refine' PySem.W.mg_none_of KX G ?a
      (case a => k_is)
    have b_max : mg "max" = none := by
      refine' PySem.W.mg_none_of KX G ?a
      (case a => k_is)
    have b_abs : mg "abs" = none := by
      refine' PySem.W.mg_none_of KX G ?a
      (case a => k_is)
    have b_int : mg "int" = none := by
      refine' PySem.W.mg_none_of KX G ?a
      (case a => k_is)
    have b_tuple : mg "tuple" = none := by
      refine' PySem.W.mg_none_of KX G ?a
      (case a => k_is)
    have b_list : mg "list" = none := by
      refine' PySem.W.mg_none_of KX G ?a
      (case a => k_is)
    have b_range : mg "range" = none := by
      refine' PySem.W.mg_none_of KX G ?a
      (case a => k_is)
    have b_isinstance : mg "isinstance" = none := by
      refine' PySem.W.mg_none_of KX G ?a
      (case a => k_is)
    have b_repr : mg "repr" = none := by
      refine' PySem.W.mg_none_of KX G ?a
      (case a => k_is)
    obtain ⟨dP, mP, kdP, p1, p2, p3, p4, p5, p6, p7, p8, p9, n1, n2, n3, n4, n5⟩ := kd
    obtain ⟨eE, mE, tE⟩ := ke
    obtain ⟨tM, mM⟩ := km
    obtain ⟨f, fd, D⟩ := d_law
    have same := D.g.symm.trans hmg
    cases same
    have T : Txt (KOf KX) w mg dP eE tM := ⟨mP, kdP, p1, p2, p3, p4, p5, p6, p7, p8, p9, n1, n2, n3, n4, n5, mE, tE, mM, b_len, b_min, b_max, b_abs, b_int, b_tuple, b_list, b_range, b_isinstance, b_repr⟩
    have defs : Defs (KOf KX) mg := ⟨d_places, d_concat, d_slice, d_search, d_top, d_rws, d_norm, d_tape, d_draw, d_string, d_stamped, d_name, d_names, d_literal, d_leaf, d_expr, d_marked, d_plain, d_redex, d_visited, d_depth, d_within, d_rising, d_letters, d_targets⟩
    exact ⟨fd, D.F, D.b, fun base cdv s H p ns _ _ _ hS => law_reads T (promises T defs) hS⟩
