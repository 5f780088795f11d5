import PyProof.Rows.All
import Wide.All
import OpenK.AllK
import Wide.FinOn
import HandS.Text
import PyProof.ReprReads
import HandS.ForMost
import HandS.ForExc
import KE.KeyNested
import KE.KEqNest
import KE.KDictPairs
import KE.KDictZip
import KE.KDictWalk
import PyProof.ReprRoads
import PyProof.NeKinds
import HandS.IsInst
import HandS.Zip
import KE.KSortTupG
import HandS.Conv
import KE.KIntText
import PyProof.CallFns
import HandS.Wide
import HandS.WideMore
import PySem.Challenge.RW_gatekinds_k15_whole_texts_by_an_own_read
import HandS.Walk
import HandS.Style
import HandS.StrMore
import HandS.Property
import KE.KExcSuper
import HandS.TryOnly
import HandS.Ends
section
set_option Elab.async false
set_option linter.all false
set_option maxRecDepth 100000
namespace K15
open PySem L2 TL

/-- a text, as its signs -/
abbrev Tx := List Nat
def isSig (c : Nat) : Bool := c == 32 || (decide (97 ≤ c) && decide (c ≤ 122))
def isDig (c : Nat) : Bool := decide (48 ≤ c) && decide (c ≤ 57)
def intT (i : Int) : Tx := if i < 0 then 45 :: numL i.natAbs else numL i.natAbs

/-! ### sorting by a text -/
section sort
variable {α β : Type}
def insE (f : α → Tx) (x : α) : List α → List α
  | [] => [x]
  | y :: r => if f y < f x then y :: insE f x r else x :: y :: r
def srtE (f : α → Tx) (l : List α) : List α := l.foldr (insE f) []
theorem insE_perm (f : α → Tx) (x : α) : ∀ l : List α, (insE f x l).Perm (x :: l)
  | [] => List.Perm.refl _
  | y :: r => by
    unfold insE
    by_cases h : f y < f x
    · rw [if_pos h]
      exact ((insE_perm f x r).cons y).trans (List.Perm.swap x y r)
    · rw [if_neg h]
theorem srtE_perm (f : α → Tx) : ∀ l : List α, (srtE f l).Perm l
  | [] => List.Perm.refl _
  | x :: r => (insE_perm f x (srtE f r)).trans ((srtE_perm f r).cons x)
theorem insE_map (g : α → β) (f : β → Tx) (x : α) : ∀ l : List α, insE f (g x) (l.map g) = (insE (fun a => f (g a)) x l).map g
  | [] => rfl
  | y :: r => by
    show insE f (g x) (g y :: r.map g) = _
    unfold insE
    by_cases h : f (g y) < f (g x)
    · rw [if_pos h, if_pos h, List.map_cons, insE_map g f x r]
    · rw [if_neg h, if_neg h, List.map_cons, List.map_cons]
theorem srtE_map (g : α → β) (f : β → Tx) : ∀ l : List α, srtE f (l.map g) = (srtE (fun a => f (g a)) l).map g
  | [] => rfl
  | x :: r => by
    show insE f (g x) (srtE f (r.map g)) = _
    rw [srtE_map g f r, insE_map]
    rfl
theorem tx_lt_or (a b : Tx) : a < b ∨ a = b ∨ b < a := by
  by_cases h : a < b
  · exact .inl h
  · by_cases h' : b < a
    · exact .inr (.inr h')
    · exact .inr (.inl (List.le_antisymm (List.not_lt.mp h') (List.not_lt.mp h)))
theorem tx_trans {a b c : Tx} (h : a < b) (h' : b < c) : a < c := List.lt_trans h h'
theorem tx_irr (a : Tx) : ¬ a < a := List.lt_irrefl a
theorem tx_asymm {a b : Tx} (h : a < b) : ¬ b < a := fun h' => tx_irr a (tx_trans h h')
/-- ascending by f -/
abbrev Asc (f : α → Tx) (l : List α) : Prop := l.Pairwise fun a b => f a < f b
theorem insE_asc (f : α → Tx) (x : α) : ∀ l : List α, Asc f l → (∀ y ∈ l, f y ≠ f x) → Asc f (insE f x l)
  | [], _, _ => List.pairwise_singleton ..
  | y :: r, h, hn => by
    obtain ⟨h1, h2⟩ := List.pairwise_cons.mp h
    unfold insE
    by_cases hy : f y < f x
    · rw [if_pos hy]
      refine List.pairwise_cons.mpr ⟨fun z hz => ?_, insE_asc f x r h2 fun z hz => hn z (List.mem_cons_of_mem _ hz)⟩
      rcases List.mem_cons.mp ((insE_perm f x r).mem_iff.mp hz) with e | hz
      · rw [e]; exact hy
      · exact h1 z hz
    · rw [if_neg hy]
      have hx : f x < f y := by
        rcases tx_lt_or (f x) (f y) with q | q | q
        · exact q
        · exact absurd q.symm (hn y List.mem_cons_self)
        · exact absurd q hy
      refine List.pairwise_cons.mpr ⟨fun z hz => ?_, h⟩
      rcases List.mem_cons.mp hz with e | hz
      · rw [e]; exact hx
      · exact tx_trans hx (h1 z hz)
theorem srtE_asc (f : α → Tx) : ∀ l : List α, (l.map f).Nodup → Asc f (srtE f l)
  | [], _ => List.Pairwise.nil
  | x :: r, h => by
    rw [List.map_cons, List.nodup_cons] at h
    refine insE_asc f x _ (srtE_asc f r h.2) fun y hy e => h.1 ?_
    rw [← e]
    exact List.mem_map.mpr ⟨y, (srtE_perm f r).mem_iff.mp hy, rfl⟩
theorem asc_unique {f : α → Tx} : ∀ {l m : List α}, l.Perm m → Asc f l → Asc f m → l = m
  | [], m, p, _, _ => by rw [List.nil_perm.mp p]
  | x :: l, [], p, _, _ => by exact absurd p.length_eq (by simp)
  | x :: l, y :: m, p, h, h' => by
    obtain ⟨h1, h2⟩ := List.pairwise_cons.mp h
    obtain ⟨h1', h2'⟩ := List.pairwise_cons.mp h'
    have e : x = y := by
      rcases List.mem_cons.mp (p.mem_iff.mp List.mem_cons_self) with e | hx
      · exact e
      · rcases List.mem_cons.mp (p.mem_iff.mpr List.mem_cons_self) with e | hy
        · exact e.symm
        · exact absurd (h1 y hy) (tx_asymm (h1' x hx))
    subst e
    rw [asc_unique ((List.perm_cons x).mp p) h2 h2']
theorem srtE_of_perm {f : α → Tx} {l m : List α} (p : l.Perm m) (hn : (l.map f).Nodup) : srtE f l = srtE f m :=
  asc_unique ((srtE_perm f l).trans (p.trans (srtE_perm f m).symm)) (srtE_asc f l hn) (srtE_asc f m ((p.map f).nodup_iff.mp hn))
end sort

/-! ### the text of a value -/
mutual
def txt : PyData → Tx
  | .none => [110, 111, 110, 101]
  | .bool _ => []
  | .int i => intT i
  | .str s => 34 :: (tl s ++ [34])
  | .list _ => []
  | .tuple xs => 40 :: (joinL [32] (txts xs) ++ [41])
  | .dict kvs => 123 :: (joinL [32] ((srtE Prod.fst (txtKv kvs)).map fun p => p.1 ++ 32 :: p.2) ++ [125])
def txts : List PyData → List Tx
  | [] => []
  | x :: xs => txt x :: txts xs
def txtKv : List (PyData × PyData) → List (Tx × Tx)
  | [] => []
  | (k, v) :: r => (txt k, txt v) :: txtKv r
end
theorem txts_map : ∀ xs, txts xs = xs.map txt
  | [] => rfl
  | x :: xs => by simp only [txts, txts_map xs, List.map_cons]
theorem txtKv_map : ∀ kvs, txtKv kvs = kvs.map fun e => (txt e.1, txt e.2)
  | [] => rfl
  | (k, v) :: r => by simp only [txtKv, txtKv_map r, List.map_cons]
/-! no dict in it -/
mutual
def hasD : PyData → Bool
  | .tuple xs => hasDs xs
  | .dict _ => true
  | .none | .bool _ | .int _ | .str _ | .list _ => false
def hasDs : List PyData → Bool
  | [] => false
  | x :: xs => hasD x || hasDs xs
end
theorem hasDs_any : ∀ xs, hasDs xs = xs.any hasD
  | [] => rfl
  | x :: xs => by simp only [hasDs, hasDs_any xs, List.any_cons]
/-- what of a value is right but for its depth -/
def leafStr (s : Str) : Bool := decide (s.length ≤ 4000) && (tl s).all isSig
def leafInt (i : Int) : Bool := decide (i.natAbs < 10 ^ 4000)
mutual
def okD : PyData → Bool
  | .none => true
  | .bool _ => false
  | .int i => leafInt i
  | .str s => leafStr s
  | .list _ => false
  | .tuple xs => okDs xs
  | .dict kvs => okKv kvs && decide ((txtKv kvs).map (·.1)).Nodup
def okDs : List PyData → Bool
  | [] => true
  | x :: xs => okD x && okDs xs
def okKv : List (PyData × PyData) → Bool
  | [] => true
  | (k, v) :: r => okD k && !hasD k && okD v && okKv r
end
theorem okDs_all : ∀ xs, okDs xs = xs.all okD
  | [] => rfl
  | x :: xs => by simp only [okDs, okDs_all xs, List.all_cons]
theorem okKv_all : ∀ kvs, okKv kvs = kvs.all fun e => okD e.1 && !hasD e.1 && okD e.2
  | [] => rfl
  | (k, v) :: r => by simp only [okKv, okKv_all r, List.all_cons]
/-! is_plain_in -/
mutual
def plain (left : Nat) : PyData → Bool
  | .none => true
  | .bool _ => false
  | .int i => leafInt i
  | .str s => leafStr s
  | .list _ => false
  | .tuple xs => decide (0 < left) && plains (left - 1) xs
  | .dict kvs => decide (0 < left) && plainKv (left - 1) kvs
def plains (left : Nat) : List PyData → Bool
  | [] => true
  | x :: xs => plain left x && plains left xs
def plainKv (left : Nat) : List (PyData × PyData) → Bool
  | [] => true
  | (k, v) :: r => plain (min left 6) k && plain left v && plainKv left r
end
theorem plains_all (n : Nat) : ∀ xs, plains n xs = xs.all (plain n)
  | [] => by simp only [plains, List.all_nil]
  | x :: xs => by simp only [plains, plains_all n xs, List.all_cons]
theorem plainKv_all (n : Nat) : ∀ kvs, plainKv n kvs = kvs.all fun e => plain (min n 6) e.1 && plain n e.2
  | [] => by simp only [plainKv, List.all_nil]
  | (k, v) :: r => by simp only [plainKv, plainKv_all n r, List.all_cons]
/-! its dicts sorted by the texts of their keys -/
mutual
def srt : PyData → PyData
  | .none => .none
  | .bool b => .bool b
  | .int i => .int i
  | .str s => .str s
  | .list xs => .list xs
  | .tuple xs => .tuple (srts xs)
  | .dict kvs => .dict (srtE (fun e => txt e.1) (srtKv kvs))
def srts : List PyData → List PyData
  | [] => []
  | x :: xs => srt x :: srts xs
def srtKv : List (PyData × PyData) → List (PyData × PyData)
  | [] => []
  | (k, v) :: r => (k, srt v) :: srtKv r
end
theorem srts_map : ∀ xs, srts xs = xs.map srt
  | [] => by simp only [srts, List.map_nil]
  | x :: xs => by simp only [srts, srts_map xs, List.map_cons]
theorem srtKv_map : ∀ kvs, srtKv kvs = kvs.map fun e => (e.1, srt e.2)
  | [] => by simp only [srtKv, List.map_nil]
  | (k, v) :: r => by simp only [srtKv, srtKv_map r, List.map_cons]

/-! ### the reader -/
def rdStr (s : Tx) : Option (PyData × Tx) :=
  match s.dropWhile isSig with
  | 34 :: r => if (s.takeWhile isSig).length ≤ 4000 then some (.str ⟨(s.takeWhile isSig).toArray⟩, r) else none
  | _ => none
def negOf (s : Tx) : Bool := s.head? == some 45
def behind (s : Tx) : Tx := if negOf s then s.drop 1 else s
def badDigits (neg : Bool) (w : Tx) : Bool := w.isEmpty || decide (4000 < w.length) || (w.head? == some 48 && (neg || decide (1 < w.length)))
def numOf (neg : Bool) (w : Tx) : Int := if neg then -(NumText.digitsVal w : Int) else (NumText.digitsVal w : Int)
def rdInt (s : Tx) : Option (PyData × Tx) :=
  if badDigits (negOf s) ((behind s).takeWhile isDig) then none
  else some (.int (numOf (negOf s) ((behind s).takeWhile isDig)), (behind s).dropWhile isDig)
/-- behind one blank, but at the first -/
def blank (first : Bool) (s : Tx) : Option Tx := if first then some s else if s.head? = some 32 then some (s.drop 1) else none
def rdItems (f : Tx → Option (PyData × Tx)) : Nat → List PyData → Tx → Option (PyData × Tx)
  | 0, _, _ => none
  | n + 1, acc, s =>
    if s.head? = some 41 then some (.tuple acc, s.drop 1)
    else (blank acc.isEmpty s).bind fun s1 => (f s1).bind fun r => rdItems f n (acc ++ [r.1]) r.2
def ltOpt : Option Tx → Tx → Bool
  | none, _ => true
  | some l, t => decide (l < t)
def rdPairs (fk fv : Tx → Option (PyData × Tx)) : Nat → List (PyData × PyData) → Option Tx → Tx → Option (PyData × Tx)
  | 0, _, _, _ => none
  | n + 1, acc, last, s =>
    if s.head? = some 125 then some (.dict acc, s.drop 1)
    else (blank acc.isEmpty s).bind fun s1 => (fk s1).bind fun r =>
      let told := s1.take (s1.length - r.2.length)
      if hasD r.1 || !ltOpt last told then none
      else (blank false r.2).bind fun s3 => (fv s3).bind fun q => rdPairs fk fv n (acc ++ [(r.1, q.1)]) (some told) q.2
def rd : Nat → Nat → Tx → Option (PyData × Tx)
  | m, left, s =>
    if s.take 4 = [110, 111, 110, 101] then some (.none, s.drop 4)
    else if s.head? = some 34 then rdStr (s.drop 1)
    else if s.head? = some 40 then match m, left with
      | m + 1, left + 1 => rdItems (rd m left) s.length [] (s.drop 1)
      | _, _ => none
    else if s.head? = some 123 then match m, left with
      | m + 1, left + 1 => rdPairs (rd m (min left 6)) (rd m left) s.length [] none (s.drop 1)
      | _, _ => none
    else rdInt s
end K15
end

section
set_option Elab.async false
set_option linter.all false
set_option maxRecDepth 100000
namespace K15
open PySem L2 TL

/-! ### digits -/
theorem numL_head : ∀ n : Nat, ∃ c r, numL n = c :: r ∧ 48 ≤ c ∧ c ≤ 57 ∧ (c = 48 → n = 0 ∧ r = []) := by
  intro n
  induction n using Nat.strongRecOn with
  | _ n ih =>
    by_cases h : n < 10
    · rw [numL_lt h]
      exact ⟨_, [], rfl, by omega, by omega, fun e => ⟨by omega, rfl⟩⟩
    · rw [numL_step (by omega)]
      obtain ⟨c, r, e, h1, h2, h3⟩ := ih (n / 10) (by omega)
      rw [e]
      refine ⟨c, r ++ [48 + n % 10], rfl, h1, h2, fun q => ?_⟩
      have := (h3 q).1
      omega
theorem isDig_of {c : Nat} (h : 48 ≤ c ∧ c ≤ 57) : isDig c = true := by simp [isDig, h.1, h.2]
theorem of_isDig {c : Nat} (h : isDig c = true) : 48 ≤ c ∧ c ≤ 57 := by simpa [isDig] using h
/-- what may stand behind a value -/
def Stop (s : Tx) : Prop := ∀ c, s.head? = some c → isDig c = false
theorem tw_app {p : Nat → Bool} : ∀ (l s : Tx), (∀ c ∈ l, p c = true) → (∀ c, s.head? = some c → p c = false) → (l ++ s).takeWhile p = l ∧ (l ++ s).dropWhile p = s
  | [], s, _, h => by
    cases s with
    | nil => exact ⟨rfl, rfl⟩
    | cons c r =>
      have := h c rfl
      simp [List.takeWhile, List.dropWhile, this]
  | c :: l, s, hl, h => by
    obtain ⟨a, b⟩ := tw_app l s (fun d hd => hl d (List.mem_cons_of_mem _ hd)) h
    have hc := hl c List.mem_cons_self
    simp [List.takeWhile, List.dropWhile, hc, a, b]
theorem dig_all (n : Nat) : ∀ c ∈ numL n, isDig c = true := fun c hc => isDig_of (numL_digits n c hc)
theorem rdInt_int {i : Int} {rest : Tx} (hs : Stop rest) (hi : leafInt i = true) : rdInt (intT i ++ rest) = some (.int i, rest) := by
  have hb : i.natAbs < 10 ^ 4000 := by simpa [leafInt] using hi
  have hl : (numL i.natAbs).length ≤ 4000 := numL_len (by decide) hb
  obtain ⟨a, b⟩ := tw_app (numL i.natAbs) rest (dig_all _) hs
  obtain ⟨c, r, e, c1, c2, c3⟩ := numL_head i.natAbs
  have l1 : decide (4000 < (numL i.natAbs).length) = false := decide_eq_false (by omega)
  unfold rdInt intT
  by_cases h : i < 0
  · rw [if_pos h]
    have hn : negOf ((45 :: numL i.natAbs) ++ rest) = true := rfl
    have hbh : behind ((45 :: numL i.natAbs) ++ rest) = numL i.natAbs ++ rest := rfl
    rw [hn, hbh, a, b]
    have hc : c ≠ 48 := fun q => by have := (c3 q).1; omega
    have : badDigits true (numL i.natAbs) = false := by
      unfold badDigits
      rw [l1, e]
      simp [hc]
    rw [this]
    simp only [Bool.false_eq_true, if_false, numOf, if_true, numL_val]
    congr 3
    omega
  · rw [if_neg h]
    have hne : c ≠ 45 := by omega
    have hn : negOf (numL i.natAbs ++ rest) = false := by
      rw [e]
      simp [negOf, hne]
    have hbh : behind (numL i.natAbs ++ rest) = numL i.natAbs ++ rest := by
      unfold behind
      rw [hn]
      rfl
    rw [hn, hbh, a, b]
    have : badDigits false (numL i.natAbs) = false := by
      unfold badDigits
      rw [l1, e]
      by_cases hc : c = 48
      · have := (c3 hc).2
        subst this
        simp
      · simp [hc]
    rw [this]
    simp only [Bool.false_eq_true, if_false, numOf, numL_val]
    congr 3
    omega
theorem rdStr_str {s : Str} {rest : Tx} (hs : leafStr s = true) : rdStr (tl s ++ 34 :: rest) = some (.str s, rest) := by
  have hs' : s.length ≤ 4000 ∧ ∀ c ∈ tl s, isSig c = true := by
    unfold leafStr at hs
    rw [Bool.and_eq_true, decide_eq_true_eq, List.all_eq_true] at hs
    exact hs
  obtain ⟨a, b⟩ := tw_app (p := isSig) (tl s) (34 :: rest) hs'.2 (fun c hc => by
    have : c = 34 := by simpa using hc.symm
    subst this
    decide)
  unfold rdStr
  rw [a, b]
  have : (tl s).length ≤ 4000 := by rw [← len_tl]; exact hs'.1
  simp only [this, if_true]

/-! ### how a text begins -/
theorem intT_head (i : Int) : ∃ c r, intT i = c :: r ∧ (c = 45 ∨ 48 ≤ c ∧ c ≤ 57) := by
  obtain ⟨c, r, e, c1, c2, _⟩ := numL_head i.natAbs
  unfold intT
  split
  · exact ⟨_, _, rfl, .inl rfl⟩
  · exact ⟨c, r, e, .inr ⟨c1, c2⟩⟩
theorem txt_head : ∀ {d : PyData}, okD d = true → ∃ c r, txt d = c :: r ∧ c ≠ 41 ∧ c ≠ 125 ∧ c ≠ 32
  | .none, _ => by simp only [txt]; exact ⟨110, _, rfl, by decide, by decide, by decide⟩
  | .bool _, h => by simp [okD] at h
  | .int i, _ => by
    obtain ⟨c, r, e, hc⟩ := intT_head i
    refine ⟨c, r, by simp only [txt]; exact e, ?_, ?_, ?_⟩ <;> omega
  | .str s, _ => by simp only [txt]; exact ⟨34, _, rfl, by decide, by decide, by decide⟩
  | .list _, h => by simp [okD] at h
  | .tuple xs, _ => by simp only [txt]; exact ⟨40, _, rfl, by decide, by decide, by decide⟩
  | .dict kvs, _ => by simp only [txt]; exact ⟨123, _, rfl, by decide, by decide, by decide⟩
/-- what is joined, but for the first -/
def tailJ (ts : List Tx) : Tx := ts.flatMap fun t => 32 :: t
theorem joinL_tail : ∀ (t : Tx) (ts : List Tx), joinL [32] (t :: ts) = t ++ tailJ ts
  | t, [] => by simp [joinL, tailJ]
  | t, u :: ts => by
    show t ++ ([32] ++ joinL [32] (u :: ts)) = _
    rw [joinL_tail u ts]
    simp [tailJ]
theorem stop_tail (ts : List Tx) {c : Nat} {rest : Tx} (hc : isDig c = false) : Stop (tailJ ts ++ c :: rest) := by
  intro d hd
  cases ts with
  | nil =>
    have : c = d := by simpa [tailJ] using hd
    subst this
    exact hc
  | cons t ts =>
    have : 32 = d := by simpa [tailJ] using hd
    subst this
    decide
theorem tailJ_len : ∀ ts : List Tx, ts.length ≤ (tailJ ts).length
  | [] => Nat.zero_le _
  | t :: ts => by
    have := tailJ_len ts
    simp only [tailJ, List.flatMap_cons, List.length_append, List.length_cons] at this ⊢
    omega

/-! ### the reader reads the text -/
/-- what is to be shown of each part -/
def Reads1 (d : PyData) : Prop := ∀ (m left : Nat) (rest : Tx), left ≤ m → Stop rest → rd m left (txt d ++ rest) = if plain left d = true then some (srt d, rest) else none
theorem blank_cons (s : Tx) : blank false (32 :: s) = some s := rfl
theorem items_tail {f : Tx → Option (PyData × Tx)} {left : Nat} (rest : Tx) : ∀ (xs : List PyData), (∀ x ∈ xs, okD x = true ∧ ∀ r, Stop r → f (txt x ++ r) = if plain left x = true then some (srt x, r) else none) →
    ∀ (fuel : Nat) (acc : List PyData), acc ≠ [] → xs.length < fuel → rdItems f fuel acc (tailJ (txts xs) ++ 41 :: rest) = if plains left xs = true then some (.tuple (acc ++ srts xs), rest) else none
  | [], _, 0, _, _, hf => absurd hf (by simp)
  | [], _, fuel + 1, acc, _, _ => by
    simp [rdItems, txts, tailJ, plains, srts]
  | x :: xs, _, 0, _, _, hf => absurd hf (by simp)
  | x :: xs, h, fuel + 1, acc, ha, hf => by
    obtain ⟨ok, hx⟩ := h x List.mem_cons_self
    have e : tailJ (txts (x :: xs)) ++ 41 :: rest = 32 :: (txt x ++ (tailJ (txts xs) ++ 41 :: rest)) := by
      simp [txts, tailJ]
    have hemp : acc.isEmpty = false := by cases acc <;> simp_all
    rw [e]
    unfold rdItems
    rw [if_neg (by simp), hemp, blank_cons]
    simp only [Option.bind_some]
    rw [hx _ (stop_tail _ (by decide))]
    by_cases hp : plain left x = true
    · rw [if_pos hp]
      simp only [Option.bind_some]
      rw [items_tail rest xs (fun y hy => h y (List.mem_cons_of_mem _ hy)) fuel (acc ++ [srt x]) (by simp) (by simp only [List.length_cons] at hf; omega)]
      simp [plains, hp, srts]
    · rw [if_neg hp]
      simp [plains, hp]
theorem items_all {f : Tx → Option (PyData × Tx)} {left : Nat} (rest : Tx) (xs : List PyData) (h : ∀ x ∈ xs, okD x = true ∧ ∀ r, Stop r → f (txt x ++ r) = if plain left x = true then some (srt x, r) else none)
    (fuel : Nat) (hf : xs.length < fuel) : rdItems f fuel [] (joinL [32] (txts xs) ++ 41 :: rest) = if plains left xs = true then some (.tuple (srts xs), rest) else none := by
  cases fuel with
  | zero => exact absurd hf (by simp)
  | succ fuel =>
    cases xs with
    | nil => simp [rdItems, txts, joinL, plains, srts]
    | cons x xs =>
      obtain ⟨ok, hx⟩ := h x List.mem_cons_self
      obtain ⟨c, r, ec, c1, c2, c3⟩ := txt_head ok
      have e : joinL [32] (txts (x :: xs)) ++ 41 :: rest = txt x ++ (tailJ (txts xs) ++ 41 :: rest) := by
        simp only [txts]
        rw [joinL_tail, List.append_assoc]
      rw [e]
      unfold rdItems
      rw [if_neg (by rw [ec]; simp; omega)]
      simp only [List.isEmpty_nil, blank, if_true, Option.bind_some]
      rw [hx _ (stop_tail _ (by decide))]
      by_cases hp : plain left x = true
      · rw [if_pos hp]
        simp only [Option.bind_some]
        rw [items_tail rest xs (fun y hy => h y (List.mem_cons_of_mem _ hy)) fuel ([] ++ [srt x]) (by simp) (by simp only [List.length_cons] at hf; omega)]
        simp [plains, hp, srts]
      · rw [if_neg hp]
        simp [plains, hp]
/-- the text of a pair -/
abbrev prT (e : PyData × PyData) : Tx := txt e.1 ++ 32 :: txt e.2
theorem srt_noD : ∀ d : PyData, hasD d = false → srt d = d
  | .none, _ | .bool _, _ | .int _, _ | .str _, _ | .list _, _ => by simp only [srt]
  | .dict _, h => by simp [hasD] at h
  | .tuple xs, h => by
    simp only [srt]
    rw [srts_noD xs (by simpa only [hasD] using h)]
where
  srts_noD : ∀ xs : List PyData, hasDs xs = false → srts xs = xs
  | [], _ => by simp only [srts]
  | x :: xs, h => by
    simp only [hasDs, Bool.or_eq_false_iff] at h
    simp only [srts]
    rw [srt_noD x h.1, srts_noD xs h.2]
structure PairOk (fk fv : Tx → Option (PyData × Tx)) (left : Nat) (e : PyData × PyData) : Prop where
  ok : okD e.1 = true
  nod : hasD e.1 = false
  rk : ∀ r, Stop r → fk (txt e.1 ++ r) = if plain (min left 6) e.1 = true then some (e.1, r) else none
  rv : ∀ r, Stop r → fv (txt e.2 ++ r) = if plain left e.2 = true then some (srt e.2, r) else none
abbrev srt2 (e : PyData × PyData) : PyData × PyData := (e.1, srt e.2)
def AscFrom (last : Option Tx) : List (PyData × PyData) → Prop
  | [] => True
  | e :: es => ltOpt last (txt e.1) = true ∧ AscFrom (some (txt e.1)) es
theorem AscFrom.of {es : List (PyData × PyData)} (h : Asc (fun e => txt e.1) es) : ∀ {last : Option Tx}, (∀ l, last = some l → ∀ e ∈ es, l < txt e.1) → AscFrom last es := by
  induction es with
  | nil => intro _ _; trivial
  | cons e es ih =>
    intro last hl
    obtain ⟨h1, h2⟩ := List.pairwise_cons.mp h
    refine ⟨?_, ih h2 fun l el x hx => ?_⟩
    · cases last with
      | none => rfl
      | some l => exact decide_eq_true (hl l rfl e List.mem_cons_self)
    · cases el
      exact h1 x hx
theorem rdPairs_succ (fk fv : Tx → Option (PyData × Tx)) (n : Nat) (acc : List (PyData × PyData)) (last : Option Tx) (s : Tx) : rdPairs fk fv (n + 1) acc last s =
    if s.head? = some 125 then some (.dict acc, s.drop 1)
    else (blank acc.isEmpty s).bind fun s1 => (fk s1).bind fun r =>
      if hasD r.1 || !ltOpt last (s1.take (s1.length - r.2.length)) then none
      else (blank false r.2).bind fun s3 => (fv s3).bind fun q => rdPairs fk fv n (acc ++ [(r.1, q.1)]) (some (s1.take (s1.length - r.2.length))) q.2 := rfl
/-- one pair, behind the blank -/
theorem pair_step {fk fv : Tx → Option (PyData × Tx)} {left : Nat} {e : PyData × PyData} (h : PairOk fk fv left e) {fuel : Nat} {acc : List (PyData × PyData)} {last : Option Tx} {s0 s : Tx} (hs : Stop s) (hh : s0.head? ≠ some 125)
    (hb : blank acc.isEmpty s0 = some (prT e ++ s)) (hl : ltOpt last (txt e.1) = true) :
    rdPairs fk fv (fuel + 1) acc last s0 = if (plain (min left 6) e.1 && plain left e.2) = true then rdPairs fk fv fuel (acc ++ [srt2 e]) (some (txt e.1)) s else none := by
  rw [rdPairs_succ, if_neg hh, hb]
  simp only [Option.bind_some]
  have e1 : prT e ++ s = txt e.1 ++ (32 :: (txt e.2 ++ s)) := by simp [prT]
  rw [e1, h.rk _ (fun c hc => by
    have : 32 = c := by simpa using hc
    subst this; decide)]
  by_cases hp : plain (min left 6) e.1 = true
  · rw [if_pos hp]
    simp only [Option.bind_some]
    have et : (txt e.1 ++ (32 :: (txt e.2 ++ s))).take ((txt e.1 ++ (32 :: (txt e.2 ++ s))).length - (32 :: (txt e.2 ++ s)).length) = txt e.1 := by
      rw [List.length_append, Nat.add_sub_cancel]
      exact List.take_left' rfl
    rw [et, h.nod, hl]
    simp only [Bool.not_true, Bool.or_self, Bool.false_eq_true, if_false, blank_cons, Option.bind_some]
    rw [h.rv _ hs]
    by_cases hq : plain left e.2 = true
    · rw [if_pos hq, if_pos (by rw [hp, hq]; rfl)]
      rfl
    · rw [if_neg hq, if_neg (by rw [hp]; simpa using hq)]
      rfl
  · rw [if_neg hp, if_neg (by
      intro q
      rw [Bool.and_eq_true] at q
      exact hp q.1)]
    rfl
theorem pairs_tail {fk fv : Tx → Option (PyData × Tx)} {left : Nat} (rest : Tx) : ∀ (es : List (PyData × PyData)), (∀ e ∈ es, PairOk fk fv left e) → ∀ (fuel : Nat) (acc : List (PyData × PyData)) (last : Option Tx), acc ≠ [] → AscFrom last es → es.length < fuel →
    rdPairs fk fv fuel acc last (tailJ (es.map prT) ++ 125 :: rest) = if plainKv left es = true then some (.dict (acc ++ es.map srt2), rest) else none
  | [], _, 0, _, _, _, _, hf => absurd hf (by simp)
  | [], _, fuel + 1, acc, last, _, _, _ => by simp [rdPairs, tailJ, plainKv]
  | e :: es, _, 0, _, _, _, _, hf => absurd hf (by simp)
  | e :: es, h, fuel + 1, acc, last, ha, hl, hf => by
    have hemp : acc.isEmpty = false := by cases acc <;> simp_all
    have e0 : tailJ ((e :: es).map prT) ++ 125 :: rest = 32 :: (prT e ++ (tailJ (es.map prT) ++ 125 :: rest)) := by simp [tailJ]
    rw [e0, pair_step (h e List.mem_cons_self) (s := tailJ (es.map prT) ++ 125 :: rest) (stop_tail _ (by decide)) (by simp) (by rw [hemp]; exact blank_cons _) hl.1,
      pairs_tail rest es (fun x hx => h x (List.mem_cons_of_mem _ hx)) fuel (acc ++ [srt2 e]) _ (by simp) hl.2 (by simp only [List.length_cons] at hf; omega)]
    by_cases hp : (plain (min left 6) e.1 && plain left e.2) = true
    · rw [if_pos hp]
      have : plainKv left (e :: es) = plainKv left es := by
        obtain ⟨k, v⟩ := e
        simp only [plainKv]
        rw [show (plain (min left 6) k && plain left v) = true from hp, Bool.true_and]
      rw [this]
      simp
    · rw [if_neg hp]
      have : plainKv left (e :: es) = false := by
        obtain ⟨k, v⟩ := e
        simp only [plainKv]
        rw [show (plain (min left 6) k && plain left v) = false from by simpa using hp, Bool.false_and]
      rw [this]
      simp
theorem pairs_all {fk fv : Tx → Option (PyData × Tx)} {left : Nat} (rest : Tx) (es : List (PyData × PyData)) (h : ∀ e ∈ es, PairOk fk fv left e) (fuel : Nat) (hl : AscFrom none es) (hf : es.length < fuel) :
    rdPairs fk fv fuel [] none (joinL [32] (es.map prT) ++ 125 :: rest) = if plainKv left es = true then some (.dict (es.map srt2), rest) else none := by
  cases fuel with
  | zero => exact absurd hf (by simp)
  | succ fuel =>
    cases es with
    | nil => simp [rdPairs, joinL, plainKv]
    | cons e es =>
      obtain ⟨c, r, ec, c1, c2, c3⟩ := txt_head (h e List.mem_cons_self).ok
      have e0 : joinL [32] ((e :: es).map prT) ++ 125 :: rest = prT e ++ (tailJ (es.map prT) ++ 125 :: rest) := by
        rw [List.map_cons, joinL_tail, List.append_assoc]
      rw [e0, pair_step (h e List.mem_cons_self) (s := tailJ (es.map prT) ++ 125 :: rest) (stop_tail _ (by decide)) (by rw [prT, ec]; simpa using c2) rfl hl.1,
        pairs_tail rest es (fun x hx => h x (List.mem_cons_of_mem _ hx)) fuel ([] ++ [srt2 e]) _ (by simp) hl.2 (by simp only [List.length_cons] at hf; omega)]
      by_cases hp : (plain (min left 6) e.1 && plain left e.2) = true
      · rw [if_pos hp]
        have : plainKv left (e :: es) = plainKv left es := by
          obtain ⟨k, v⟩ := e
          simp only [plainKv]
          rw [show (plain (min left 6) k && plain left v) = true from hp, Bool.true_and]
        rw [this]
        simp
      · rw [if_neg hp]
        have : plainKv left (e :: es) = false := by
          obtain ⟨k, v⟩ := e
          simp only [plainKv]
          rw [show (plain (min left 6) k && plain left v) = false from by simpa using hp, Bool.false_and]
        rw [this]
        simp
end K15
end

section
set_option Elab.async false
set_option linter.all false
set_option maxRecDepth 100000
namespace K15
open PySem L2 TL

theorem rd_none (m left : Nat) (r : Tx) : rd m left (110 :: 111 :: 110 :: 101 :: r) = some (.none, r) := by
  unfold rd
  rw [if_pos (show (110 :: 111 :: 110 :: 101 :: r).take 4 = [110, 111, 110, 101] from rfl)]
  rfl
theorem no_none {c : Nat} {r : Tx} (h : c ≠ 110) : ¬ (c :: r).take 4 = [110, 111, 110, 101] := by
  intro e
  simp at e
  exact h e.1
theorem rd_quote (m left : Nat) (r : Tx) : rd m left (34 :: r) = rdStr r := by
  unfold rd
  rw [if_neg (no_none (by decide)), if_pos (show (34 :: r).head? = some 34 from rfl)]
  rfl
theorem rd_par0 (m : Nat) (r : Tx) : rd m 0 (40 :: r) = none := by
  cases m <;> rfl
theorem rd_par (m left : Nat) (r : Tx) : rd (m + 1) (left + 1) (40 :: r) = rdItems (rd m left) (r.length + 1) [] r := by
  rw [rd]
  rw [if_neg (no_none (by decide)), if_neg (by simp), if_pos (show (40 :: r).head? = some 40 from rfl)]
  rfl
theorem rd_cur0 (m : Nat) (r : Tx) : rd m 0 (123 :: r) = none := by
  cases m <;> rfl
theorem rd_cur (m left : Nat) (r : Tx) : rd (m + 1) (left + 1) (123 :: r) = rdPairs (rd m (min left 6)) (rd m left) (r.length + 1) [] none r := by
  rw [rd]
  rw [if_neg (no_none (by decide)), if_neg (by simp), if_neg (by simp), if_pos (show (123 :: r).head? = some 123 from rfl)]
  rfl
theorem rd_else {m left c : Nat} {r : Tx} (h : c ≠ 110) (h1 : c ≠ 34) (h2 : c ≠ 40) (h3 : c ≠ 123) : rd m left (c :: r) = rdInt (c :: r) := by
  rw [rd.eq_def]
  dsimp only
  rw [if_neg (no_none h), if_neg (by simpa using h1), if_neg (by simpa using h2), if_neg (by simpa using h3)]

theorem joinL_len (ts : List Tx) (h : ∀ t ∈ ts, t ≠ []) : ts.length ≤ (joinL [32] ts).length := by
  cases ts with
  | nil => exact Nat.zero_le _
  | cons t ts =>
    rw [joinL_tail]
    have h1 := tailJ_len ts
    have h2 : 0 < t.length := List.length_pos_iff.mpr (h t List.mem_cons_self)
    simp only [List.length_append, List.length_cons]
    omega
theorem txt_ne {d : PyData} (h : okD d = true) : txt d ≠ [] := by
  obtain ⟨c, r, e, _⟩ := txt_head h
  rw [e]
  simp
theorem okDs_mem {xs : List PyData} (h : okDs xs = true) : ∀ x ∈ xs, okD x = true := by
  rw [okDs_all, List.all_eq_true] at h
  exact h
theorem okKv_mem {kvs : List (PyData × PyData)} (h : okKv kvs = true) : ∀ e ∈ kvs, okD e.1 = true ∧ hasD e.1 = false ∧ okD e.2 = true := by
  rw [okKv_all, List.all_eq_true] at h
  intro e he
  have := h e he
  simp only [Bool.and_eq_true, Bool.not_eq_true'] at this
  exact ⟨this.1.1, this.1.2, this.2⟩
/-- the entries in the sequence of their texts -/
abbrev byT (kvs : List (PyData × PyData)) : List (PyData × PyData) := srtE (fun e => txt e.1) kvs
theorem txt_dict (kvs : List (PyData × PyData)) : txt (.dict kvs) = 123 :: (joinL [32] ((byT kvs).map prT) ++ [125]) := by
  simp only [txt]
  rw [txtKv_map, srtE_map, List.map_map]
  rfl
theorem srt_dict (kvs : List (PyData × PyData)) : srt (.dict kvs) = .dict ((byT kvs).map srt2) := by
  simp only [srt]
  rw [srtKv_map, srtE_map]
theorem byT_asc {kvs : List (PyData × PyData)} (h : ((txtKv kvs).map (·.1)).Nodup) : Asc (fun e => txt e.1) (byT kvs) := by
  refine srtE_asc _ _ ?_
  rw [txtKv_map, List.map_map] at h
  exact h
theorem byT_plain (n : Nat) (kvs : List (PyData × PyData)) : plainKv n (byT kvs) = plainKv n kvs := by
  rw [plainKv_all, plainKv_all]
  have p : (byT kvs).Perm kvs := srtE_perm _ _
  rw [Bool.eq_iff_iff, List.all_eq_true, List.all_eq_true]
  exact ⟨fun h e he => h e (p.mem_iff.mpr he), fun h e he => h e (p.mem_iff.mp he)⟩
theorem okD_dict {kvs : List (PyData × PyData)} (h : okD (.dict kvs) = true) : okKv kvs = true ∧ ((txtKv kvs).map (·.1)).Nodup := by
  simp only [okD, Bool.and_eq_true, decide_eq_true_eq] at h
  exact h
mutual
theorem rd_txt : ∀ d : PyData, okD d = true → Reads1 d
  | .none, _ => fun m left rest _ _ => by
    simp only [txt, plain, srt, if_true]
    exact rd_none m left rest
  | .bool _, h => by simp [okD] at h
  | .list _, h => by simp [okD] at h
  | .int i, h => fun m left rest _ hs => by
    have hi : leafInt i = true := by simpa only [okD] using h
    simp only [txt, plain, srt, hi, if_true]
    obtain ⟨c, r, e, hc⟩ := intT_head i
    have e2 := rdInt_int hs hi
    rw [e] at e2 ⊢
    rw [List.cons_append] at e2 ⊢
    rw [rd_else (by omega) (by omega) (by omega) (by omega), e2]
  | .str s, h => fun m left rest _ hs => by
    have hi : leafStr s = true := by simpa only [okD] using h
    simp only [txt, plain, srt, hi, if_true]
    rw [List.cons_append, rd_quote, List.append_assoc]
    exact rdStr_str hi
  | .tuple xs, h => fun m left rest hm hs => by
    have ho : okDs xs = true := by simpa only [okD] using h
    have ih := rd_txts xs ho
    simp only [txt, plain, srt]
    rw [List.cons_append, List.append_assoc]
    show rd m left (40 :: (joinL [32] (txts xs) ++ 41 :: rest)) = _
    cases left with
    | zero =>
      rw [rd_par0]
      simp
    | succ left =>
      cases m with
      | zero => exact absurd hm (by omega)
      | succ m =>
        rw [rd_par, items_all rest xs (fun x hx => ⟨(ih x hx).1, fun r hr => (ih x hx).2 m left r (by omega) hr⟩)]
        · simp
        · have h1 := joinL_len (txts xs) (fun t ht => by
            rw [txts_map] at ht
            obtain ⟨x, hx, rfl⟩ := List.mem_map.mp ht
            exact txt_ne (ih x hx).1)
          have h2 : (txts xs).length = xs.length := by rw [txts_map, List.length_map]
          rw [List.length_append]
          omega
  | .dict kvs, h => fun m left rest hm hs => by
    obtain ⟨ho, hn⟩ := okD_dict h
    have ih := rd_txtKv kvs ho
    rw [txt_dict, srt_dict]
    simp only [plain]
    rw [List.cons_append, List.append_assoc]
    show rd m left (123 :: (joinL [32] ((byT kvs).map prT) ++ 125 :: rest)) = _
    cases left with
    | zero =>
      rw [rd_cur0]
      simp
    | succ left =>
      cases m with
      | zero => exact absurd hm (by omega)
      | succ m =>
        have hmem : ∀ e, e ∈ byT kvs → e ∈ kvs := fun e he => (srtE_perm _ _).mem_iff.mp he
        rw [rd_cur, pairs_all (left := left) rest (byT kvs) (fun e he => ?_) _ (AscFrom.of (byT_asc hn) (fun _ z => nomatch z)) ?_]
        · rw [byT_plain]
          simp
        · have h1 := joinL_len ((byT kvs).map prT) (fun t ht => by
            obtain ⟨e, he, rfl⟩ := List.mem_map.mp ht
            have := txt_ne (okKv_mem ho e (hmem e he)).1
            simp [prT])
          rw [List.length_map] at h1
          rw [List.length_append]
          omega
        · have hk := okKv_mem ho e (hmem e he)
          have hi := ih e (hmem e he)
          refine ⟨hk.1, hk.2.1, fun r hr => ?_, fun r hr => hi.2 m left r (by omega) hr⟩
          rw [hi.1 m (min left 6) r (by omega) hr, srt_noD _ hk.2.1]
theorem rd_txts : ∀ xs : List PyData, okDs xs = true → ∀ x ∈ xs, okD x = true ∧ Reads1 x
  | [], _, _, hx => nomatch hx
  | x :: xs, h, y, hy => by
    simp only [okDs, Bool.and_eq_true] at h
    rcases List.mem_cons.mp hy with e | hy
    · rw [e]
      exact ⟨h.1, rd_txt x h.1⟩
    · exact rd_txts xs h.2 y hy
theorem rd_txtKv : ∀ kvs : List (PyData × PyData), okKv kvs = true → ∀ e ∈ kvs, Reads1 e.1 ∧ Reads1 e.2
  | [], _, _, hx => nomatch hx
  | (k, v) :: kvs, h, y, hy => by
    simp only [okKv, Bool.and_eq_true] at h
    rcases List.mem_cons.mp hy with e | hy
    · rw [e]
      exact ⟨rd_txt k h.1.1.1, rd_txt v h.1.2⟩
    · exact rd_txtKv kvs h.2 y hy
end
end K15
end

section
set_option Elab.async false
set_option linter.all false
set_option maxRecDepth 100000
namespace K15
open PySem L2 TL

/-! ### what is read is right -/
mutual
def wt : PyData → Nat
  | .none => 4
  | .bool _ => 5
  | .int i => (intT i).length
  | .str s => s.length + 2
  | .list _ => 0
  | .tuple xs => 3 + wts xs
  | .dict kvs => 2 + wtKv kvs
def wts : List PyData → Nat
  | [] => 0
  | x :: xs => wt x + 2 + wts xs
def wtKv : List (PyData × PyData) → Nat
  | [] => 0
  | (k, v) :: r => wt k + wt v + 4 + wtKv r
end
/-- d, read from u ahead of rest -/
structure Got (left : Nat) (d : PyData) (s rest u : Tx) : Prop where
  eq : s = u ++ rest
  ne : u ≠ []
  ok : okD d = true
  pl : plain left d = true
  tx : hasD d = false → u = txt d
  sz : wt d ≤ 3 * u.length
def Reader (left : Nat) (f : Tx → Option (PyData × Tx)) : Prop := ∀ s d rest, f s = some (d, rest) → ∃ u, Got left d s rest u
theorem tw_split (p : Nat → Bool) : ∀ s : Tx, s = s.takeWhile p ++ s.dropWhile p := fun s => (List.takeWhile_append_dropWhile (p := p) (l := s)).symm
theorem tw_all (p : Nat → Bool) : ∀ s : Tx, ∀ c ∈ s.takeWhile p, p c = true
  | [], c, h => by simp at h
  | x :: s, c, h => by
    by_cases hx : p x = true
    · rw [List.takeWhile_cons_of_pos hx] at h
      rcases List.mem_cons.mp h with e | h
      · rw [e]; exact hx
      · exact tw_all p s c h
    · rw [List.takeWhile_cons_of_neg hx] at h
      cases h
theorem rdStr_got (left : Nat) : ∀ s d rest, rdStr s = some (d, rest) → ∃ u, Got left d (34 :: s) rest u := by
  intro s d rest h
  unfold rdStr at h
  split at h
  · rename_i r e
    split at h
    · rename_i hl
      cases h
      have hok : leafStr ⟨(s.takeWhile isSig).toArray⟩ = true := by
        unfold leafStr
        rw [Bool.and_eq_true, decide_eq_true_eq, List.all_eq_true]
        exact ⟨hl, tw_all isSig s⟩
      refine ⟨34 :: (s.takeWhile isSig ++ [34]), ?_, by simp, ?_, ?_, fun _ => ?_, ?_⟩
      · conv => lhs; rw [tw_split isSig s]
        rw [e]
        simp
      · simpa only [okD] using hok
      · simpa only [plain] using hok
      · simp only [txt]
      · simp only [wt, Str.length, List.size_toArray, List.length_cons, List.length_append, List.length_nil]
        omega
    · cases h
  · cases h
theorem digits_back : ∀ (w : Tx), (∀ c ∈ w, isDig c = true) → w ≠ [] → (w.head? = some 48 → w.length ≤ 1) → numL (NumText.digitsVal w) = w := by
  intro w
  induction h : w.length using Nat.strongRecOn generalizing w with
  | _ n ih =>
    intro hd hne h0
    rcases List.eq_nil_or_concat w with e | ⟨v, c, e⟩
    · exact absurd e hne
    · rw [List.concat_eq_append] at e
      subst e
      have hc := of_isDig (hd c (by simp))
      have ev : NumText.digitsVal (v ++ [c]) = NumText.digitsVal v * 10 + (c - 48) := by
        unfold NumText.digitsVal
        rw [List.foldl_append]
        rfl
      rw [ev]
      by_cases hv : v = []
      · subst hv
        have : NumText.digitsVal [] = 0 := rfl
        rw [this, numL_lt (by omega)]
        simp
        omega
      · have hh : (v ++ [c]).head? = v.head? := by
          cases v with
          | nil => exact absurd rfl hv
          | cons a v => rfl
        have hpos : v.head? ≠ some 48 := by
          intro q
          have := h0 (hh.trans q)
          have l1 : 0 < v.length := List.length_pos_iff.mpr hv
          rw [List.length_append] at h
          have l2 : [c].length = 1 := rfl
          omega
        have iv := ih v.length (by simp at h; omega) v rfl (fun a ha => hd a (by simp [ha])) hv (fun q => absurd q hpos)
        have hge : 1 ≤ NumText.digitsVal v := by
          rcases Nat.eq_zero_or_pos (NumText.digitsVal v) with z | z
          · rw [z] at iv
            have : numL 0 = [48] := numL_lt (by decide)
            rw [this] at iv
            rw [← iv] at hpos
            exact absurd rfl hpos
          · exact z
        rw [numL_step (by omega)]
        have a1 : (NumText.digitsVal v * 10 + (c - 48)) / 10 = NumText.digitsVal v := by omega
        have a2 : 48 + (NumText.digitsVal v * 10 + (c - 48)) % 10 = c := by omega
        rw [a1, a2, iv]
theorem digitsVal_lt : ∀ (w : Tx), (∀ c ∈ w, isDig c = true) → NumText.digitsVal w < 10 ^ w.length := by
  intro w
  induction h : w.length using Nat.strongRecOn generalizing w with
  | _ n ih =>
    intro hd
    rcases List.eq_nil_or_concat w with e | ⟨v, c, e⟩
    · subst e
      subst h
      decide
    · rw [List.concat_eq_append] at e
      subst e
      have hc := of_isDig (hd c (by simp))
      have ev : NumText.digitsVal (v ++ [c]) = NumText.digitsVal v * 10 + (c - 48) := by
        unfold NumText.digitsVal
        rw [List.foldl_append]
        rfl
      have hl : n = v.length + 1 := by simpa using h.symm
      have iv := ih v.length (by omega) v rfl (fun a ha => hd a (by simp [ha]))
      rw [ev, hl, Nat.pow_succ]
      omega
theorem rdInt_got (left : Nat) : Reader left rdInt := by
  intro s d rest h
  unfold rdInt at h
  split at h
  · cases h
  · rename_i hb
    cases h
    have hw := tw_all isDig (behind s)
    have hsp := tw_split isDig (behind s)
    generalize (behind s).takeWhile isDig = w at hb hw hsp ⊢
    generalize (behind s).dropWhile isDig = r at hsp ⊢
    have hb' : badDigits (negOf s) w = false := by simpa using hb
    unfold badDigits at hb'
    simp only [Bool.or_eq_false_iff, decide_eq_false_iff_not, Nat.not_lt] at hb'
    obtain ⟨⟨b1, b2⟩, b3⟩ := hb'
    have hne : w ≠ [] := by
      intro e
      rw [e] at b1
      simp at b1
    have h0 : w.head? = some 48 → negOf s = false ∧ w.length ≤ 1 := by
      intro q
      rw [q] at b3
      simpa using b3
    have back := digits_back w hw hne fun q => (h0 q).2
    have hlt := digitsVal_lt w hw
    have hlt' : NumText.digitsVal w < 10 ^ 4000 := Nat.lt_of_lt_of_le hlt (Nat.pow_le_pow_right (by decide) b2)
    have hpos : negOf s = true → 0 < NumText.digitsVal w := by
      intro q
      rcases Nat.eq_zero_or_pos (NumText.digitsVal w) with z | z
      · rw [z] at back
        have e0 : numL 0 = [48] := numL_lt (by decide)
        rw [e0] at back
        have := (h0 (by rw [← back]; rfl)).1
        rw [q] at this
        cases this
      · exact z
    have hleaf : leafInt (numOf (negOf s) w) = true := by
      unfold leafInt numOf
      refine decide_eq_true ?_
      generalize 10 ^ 4000 = P at hlt' ⊢
      split <;> omega
    have ht : (if negOf s then 45 :: w else w) = intT (numOf (negOf s) w) := by
      unfold intT numOf
      cases hn : negOf s with
      | true =>
        have := hpos hn
        simp only [if_true]
        rw [if_pos (by omega)]
        have : (-(NumText.digitsVal w : Int)).natAbs = NumText.digitsVal w := by omega
        rw [this, back]
      | false =>
        simp only [Bool.false_eq_true, if_false]
        rw [if_neg (by omega)]
        have : ((NumText.digitsVal w : Int)).natAbs = NumText.digitsVal w := by omega
        rw [this, back]
    refine ⟨if negOf s then 45 :: w else w, ?_, ?_, by simpa only [okD] using hleaf, by simpa only [plain] using hleaf, fun _ => by simp only [txt]; exact ht, ?_⟩
    · unfold behind at hsp
      cases hn : negOf s with
      | true =>
        rw [hn] at hsp
        simp only [if_true] at hsp ⊢
        unfold negOf at hn
        cases s with
        | nil => simp at hn
        | cons c s =>
          have : c = 45 := by simpa using hn
          subst this
          rw [List.cons_append, ← hsp]
          rfl
      | false =>
        rw [hn] at hsp
        simpa using hsp
    · split
      · simp
      · exact hne
    · simp only [wt]
      rw [← ht]
      omega
theorem blank_some {first : Bool} {s s1 : Tx} (h : blank first s = some s1) : s = (if first then s1 else 32 :: s1) := by
  unfold blank at h
  cases first with
  | true => simpa using h
  | false =>
    simp only [Bool.false_eq_true, if_false] at h ⊢
    split at h
    · rename_i hh
      cases s with
      | nil => simp at hh
      | cons c s =>
        have : c = 32 := by simpa using hh
        subst this
        cases h
        rfl
    · cases h
structure GotItems (left : Nat) (acc : List PyData) (d : PyData) (s rest : Tx) (xs : List PyData) (u : Tx) : Prop where
  d : d = .tuple (acc ++ xs)
  eq : s = u ++ 41 :: rest
  ok : okDs xs = true
  pl : plains left xs = true
  tx : hasDs xs = false → u = if acc.isEmpty then joinL [32] (txts xs) else tailJ (txts xs)
  sz : wts xs + xs.length ≤ 3 * u.length + (if acc.isEmpty then 3 else 0)
theorem items_got {left : Nat} {f : Tx → Option (PyData × Tx)} (hf : Reader left f) : ∀ (n : Nat) (acc : List PyData) (s : Tx) (d : PyData) (rest : Tx), rdItems f n acc s = some (d, rest) → ∃ xs u, GotItems left acc d s rest xs u
  | 0, acc, s, d, rest, h => by simp [rdItems] at h
  | n + 1, acc, s, d, rest, h => by
    unfold rdItems at h
    split at h
    · rename_i hh
      cases s with
      | nil => simp at hh
      | cons c s =>
        have : c = 41 := by simpa using hh
        subst this
        cases h
        refine ⟨[], [], by simp, rfl, rfl, by simp only [plains], fun _ => ?_, by simp [wts]⟩
        split <;> rfl
    · obtain ⟨s1, hb, h⟩ := Option.bind_eq_some_iff.mp h
      obtain ⟨⟨x, s2⟩, hx, h⟩ := Option.bind_eq_some_iff.mp h
      obtain ⟨xs, u, g⟩ := items_got hf n (acc ++ [x]) s2 d rest h
      obtain ⟨ux, gx⟩ := hf s1 x s2 hx
      have es := blank_some hb
      have hfalse : (acc ++ [x]).isEmpty = false := by simp
      have gt := g.tx
      have gs := g.sz
      rw [hfalse] at gt gs
      simp only [Bool.false_eq_true, if_false, Nat.add_zero] at gt gs
      refine ⟨x :: xs, (if acc.isEmpty then [] else [32]) ++ (ux ++ u), by rw [g.d]; simp, ?_, ?_, ?_, fun hd => ?_, ?_⟩
      · rw [es, gx.eq, g.eq]
        split <;> simp
      · simp only [okDs, gx.ok, g.ok, Bool.and_self]
      · simp only [plains, gx.pl, g.pl, Bool.and_self]
      · simp only [hasDs, Bool.or_eq_false_iff] at hd
        rw [gx.tx hd.1, gt hd.2]
        simp only [txts]
        rw [joinL_tail]
        split <;> simp [tailJ]
      · have := gx.sz
        simp only [wts, List.length_cons, List.length_append]
        split <;> simp only [List.length_nil, List.length_cons] <;> omega
structure GotPairs (left : Nat) (acc : List (PyData × PyData)) (last : Option Tx) (d : PyData) (s rest : Tx) (es : List (PyData × PyData)) (u : Tx) : Prop where
  d : d = .dict (acc ++ es)
  eq : s = u ++ 125 :: rest
  ok : okKv es = true
  pl : plainKv left es = true
  asc : AscFrom last es
  sz : wtKv es + 2 * es.length ≤ 3 * u.length + (if acc.isEmpty then 3 else 0)
theorem pairs_got {left : Nat} {fk fv : Tx → Option (PyData × Tx)} (hk : Reader (min left 6) fk) (hv : Reader left fv) : ∀ (n : Nat) (acc : List (PyData × PyData)) (last : Option Tx) (s : Tx) (d : PyData) (rest : Tx),
    rdPairs fk fv n acc last s = some (d, rest) → ∃ es u, GotPairs left acc last d s rest es u
  | 0, acc, last, s, d, rest, h => by simp [rdPairs] at h
  | n + 1, acc, last, s, d, rest, h => by
    rw [rdPairs_succ] at h
    split at h
    · rename_i hh
      cases s with
      | nil => simp at hh
      | cons c s =>
        have : c = 125 := by simpa using hh
        subst this
        cases h
        exact ⟨[], [], by simp, rfl, rfl, by simp only [plainKv], trivial, by simp [wtKv]⟩
    · obtain ⟨s1, hb, h⟩ := Option.bind_eq_some_iff.mp h
      obtain ⟨⟨k, s2⟩, hx, h⟩ := Option.bind_eq_some_iff.mp h
      dsimp only at h
      split at h
      · cases h
      · rename_i hc
        simp only [Bool.not_eq_true, Bool.or_eq_false_iff, Bool.not_eq_false'] at hc
        obtain ⟨s3, hb3, h⟩ := Option.bind_eq_some_iff.mp h
        obtain ⟨⟨v, s4⟩, hy, h⟩ := Option.bind_eq_some_iff.mp h
        obtain ⟨es, u, g⟩ := pairs_got hk hv n (acc ++ [(k, v)]) _ s4 d rest h
        obtain ⟨uk, gk⟩ := hk s1 k s2 hx
        obtain ⟨uv, gv⟩ := hv s3 v s4 hy
        have es0 := blank_some hb
        have es3 := blank_some hb3
        simp only [Bool.false_eq_true, if_false] at es3
        have told : s1.take (s1.length - s2.length) = txt k := by
          rw [gk.eq, List.length_append, Nat.add_sub_cancel, List.take_left' rfl, gk.tx hc.1]
        have ga := g.asc
        have hl := hc.2
        rw [told] at ga hl
        have gs := g.sz
        have hfalse : (acc ++ [(k, v)]).isEmpty = false := by simp
        rw [hfalse] at gs
        simp only [Bool.false_eq_true, if_false, Nat.add_zero] at gs
        refine ⟨(k, v) :: es, (if acc.isEmpty then [] else [32]) ++ (uk ++ 32 :: (uv ++ u)), by rw [g.d]; simp, ?_, ?_, ?_, ⟨hl, ga⟩, ?_⟩
        · rw [es0, gk.eq, es3, gv.eq, g.eq]
          split <;> simp
        · simp only [okKv, gk.ok, hc.1, gv.ok, g.ok, Bool.not_false, Bool.and_self]
        · simp only [plainKv, gk.pl, gv.pl, g.pl, Bool.and_self]
        · have h1 := gk.sz
          have h2 := gv.sz
          simp only [wtKv, List.length_cons, List.length_append]
          split <;> simp only [List.length_nil, List.length_cons] <;> omega
theorem AscFrom.all : ∀ {es : List (PyData × PyData)} {l : Tx}, AscFrom (some l) es → (∀ e ∈ es, l < txt e.1) ∧ (Asc (fun e => txt e.1) es)
  | [], _, _ => ⟨fun _ z => (nomatch z), List.Pairwise.nil⟩
  | e :: es, l, h => by
    obtain ⟨h0, hr⟩ : ltOpt (some l) (txt e.1) = true ∧ AscFrom (some (txt e.1)) es := h
    obtain ⟨a, b⟩ := AscFrom.all hr
    have h1 : l < txt e.1 := of_decide_eq_true h0
    refine ⟨fun x hx => ?_, List.pairwise_cons.mpr ⟨a, b⟩⟩
    rcases List.mem_cons.mp hx with q | hx
    · rw [q]; exact h1
    · exact tx_trans h1 (a x hx)
theorem AscFrom.none_all {es : List (PyData × PyData)} (h : AscFrom none es) : Asc (fun e => txt e.1) es := by
  cases es with
  | nil => exact List.Pairwise.nil
  | cons e es =>
    obtain ⟨h0, hr⟩ : ltOpt none (txt e.1) = true ∧ AscFrom (some (txt e.1)) es := h
    obtain ⟨a, b⟩ := AscFrom.all hr
    exact List.pairwise_cons.mpr ⟨a, b⟩
theorem asc_nodup {es : List (PyData × PyData)} (h : Asc (fun e => txt e.1) es) : ((txtKv es).map (·.1)).Nodup := by
  rw [txtKv_map, List.map_map]
  show (es.map fun e => txt e.1).Nodup
  rw [List.Nodup, List.pairwise_map]
  exact List.Pairwise.imp (fun {a b} hab e => by
    have hab' : txt a.1 < txt b.1 := hab
    rw [e] at hab'
    exact tx_irr _ hab') h
theorem rd_got : ∀ (m left : Nat), Reader left (rd m left)
  | m, left, s, d, rest, h => by
    cases s with
    | nil =>
      have : rd m left [] = none := by cases m <;> cases left <;> rfl
      rw [this] at h
      cases h
    | cons c s =>
      by_cases c1 : c = 34
      · subst c1
        rw [rd_quote] at h
        exact rdStr_got left s d rest h
      · by_cases c2 : c = 40
        · subst c2
          cases left with
          | zero => rw [rd_par0] at h; cases h
          | succ left =>
            cases m with
            | zero => simp [rd] at h
            | succ m =>
              rw [rd_par] at h
              obtain ⟨xs, u, g⟩ := items_got (rd_got m left) _ _ _ _ _ h
              refine ⟨40 :: (u ++ [41]), by rw [g.eq]; simp, by simp, ?_, ?_, fun hd => ?_, ?_⟩
              · rw [g.d]; simpa only [okD, List.nil_append] using g.ok
              · rw [g.d]; simp only [plain, List.nil_append, Nat.add_sub_cancel, g.pl]; simp
              · rw [g.d] at hd ⊢
                simp only [hasD, List.nil_append] at hd
                have := g.tx hd
                simp only [txt, List.nil_append]
                rw [this]
                rfl
              · have := g.sz
                rw [g.d]
                simp only [wt, List.nil_append, List.length_cons, List.length_append, List.length_nil, List.isEmpty_nil, if_true] at this ⊢
                omega
        · by_cases c3 : c = 123
          · subst c3
            cases left with
            | zero => rw [rd_cur0] at h; cases h
            | succ left =>
              cases m with
              | zero => simp [rd] at h
              | succ m =>
                rw [rd_cur] at h
                obtain ⟨es, u, g⟩ := pairs_got (rd_got m (min left 6)) (rd_got m left) _ _ _ _ _ _ h
                refine ⟨123 :: (u ++ [125]), by rw [g.eq]; simp, by simp, ?_, ?_, fun hd => ?_, ?_⟩
                · rw [g.d]
                  simp only [okD, List.nil_append, g.ok, Bool.true_and]
                  exact decide_eq_true (asc_nodup g.asc.none_all)
                · rw [g.d]; simp only [plain, List.nil_append, Nat.add_sub_cancel, g.pl]; simp
                · rw [g.d] at hd
                  simp [hasD] at hd
                · have := g.sz
                  rw [g.d]
                  simp only [wt, List.nil_append, List.length_cons, List.length_append, List.length_nil, List.isEmpty_nil, if_true] at this ⊢
                  omega
          · by_cases c4 : (c :: s).take 4 = [110, 111, 110, 101]
            · have hs : c :: s = 110 :: 111 :: 110 :: 101 :: (c :: s).drop 4 := by
                conv => lhs; rw [← List.take_append_drop 4 (c :: s), c4]
                rfl
              rw [hs, rd_none] at h
              cases h
              refine ⟨[110, 111, 110, 101], hs, by simp, rfl, by simp only [plain], fun _ => by simp only [txt], by simp [wt]⟩
            · have : rd m left (c :: s) = rdInt (c :: s) := by
                rw [rd.eq_def]
                dsimp only
                rw [if_neg c4, if_neg (by simpa using c1), if_neg (by simpa using c2), if_neg (by simpa using c3)]
              rw [this] at h
              exact rdInt_got left _ _ _ h
end K15
end

section
set_option Elab.async false
set_option linter.all false
set_option maxRecDepth 100000
namespace K15
open PySem L2 TL

mutual
theorem depth_of_plain : ∀ (d : PyData) (left : Nat), plain left d = true → d.depth ≤ left
  | .none, _, _ | .bool _, _, _ | .int _, _, _ | .str _, _, _ => by simp only [PyData.depth]; exact Nat.zero_le _
  | .list _, _, h => by simp [plain] at h
  | .tuple xs, left, h => by
    simp only [plain, Bool.and_eq_true, decide_eq_true_eq] at h
    have := depth_of_plains xs (left - 1) h.2
    simp only [PyData.depth]
    omega
  | .dict kvs, left, h => by
    simp only [plain, Bool.and_eq_true, decide_eq_true_eq] at h
    have := depth_of_plainKv kvs (left - 1) h.2
    simp only [PyData.depth]
    omega
theorem depth_of_plains : ∀ (xs : List PyData) (left : Nat), plains left xs = true → PyData.depthAll xs ≤ left
  | [], _, _ => by simp only [PyData.depthAll]; exact Nat.zero_le _
  | x :: xs, left, h => by
    simp only [plains, Bool.and_eq_true] at h
    have h1 := depth_of_plain x left h.1
    have h2 := depth_of_plains xs left h.2
    simp only [PyData.depthAll]
    omega
theorem depth_of_plainKv : ∀ (kvs : List (PyData × PyData)) (left : Nat), plainKv left kvs = true → PyData.depthKv kvs ≤ left
  | [], _, _ => by simp only [PyData.depthKv]; exact Nat.zero_le _
  | (k, v) :: r, left, h => by
    simp only [plainKv, Bool.and_eq_true] at h
    have h0 := depth_of_plain k (min left 6) h.1.1
    have h1 := depth_of_plain v left h.1.2
    have h2 := depth_of_plainKv r left h.2
    simp only [PyData.depthKv]
    omega
end
mutual
theorem plain_of_depth : ∀ (d : PyData) (left : Nat), okD d = true → hasD d = false → d.depth ≤ left → plain left d = true
  | .none, _, _, _, _ => by simp only [plain]
  | .bool _, _, h, _, _ => by simp [okD] at h
  | .list _, _, h, _, _ => by simp [okD] at h
  | .int i, _, h, _, _ => by simpa only [plain, okD] using h
  | .str s, _, h, _, _ => by simpa only [plain, okD] using h
  | .dict _, _, _, h, _ => by simp [hasD] at h
  | .tuple xs, left, h, h', hd => by
    simp only [PyData.depth] at hd
    simp only [plain, Bool.and_eq_true, decide_eq_true_eq]
    exact ⟨by omega, plains_of_depth xs (left - 1) (by simpa only [okD] using h) (by simpa only [hasD] using h') (by omega)⟩
theorem plains_of_depth : ∀ (xs : List PyData) (left : Nat), okDs xs = true → hasDs xs = false → PyData.depthAll xs ≤ left → plains left xs = true
  | [], _, _, _, _ => by simp only [plains]
  | x :: xs, left, h, h', hd => by
    simp only [okDs, Bool.and_eq_true] at h
    simp only [hasDs, Bool.or_eq_false_iff] at h'
    simp only [PyData.depthAll] at hd
    simp only [plains, Bool.and_eq_true]
    exact ⟨plain_of_depth x left h.1 h'.1 (by omega), plains_of_depth xs left h.2 h'.2 (by omega)⟩
end
theorem txt_inj {a b : PyData} (ha : okD a = true) (hb : okD b = true) (na : hasD a = false) (nb : hasD b = false) (e : txt a = txt b) : a = b := by
  have h1 := rd_txt a ha (a.depth + b.depth) (a.depth + b.depth) [] (Nat.le_refl _) (fun c hc => by simp at hc)
  have h2 := rd_txt b hb (a.depth + b.depth) (a.depth + b.depth) [] (Nat.le_refl _) (fun c hc => by simp at hc)
  rw [if_pos (plain_of_depth a _ ha na (by omega)), srt_noD a na] at h1
  rw [if_pos (plain_of_depth b _ hb nb (by omega)), srt_noD b nb] at h2
  rw [e] at h1
  rw [h1] at h2
  have := Option.some.inj h2
  exact (Prod.mk.inj this).1
theorem nodup_txt : ∀ {kvs : List (PyData × PyData)}, okKv kvs = true → (kvs.map (·.1)).Nodup → ((txtKv kvs).map (·.1)).Nodup
  | [], _, _ => List.nodup_nil
  | (k, v) :: r, h, hn => by
    have hm := okKv_mem h
    rw [List.map_cons, List.nodup_cons] at hn
    have hr : okKv r = true := by
      simp only [okKv, Bool.and_eq_true] at h
      exact h.2
    simp only [txtKv, List.map_cons, List.nodup_cons]
    refine ⟨fun hc => hn.1 ?_, nodup_txt hr hn.2⟩
    rw [txtKv_map, List.map_map] at hc
    obtain ⟨e, he, q⟩ := List.mem_map.mp hc
    have h1 := hm (k, v) List.mem_cons_self
    have h2 := hm e (List.mem_cons_of_mem _ he)
    have : e.1 = k := txt_inj h2.1 h1.1 h2.2.1 h1.2.1 q
    rw [← this]
    exact List.mem_map.mpr ⟨e, he, rfl⟩
theorem nodup_keys {kvs : List (PyData × PyData)} (h : ((txtKv kvs).map (·.1)).Nodup) : (kvs.map (·.1)).Nodup := by
  rw [txtKv_map, List.map_map] at h
  have h' : (kvs.map fun e => txt e.1).Nodup := h
  rw [List.Nodup, List.pairwise_map] at h' ⊢
  exact List.Pairwise.imp (fun {a b} hab e => hab (by rw [e])) h'

/-! ### another way to the same value -/
mutual
inductive Way : PyData → PyData → Prop
  | refl (d) : Way d d
  | tup {xs ys} : Ways xs ys → Way (.tuple xs) (.tuple ys)
  | dic {a b c} : WayKv a b → b.Perm c → Way (.dict a) (.dict c)
inductive Ways : List PyData → List PyData → Prop
  | nil : Ways [] []
  | cons {x y xs ys} : Way x y → Ways xs ys → Ways (x :: xs) (y :: ys)
inductive WayKv : List (PyData × PyData) → List (PyData × PyData) → Prop
  | nil : WayKv [] []
  | cons {k v u a b} : Way v u → WayKv a b → WayKv ((k, v) :: a) ((k, u) :: b)
end
structure Same2 (d e : PyData) : Prop where
  ok : okD e = true
  nod : hasD e = hasD d
  tx : txt e = txt d
  pl : ∀ left, plain left e = plain left d
structure Sames (xs ys : List PyData) : Prop where
  ok : okDs ys = true
  nod : hasDs ys = hasDs xs
  tx : txts ys = txts xs
  pl : ∀ left, plains left ys = plains left xs
structure SameKv (xs ys : List (PyData × PyData)) : Prop where
  ok : okKv ys = true
  tx : txtKv ys = txtKv xs
  pl : ∀ left, plainKv left ys = plainKv left xs
theorem okKv_perm {a b : List (PyData × PyData)} (p : a.Perm b) : okKv b = okKv a := by
  rw [okKv_all, okKv_all, Bool.eq_iff_iff, List.all_eq_true, List.all_eq_true]
  exact ⟨fun h e he => h e (p.mem_iff.mp he), fun h e he => h e (p.mem_iff.mpr he)⟩
theorem plainKv_perm {a b : List (PyData × PyData)} (p : a.Perm b) (n : Nat) : plainKv n b = plainKv n a := by
  rw [plainKv_all, plainKv_all, Bool.eq_iff_iff, List.all_eq_true, List.all_eq_true]
  exact ⟨fun h e he => h e (p.mem_iff.mp he), fun h e he => h e (p.mem_iff.mpr he)⟩
mutual
theorem way_same : ∀ {d e : PyData}, Way d e → okD d = true → Same2 d e
  | _, _, .refl d, h => ⟨h, rfl, rfl, fun _ => rfl⟩
  | .tuple xs, .tuple ys, .tup w, h => by
    have s := ways_same w (by simpa only [okD] using h)
    exact ⟨by simpa only [okD] using s.ok, by simp only [hasD, s.nod], by simp only [txt, s.tx], fun left => by simp only [plain, s.pl]⟩
  | .dict a, .dict c, .dic (b := b) w p, h => by
    obtain ⟨ho, hn⟩ := okD_dict h
    have s := wayKv_same w ho
    have hn2 : ((txtKv b).map (·.1)).Nodup := by rw [s.tx]; exact hn
    have pt : (txtKv b).Perm (txtKv c) := by
      rw [txtKv_map, txtKv_map]
      exact p.map _
    refine ⟨?_, rfl, ?_, fun left => ?_⟩
    · simp only [okD, okKv_perm p, s.ok, Bool.true_and]
      exact decide_eq_true ((pt.map (·.1)).nodup_iff.mp hn2)
    · simp only [txt]
      rw [← srtE_of_perm pt hn2, s.tx]
    · simp only [plain, plainKv_perm p, s.pl]
theorem ways_same : ∀ {xs ys : List PyData}, Ways xs ys → okDs xs = true → Sames xs ys
  | _, _, .nil, h => ⟨h, rfl, rfl, fun _ => rfl⟩
  | _, _, .cons w ws, h => by
    simp only [okDs, Bool.and_eq_true] at h
    have s1 := way_same w h.1
    have s2 := ways_same ws h.2
    exact ⟨by simp only [okDs, s1.ok, s2.ok, Bool.and_self], by simp only [hasDs, s1.nod, s2.nod], by simp only [txts, s1.tx, s2.tx], fun left => by simp only [plains, s1.pl, s2.pl]⟩
theorem wayKv_same : ∀ {xs ys : List (PyData × PyData)}, WayKv xs ys → okKv xs = true → SameKv xs ys
  | _, _, .nil, h => ⟨h, rfl, fun _ => rfl⟩
  | _, _, .cons w ws, h => by
    simp only [okKv, Bool.and_eq_true] at h
    have s1 := way_same w h.1.2
    have s2 := wayKv_same ws h.2
    exact ⟨by simp only [okKv, h.1.1.1, h.1.1.2, s1.ok, s2.ok, Bool.and_self], by simp only [txtKv, s1.tx, s2.tx], fun left => by simp only [plainKv, s1.pl, s2.pl]⟩
end
theorem wayKv_keys : ∀ {a b : List (PyData × PyData)}, WayKv a b → b.map (·.1) = a.map (·.1)
  | _, _, .nil => rfl
  | _, _, .cons _ ws => by simp only [List.map_cons, wayKv_keys ws]
end K15
end

section
set_option Elab.async false
set_option linter.all false
set_option maxRecDepth 100000
set_option pp.maxSteps 500
namespace K15
open PySem PySem.Spec PyProof.Rows

/-! ### a dict whose keys are None, ints, texts, tuples of such -/
/-- an entry: the key, the value that is the key, the value -/
abbrev En := NestedKey × Value × Value
def entOf (w : World) (x : En) : DictEntry := ⟨x.1.hash w, x.2.1, x.2.2⟩
/-- the keys stand in the heap -/
def KeysAt (h : Heap) (xs : List En) : Prop := ∀ x ∈ xs, NestedIs h x.1 x.2.1 ∧ x.1.depth ≤ 8
def Raw (w : World) (h : Heap) (d : Addr) (xs : List En) : Prop :=
  ∃ o es ep, h.get? d = some o ∧ o.ExactDict ∧ o.data = .dict es ep ∧ es.toList = xs.map (entOf w)
def keyAt (k : NestedKey) (xs : List En) (i : Nat) : Bool := match xs[i]? with
  | some x => NestedKey.beq x.1 k
  | none => false
theorem keyAt_some {k : NestedKey} {xs : List En} {i : Nat} (h : keyAt k xs i = true) : ∃ x, xs[i]? = some x ∧ x.1 = k := by
  unfold keyAt at h
  split at h
  · rename_i x e
    exact ⟨x, e, NestedKey.eq_of_beq _ _ h⟩
  · cases h
theorem keyAt_of {k : NestedKey} {xs : List En} {i : Nat} {x : En} (e : xs[i]? = some x) : keyAt k xs i = NestedKey.beq x.1 k := by
  unfold keyAt
  rw [e]
theorem keyAt_one {k : NestedKey} {xs : List En} (hn : (xs.map (·.1)).Nodup) {i j : Nat} (hi : keyAt k xs i = true) (hj : keyAt k xs j = true) : i = j := by
  obtain ⟨x, ex, kx⟩ := keyAt_some hi
  obtain ⟨y, ey, ky⟩ := keyAt_some hj
  have a : (xs.map (·.1))[i]? = some k := by rw [List.getElem?_map, ex, ← kx]; rfl
  have b : (xs.map (·.1))[j]? = some k := by rw [List.getElem?_map, ey, ← ky]; rfl
  exact (List.getElem?_inj (List.getElem?_eq_some_iff.mp a).1 hn).mp (a.trans b.symm)
section
variable {prog : Program} {w : World} {A : Around} {E : Value → Shared → Prop} {s : Shared}
theorem ent_get {es : Array DictEntry} {xs : List En} (he : es.toList = xs.map (entOf w)) (j : Nat) : es[j]? = (xs[j]?).map (entOf w) := by
  rw [← Array.getElem?_toList, he, List.getElem?_map]
theorem ent_size {es : Array DictEntry} {xs : List En} (he : es.toList = xs.map (entOf w)) : es.size = xs.length := by
  rw [← Array.length_toList, he, List.length_map]
theorem NestedIs.value {h : Heap} {k : NestedKey} {v : Value} (x : NestedIs h k v) : carriedByValue v = true ∨ ∃ a ks, v = .ref a ∧ k = .tup ks := by
  cases x with
  | none => exact .inl rfl
  | bool _ => exact .inl rfl
  | int => exact .inl rfl
  | text => exact .inl rfl
  | tup => exact .inr ⟨_, _, rfl, rfl⟩
/-- what the search asks of the places of a hash -/
structure Spots (w : World) (k : NestedKey) (xs : List En) (l : List Nat) : Prop where
  nd : l.Nodup
  at_ : ∀ i ∈ l, ∃ x, xs[i]? = some x ∧ x.1.hash w = k.hash w
  all : ∀ i, keyAt k xs i = true → i ∈ l
theorem spots {es : Array DictEntry} {xs : List En} (k : NestedKey) (he : es.toList = xs.map (entOf w)) : Spots w k xs (placesWithHash es.size (fun i => es[i]?.map (·.hash)) (k.hash w)) where
  nd := List.Pairwise.filter _ List.nodup_range
  at_ := fun i hi => by
    have hp := (List.mem_filter.mp hi).2
    dsimp only at hp
    rw [ent_get he i] at hp
    cases e : xs[i]? with
    | none => rw [e] at hp; simp at hp
    | some x =>
      rw [e] at hp
      exact ⟨x, rfl, by simpa [entOf] using hp⟩
  all := fun i hi => by
    obtain ⟨x, ex, kx⟩ := keyAt_some hi
    refine List.mem_filter.mpr ⟨List.mem_range.mpr ?_, ?_⟩
    · rw [ent_size he]
      exact (List.getElem?_eq_some_iff.mp ex).1
    · dsimp only
      rw [ent_get he i, ex, ← kx]
      simp [entOf]
/-- the answer of the search -/
theorem found_of {k : NestedKey} {xs : List En} {l : List Nat} {Q : Option Nat → Shared → Prop} (sp : Spots w k xs l) (hnone : (∀ i, keyAt k xs i = false) → Q none s) (hsome : ∀ i, keyAt k xs i = true → Q (some i) s) : Q (l.find? (keyAt k xs)) s := by
  cases e : l.find? (keyAt k xs) with
  | some i => exact hsome i (List.find?_some e)
  | none =>
    refine hnone fun i => ?_
    cases q : keyAt k xs i with
    | false => rfl
    | true => exact absurd q (List.find?_eq_none.mp e i (sp.all i q))
theorem find_snoc {k : NestedKey} {xs : List En} (pre : List Nat) (i : Nat) : (pre ++ [i]).find? (keyAt k xs) = (pre.find? (keyAt k xs)).or (if keyAt k xs i then some i else none) := by
  rw [List.find?_append]
  congr 1
  by_cases h : keyAt k xs i = true
  · simp [h]
  · simp [h]
/-- one asking of == -/
theorem ask_one {k : NestedKey} {key : Value} {x : En} {Q : Bool → Shared → Prop} (hu : A.units + 8 < cLine) (hk : NestedIs s.heap k key) (hkd : k.depth ≤ 8) (hx : NestedIs s.heap x.1 x.2.1) (h : Q (NestedKey.beq x.1 k) s) :
    wpAny (model prog w) A (eqBool (entOf w x).key key) Q E s :=
  eqAt_key x.1 k A s _ _ hx hk (by omega) _ _ _ _ h
theorem walk_plain {d : Addr} {o : Obj} {es : Array DictEntry} {ep : Nat} {xs : List En} {k : NestedKey} {key : Value} {l : List Nat} {Q : Option Nat → Shared → Prop} (hu : A.units + 8 < cLine) (hk : NestedIs s.heap k key) (hkd : k.depth ≤ 8) (ho : s.heap.get? d = some o)
    (hd : o.data = .dict es ep) (he : es.toList = xs.map (entOf w)) (hx : KeysAt s.heap xs) (sp : Spots w k xs l) (h : Q (l.find? (keyAt k xs)) s) : wpAny (model prog w) A (dictWalkPlain d key (k.hash w) es l) Q E s := by
  unfold dictWalkPlain
  refine wpAny_bind ?_
  refine wpAny_forIn_list _ (fun rest b s' => s' = s ∧ b = (none, ()) ∧ ∃ pre, l = pre ++ rest ∧ pre.find? (keyAt k xs) = none) _ ?_ ?_ _ _ ⟨rfl, rfl, [], rfl, rfl⟩
  · rintro i rest b s' ⟨rfl, rfl, pre, hl, hp⟩
    obtain ⟨x, ex, hh⟩ := sp.at_ i (by rw [hl]; simp)
    have hxi := hx x (List.mem_of_getElem? ex)
    have hei : es[i]? = some (entOf w x) := by rw [ent_get he i, ex]; rfl
    rw [hei]
    dsimp only
    rw [if_pos (show ((entOf w x).hash == k.hash w) = true by rw [show (entOf w x).hash = x.1.hash w from rfl, hh]; exact beq_self_eq_true _)]
    refine wpAny_bind (wpAny_dictEpoch ho hd (wpAny_bind (ask_one hu hk hkd hxi.1 (wpAny_bind (wpAny_dictEpoch ho hd ?_)))))
    show wpAny _ _ (if (ep != ep) = true then _ else _) _ E _
    rw [if_neg (by simp)]
    have kx : keyAt k xs i = NestedKey.beq x.1 k := keyAt_of ex
    cases hb : NestedKey.beq x.1 k with
    | true =>
      simp only [if_true]
      refine wpAny_bind (wpAny_rule (wpAny_pure ?_))
      rw [hb] at kx
      have hf : l.find? (keyAt k xs) = some i := by
        rw [hl, List.find?_append, hp]
        simp [kx]
      rw [hf] at h
      exact wpAny_pure h
    | false =>
      simp only [Bool.false_eq_true, if_false]
      refine wpAny_bind (wpAny_rule (wpAny_pure ⟨rfl, rfl, pre ++ [i], by rw [hl]; simp, ?_⟩))
      rw [find_snoc, hp, kx, hb]
      rfl
  · rintro b s' ⟨rfl, rfl, pre, hl, hp⟩
    rw [hl, List.append_nil, hp] at h
    exact wpAny_pure h
theorem tells_not {k : NestedKey} {key : Value} {stored : List Value} {Q : Bool → Shared → Prop} (hk : NestedIs s.heap k key) (hkd : k.depth ≤ 8) (hst : ∀ v ∈ stored, ∃ k', NestedIs s.heap k' v ∧ k'.depth ≤ 8) (h : Q false s) :
    wpAny (model prog w) A (tableMayTell key stored) Q E s := by
  unfold tableMayTell
  cases hem : stored.isEmpty with
  | true => exact wpAny_pure h
  | false =>
    simp only [Bool.false_eq_true, if_false]
    refine wpAny_bind (quiet_key k key 8 s hk hkd _ _ _ ?_)
    simp only [Bool.not_true, Bool.false_eq_true, if_false]
    refine wpAny_bind ?_
    refine wpAny_forIn_list _ (fun rest r s1 => s1 = s ∧ r = (none, ()) ∧ ∀ v ∈ rest, v ∈ stored) _ ?_ ?_ _ _ ⟨rfl, rfl, fun _ z => z⟩
    · rintro v rest r s1 ⟨rfl, rfl, hr⟩
      obtain ⟨k', h1, h2⟩ := hst v (hr v List.mem_cons_self)
      refine wpAny_bind (quiet_key k' v 8 s1 h1 h2 _ _ _ ?_)
      simp only [Bool.not_true, Bool.false_eq_true, if_false]
      exact wpAny_pure ⟨rfl, rfl, fun u hu => hr u (List.mem_cons_of_mem _ hu)⟩
    · rintro r s1 ⟨rfl, rfl, _⟩
      exact wpAny_pure h
theorem pre_none {k : NestedKey} {xs : List En} {l pre rest : List Nat} {i : Nat} (hn : (xs.map (·.1)).Nodup) (sp : Spots w k xs l) (hl : l = pre ++ i :: rest) (hi : keyAt k xs i = true) : pre.find? (keyAt k xs) = none := by
  refine List.find?_eq_none.mpr fun j hj q => ?_
  have e := keyAt_one hn q hi
  subst e
  have nd := sp.nd
  rw [hl, List.nodup_append] at nd
  exact nd.2.2 j hj j List.mem_cons_self rfl
set_option maxHeartbeats 1000000
theorem found_text {d : Addr} {o : Obj} {es : Array DictEntry} {ep : Nat} {xs : List En} {k : NestedKey} {y : Str} {t : Tok} {Q : Option Nat → Shared → Prop} (hu : A.units + 8 < cLine) (hk : NestedIs s.heap k (.str y t)) (hkd : k.depth ≤ 8) (ho : s.heap.get? d = some o)
    (hd : o.data = .dict es ep) (he : es.toList = xs.map (entOf w)) (hx : KeysAt s.heap xs) (hn : (xs.map (·.1)).Nodup) (hs : ∀ x ∈ xs, isExactStrKey x.2.1 = true)
    (hnone : (∀ i, keyAt k xs i = false) → Q none s) (hsome : ∀ i, keyAt k xs i = true → Q (some i) s) : wpAny (model prog w) A (foundByValue d (.str y t) es y) Q E s := by
  have is_ : ∀ x ∈ xs, (x.2.1).isStr y = NestedKey.beq x.1 k := by
    intro x hm
    have h1 := hs x hm
    have h2 := (hx x hm).1
    obtain ⟨k', v, u⟩ := x
    cases hk
    cases h2 with
    | text z t' =>
      show decide (z = y) = decide (z = y)
      rfl
    | none => cases h1
    | bool _ => cases h1
    | int => cases h1
    | tup => cases h1
  have kOf : ∀ (i : Nat) (e : DictEntry), es[i]? = some e → e.key.isStr y = keyAt k xs i := by
    intro i e hi
    rw [ent_get he i] at hi
    cases ex : xs[i]? with
    | none => rw [ex] at hi; cases hi
    | some x =>
      rw [ex] at hi
      cases hi
      rw [keyAt_of ex]
      exact is_ x (List.mem_of_getElem? ex)
  unfold foundByValue
  cases hf : es.findIdx? (fun e => e.key.isStr y) with
  | none =>
    refine wpAny_pure (hnone fun i => ?_)
    cases q : keyAt k xs i with
    | false => rfl
    | true =>
      obtain ⟨x, ex, _⟩ := keyAt_some q
      have hi : es[i]? = some (entOf w x) := by rw [ent_get he i, ex]; rfl
      have := Array.findIdx?_eq_none_iff.mp hf (entOf w x) (Array.mem_of_getElem? hi)
      rw [kOf i _ hi, q] at this
      cases this
  | some i =>
    obtain ⟨hlt, hp, _⟩ := Array.findIdx?_eq_some_iff_getElem.mp hf
    have hi : es[i]? = some es[i] := Array.getElem?_eq_getElem hlt
    have hk1 : keyAt k xs i = true := by rw [← kOf i _ hi]; exact hp
    obtain ⟨x, ex, kx⟩ := keyAt_some hk1
    have hxi := hx x (List.mem_of_getElem? ex)
    have hei : es[i]? = some (entOf w x) := by rw [ent_get he i, ex]; rfl
    dsimp only
    rw [hei]
    dsimp only
    refine wpAny_bind (wpAny_dictEpoch ho hd (wpAny_bind (ask_one hu hk hkd hxi.1 (wpAny_bind (wpAny_dictEpoch ho hd ?_)))))
    rw [if_neg (show ¬ (ep != ep) = true by simp), kx, NestedKey.beq_self, if_pos rfl]
    exact wpAny_bind (wpAny_rule (wpAny_pure (hsome i hk1)))
/-- the search of a dict -/
theorem find_mix {d : Addr} {o : Obj} {es : Array DictEntry} {ep : Nat} {xs : List En} {k : NestedKey} {key : Value} {Q : Option Nat → Shared → Prop} (hu : A.units + 8 < cLine) (hk : NestedIs s.heap k key) (hkd : k.depth ≤ 8) (ho : s.heap.get? d = some o)
    (hd : o.data = .dict es ep) (he : es.toList = xs.map (entOf w)) (hx : KeysAt s.heap xs) (hn : (xs.map (·.1)).Nodup)
    (hnone : (∀ i, keyAt k xs i = false) → Q none s) (hsome : ∀ i, keyAt k xs i = true → Q (some i) s) : wpAny (model prog w) A (dictFind d key (k.hash w)) Q E s := by
  have sp := spots (w := w) k he
  have hmem : ∀ e ∈ es, ∃ x ∈ xs, e = entOf w x := fun e hin => by
    have q : e ∈ xs.map (entOf w) := he ▸ Array.mem_toList_iff.mpr hin
    obtain ⟨x, h1, rfl⟩ := List.mem_map.mp q
    exact ⟨x, h1, rfl⟩
  have hst : ∀ v ∈ (placesWithHash es.size (fun i => es[i]?.map (·.hash)) (k.hash w)).filterMap (fun i => es[i]?.map (·.key)), ∃ k', NestedIs s.heap k' v ∧ k'.depth ≤ 8 := by
    intro v hv
    obtain ⟨i, _, hi⟩ := List.mem_filterMap.mp hv
    rw [ent_get he i] at hi
    cases e : xs[i]? with
    | none => rw [e] at hi; cases hi
    | some x =>
      rw [e] at hi
      have q : x.2.1 = v := by simpa [entOf] using hi
      have := hx x (List.mem_of_getElem? e)
      rw [q] at this
      exact ⟨x.1, this⟩
  have hany : ∀ a : Addr, key = .ref a → ¬ (es.any fun e => e.key == Value.ref a && e.hash != k.hash w) = true := by
    rintro a rfl hc
    rw [← Array.any_toList, List.any_eq_true] at hc
    obtain ⟨e, hin, hc⟩ := hc
    obtain ⟨x, hm, rfl⟩ := hmem e (Array.mem_toList_iff.mp hin)
    simp only [entOf, Bool.and_eq_true, beq_iff_eq, bne_iff_ne, ne_eq] at hc
    have q := (hx x hm).1
    rw [hc.1] at q
    exact hc.2 (by rw [NestedIs.inj _ _ _ q hk])
  unfold dictFind
  refine wpAny_holding ?_
  refine wpAny_bind (wpAny_dictEntries ho hd ?_)
  generalize hplaces : placesWithHash es.size (fun i => es[i]?.map (·.hash)) (k.hash w) = l at sp hst
  cases hv : key with
  | none =>
    subst hv
    dsimp only
    by_cases hall : (Value.none :: l.filterMap fun i => es[i]?.map (·.key)).all carriedByValue = true
    · rw [if_pos hall]
      exact walk_plain hu hk hkd ho hd he hx sp (found_of sp hnone hsome)
    · rw [if_neg hall]
      by_cases h1 : ((l.filterMap fun i => es[i]?.map (·.key)) == [Value.none]) = true <;> (first | rw [if_pos h1] | rw [if_neg h1]) <;> (first | refine wpAny_bind (wpAny_pure ?_) | refine wpAny_bind (tells_not hk hkd hst ?_)) <;> (
        rw [if_neg (by simp)]
        refine wpAny_bind ?_
        refine wpAny_forIn_list _ (fun rest b s' => s' = s ∧ ∃ pre, l = pre ++ rest ∧ b = (none, pre.find? (keyAt (k) xs))) _ ?_ ?_ _ _ ⟨rfl, [], rfl, rfl⟩
        · rintro i rest b s' ⟨rfl, pre, hl, rfl⟩
          obtain ⟨x, ex, hh⟩ := sp.at_ i (by rw [hl]; simp)
          have hxi := hx x (List.mem_of_getElem? ex)
          have hei : es[i]? = some (entOf w x) := by rw [ent_get he i, ex]; rfl
          rw [hei]
          dsimp only
          rw [if_pos (show ((entOf w x).hash == (k).hash w) = true by rw [show (entOf w x).hash = x.1.hash w from rfl, hh]; exact beq_self_eq_true _)]
          refine wpAny_bind (wpAny_dictEpoch ho hd (wpAny_bind (ask_one hu hk hkd hxi.1 (wpAny_bind (wpAny_dictEpoch ho hd ?_)))))
          rw [if_neg (show ¬ (ep != ep) = true by simp)]
          have kx : keyAt (k) xs i = NestedKey.beq x.1 (k) := keyAt_of ex
          cases hb : NestedKey.beq x.1 (k) with
          | true =>
            rw [hb] at kx
            have hp := pre_none hn sp hl kx
            rw [if_pos rfl, hp, if_neg (by simp)]
            refine wpAny_bind (wpAny_rule ?_)
            split
            · exact wpAny_pure (wpAny_pure (hsome i kx))
            · refine wpAny_pure ⟨rfl, pre ++ [i], by rw [hl]; simp, ?_⟩
              rw [find_snoc, hp, kx]
              rfl
          | false =>
            rw [hb] at kx
            rw [if_neg Bool.false_ne_true]
            refine wpAny_bind (wpAny_rule ?_)
            rw [if_neg (by simp)]
            refine wpAny_pure ⟨rfl, pre ++ [i], by rw [hl]; simp, ?_⟩
            rw [find_snoc, kx]
            simp
        · rintro b s' ⟨rfl, pre, hl, rfl⟩
          rw [List.append_nil] at hl
          rw [← hl]
          exact wpAny_pure (found_of sp hnone hsome))
  | bool c =>
    subst hv
    dsimp only
    by_cases hall : (Value.bool c :: l.filterMap fun i => es[i]?.map (·.key)).all carriedByValue = true
    · rw [if_pos hall]
      exact walk_plain hu hk hkd ho hd he hx sp (found_of sp hnone hsome)
    · rw [if_neg hall]
      by_cases h1 : ((l.filterMap fun i => es[i]?.map (·.key)) == [Value.bool c]) = true <;> (first | rw [if_pos h1] | rw [if_neg h1]) <;> (first | refine wpAny_bind (wpAny_pure ?_) | refine wpAny_bind (tells_not hk hkd hst ?_)) <;> (
        rw [if_neg (by simp)]
        refine wpAny_bind ?_
        refine wpAny_forIn_list _ (fun rest b s' => s' = s ∧ ∃ pre, l = pre ++ rest ∧ b = (none, pre.find? (keyAt (k) xs))) _ ?_ ?_ _ _ ⟨rfl, [], rfl, rfl⟩
        · rintro i rest b s' ⟨rfl, pre, hl, rfl⟩
          obtain ⟨x, ex, hh⟩ := sp.at_ i (by rw [hl]; simp)
          have hxi := hx x (List.mem_of_getElem? ex)
          have hei : es[i]? = some (entOf w x) := by rw [ent_get he i, ex]; rfl
          rw [hei]
          dsimp only
          rw [if_pos (show ((entOf w x).hash == (k).hash w) = true by rw [show (entOf w x).hash = x.1.hash w from rfl, hh]; exact beq_self_eq_true _)]
          refine wpAny_bind (wpAny_dictEpoch ho hd (wpAny_bind (ask_one hu hk hkd hxi.1 (wpAny_bind (wpAny_dictEpoch ho hd ?_)))))
          rw [if_neg (show ¬ (ep != ep) = true by simp)]
          have kx : keyAt (k) xs i = NestedKey.beq x.1 (k) := keyAt_of ex
          cases hb : NestedKey.beq x.1 (k) with
          | true =>
            rw [hb] at kx
            have hp := pre_none hn sp hl kx
            rw [if_pos rfl, hp, if_neg (by simp)]
            refine wpAny_bind (wpAny_rule ?_)
            split
            · exact wpAny_pure (wpAny_pure (hsome i kx))
            · refine wpAny_pure ⟨rfl, pre ++ [i], by rw [hl]; simp, ?_⟩
              rw [find_snoc, hp, kx]
              rfl
          | false =>
            rw [hb] at kx
            rw [if_neg Bool.false_ne_true]
            refine wpAny_bind (wpAny_rule ?_)
            rw [if_neg (by simp)]
            refine wpAny_pure ⟨rfl, pre ++ [i], by rw [hl]; simp, ?_⟩
            rw [find_snoc, kx]
            simp
        · rintro b s' ⟨rfl, pre, hl, rfl⟩
          rw [List.append_nil] at hl
          rw [← hl]
          exact wpAny_pure (found_of sp hnone hsome))
  | int c t =>
    subst hv
    dsimp only
    by_cases hall : (Value.int c t :: l.filterMap fun i => es[i]?.map (·.key)).all carriedByValue = true
    · rw [if_pos hall]
      exact walk_plain hu hk hkd ho hd he hx sp (found_of sp hnone hsome)
    · rw [if_neg hall]
      by_cases h1 : ((l.filterMap fun i => es[i]?.map (·.key)) == [Value.int c t]) = true <;> (first | rw [if_pos h1] | rw [if_neg h1]) <;> (first | refine wpAny_bind (wpAny_pure ?_) | refine wpAny_bind (tells_not hk hkd hst ?_)) <;> (
        rw [if_neg (by simp)]
        refine wpAny_bind ?_
        refine wpAny_forIn_list _ (fun rest b s' => s' = s ∧ ∃ pre, l = pre ++ rest ∧ b = (none, pre.find? (keyAt (k) xs))) _ ?_ ?_ _ _ ⟨rfl, [], rfl, rfl⟩
        · rintro i rest b s' ⟨rfl, pre, hl, rfl⟩
          obtain ⟨x, ex, hh⟩ := sp.at_ i (by rw [hl]; simp)
          have hxi := hx x (List.mem_of_getElem? ex)
          have hei : es[i]? = some (entOf w x) := by rw [ent_get he i, ex]; rfl
          rw [hei]
          dsimp only
          rw [if_pos (show ((entOf w x).hash == (k).hash w) = true by rw [show (entOf w x).hash = x.1.hash w from rfl, hh]; exact beq_self_eq_true _)]
          refine wpAny_bind (wpAny_dictEpoch ho hd (wpAny_bind (ask_one hu hk hkd hxi.1 (wpAny_bind (wpAny_dictEpoch ho hd ?_)))))
          rw [if_neg (show ¬ (ep != ep) = true by simp)]
          have kx : keyAt (k) xs i = NestedKey.beq x.1 (k) := keyAt_of ex
          cases hb : NestedKey.beq x.1 (k) with
          | true =>
            rw [hb] at kx
            have hp := pre_none hn sp hl kx
            rw [if_pos rfl, hp, if_neg (by simp)]
            refine wpAny_bind (wpAny_rule ?_)
            split
            · exact wpAny_pure (wpAny_pure (hsome i kx))
            · refine wpAny_pure ⟨rfl, pre ++ [i], by rw [hl]; simp, ?_⟩
              rw [find_snoc, hp, kx]
              rfl
          | false =>
            rw [hb] at kx
            rw [if_neg Bool.false_ne_true]
            refine wpAny_bind (wpAny_rule ?_)
            rw [if_neg (by simp)]
            refine wpAny_pure ⟨rfl, pre ++ [i], by rw [hl]; simp, ?_⟩
            rw [find_snoc, kx]
            simp
        · rintro b s' ⟨rfl, pre, hl, rfl⟩
          rw [List.append_nil] at hl
          rw [← hl]
          exact wpAny_pure (found_of sp hnone hsome))
  | str y t =>
    subst hv
    dsimp only
    by_cases hall : (es.all fun e => isExactStrKey e.key) = true
    · rw [if_pos hall]
      refine found_text hu hk hkd ho hd he hx hn (fun x hm => ?_) hnone hsome
      rw [← Array.all_toList, List.all_eq_true] at hall
      exact hall (entOf w x) (by rw [he]; exact List.mem_map.mpr ⟨x, hm, rfl⟩)
    · rw [if_neg hall]
      clear hall
      by_cases hall : (Value.str y t :: l.filterMap fun i => es[i]?.map (·.key)).all carriedByValue = true
      · rw [if_pos hall]
        exact walk_plain hu hk hkd ho hd he hx sp (found_of sp hnone hsome)
      · rw [if_neg hall]
        by_cases h1 : ((l.filterMap fun i => es[i]?.map (·.key)) == [Value.str y t]) = true <;> (first | rw [if_pos h1] | rw [if_neg h1]) <;> (first | refine wpAny_bind (wpAny_pure ?_) | refine wpAny_bind (tells_not hk hkd hst ?_)) <;> (
          rw [if_neg (by simp)]
          refine wpAny_bind ?_
          refine wpAny_forIn_list _ (fun rest b s' => s' = s ∧ ∃ pre, l = pre ++ rest ∧ b = (none, pre.find? (keyAt (k) xs))) _ ?_ ?_ _ _ ⟨rfl, [], rfl, rfl⟩
          · rintro i rest b s' ⟨rfl, pre, hl, rfl⟩
            obtain ⟨x, ex, hh⟩ := sp.at_ i (by rw [hl]; simp)
            have hxi := hx x (List.mem_of_getElem? ex)
            have hei : es[i]? = some (entOf w x) := by rw [ent_get he i, ex]; rfl
            rw [hei]
            dsimp only
            rw [if_pos (show ((entOf w x).hash == (k).hash w) = true by rw [show (entOf w x).hash = x.1.hash w from rfl, hh]; exact beq_self_eq_true _)]
            refine wpAny_bind (wpAny_dictEpoch ho hd (wpAny_bind (ask_one hu hk hkd hxi.1 (wpAny_bind (wpAny_dictEpoch ho hd ?_)))))
            rw [if_neg (show ¬ (ep != ep) = true by simp)]
            have kx : keyAt (k) xs i = NestedKey.beq x.1 (k) := keyAt_of ex
            cases hb : NestedKey.beq x.1 (k) with
            | true =>
              rw [hb] at kx
              have hp := pre_none hn sp hl kx
              rw [if_pos rfl, hp, if_neg (by simp)]
              refine wpAny_bind (wpAny_rule ?_)
              split
              · exact wpAny_pure (wpAny_pure (hsome i kx))
              · refine wpAny_pure ⟨rfl, pre ++ [i], by rw [hl]; simp, ?_⟩
                rw [find_snoc, hp, kx]
                rfl
            | false =>
              rw [hb] at kx
              rw [if_neg Bool.false_ne_true]
              refine wpAny_bind (wpAny_rule ?_)
              rw [if_neg (by simp)]
              refine wpAny_pure ⟨rfl, pre ++ [i], by rw [hl]; simp, ?_⟩
              rw [find_snoc, kx]
              simp
          · rintro b s' ⟨rfl, pre, hl, rfl⟩
            rw [List.append_nil] at hl
            rw [← hl]
            exact wpAny_pure (found_of sp hnone hsome))
  | ref a =>
    dsimp only
    rw [if_neg (by simp [carriedByValue]), if_neg (hany a hv)]
    subst hv
    by_cases h1 : ((l.filterMap fun i => es[i]?.map (·.key)) == [Value.ref a]) = true <;> (first | rw [if_pos h1] | rw [if_neg h1]) <;> (first | refine wpAny_bind (wpAny_pure ?_) | refine wpAny_bind (tells_not hk hkd hst ?_)) <;> (
      rw [if_neg (by simp)]
      refine wpAny_bind ?_
      refine wpAny_forIn_list _ (fun rest b s' => s' = s ∧ ∃ pre, l = pre ++ rest ∧ b = (none, pre.find? (keyAt (k) xs))) _ ?_ ?_ _ _ ⟨rfl, [], rfl, rfl⟩
      · rintro i rest b s' ⟨rfl, pre, hl, rfl⟩
        obtain ⟨x, ex, hh⟩ := sp.at_ i (by rw [hl]; simp)
        have hxi := hx x (List.mem_of_getElem? ex)
        have hei : es[i]? = some (entOf w x) := by rw [ent_get he i, ex]; rfl
        rw [hei]
        dsimp only
        rw [if_pos (show ((entOf w x).hash == (k).hash w) = true by rw [show (entOf w x).hash = x.1.hash w from rfl, hh]; exact beq_self_eq_true _)]
        refine wpAny_bind (wpAny_dictEpoch ho hd (wpAny_bind (ask_one hu hk hkd hxi.1 (wpAny_bind (wpAny_dictEpoch ho hd ?_)))))
        rw [if_neg (show ¬ (ep != ep) = true by simp)]
        have kx : keyAt (k) xs i = NestedKey.beq x.1 (k) := keyAt_of ex
        cases hb : NestedKey.beq x.1 (k) with
        | true =>
          rw [hb] at kx
          have hp := pre_none hn sp hl kx
          rw [if_pos rfl, hp, if_neg (by simp)]
          refine wpAny_bind (wpAny_rule ?_)
          split
          · exact wpAny_pure (wpAny_pure (hsome i kx))
          · refine wpAny_pure ⟨rfl, pre ++ [i], by rw [hl]; simp, ?_⟩
            rw [find_snoc, hp, kx]
            rfl
        | false =>
          rw [hb] at kx
          rw [if_neg Bool.false_ne_true]
          refine wpAny_bind (wpAny_rule ?_)
          rw [if_neg (by simp)]
          refine wpAny_pure ⟨rfl, pre ++ [i], by rw [hl]; simp, ?_⟩
          rw [find_snoc, kx]
          simp
      · rintro b s' ⟨rfl, pre, hl, rfl⟩
        rw [List.append_nil] at hl
        rw [← hl]
        exact wpAny_pure (found_of sp hnone hsome))
  | _ => subst hv; cases hk
end
end K15
end

section
set_option Elab.async false
set_option linter.all false
set_option maxRecDepth 100000
set_option pp.maxSteps 600
namespace K15
open PySem PySem.Spec PyProof.Rows

/-- d[k] = v -/
def putE (k : NestedKey) (key v : Value) : List En → List En
  | [] => [(k, key, v)]
  | x :: r => if NestedKey.beq x.1 k then (x.1, x.2.1, v) :: r else x :: putE k key v r
theorem putE_new {k : NestedKey} {key v : Value} : ∀ {xs : List En}, (∀ i, keyAt k xs i = false) → putE k key v xs = xs ++ [(k, key, v)]
  | [], _ => rfl
  | x :: r, h => by
    have h0 : NestedKey.beq x.1 k = false := by
      have := h 0
      rwa [keyAt_of (x := x) rfl] at this
    unfold putE
    rw [h0, putE_new (fun i => by
      have := h (i + 1)
      unfold keyAt at this ⊢
      simpa using this)]
    rfl
theorem putE_old {w : World} {k : NestedKey} {key v : Value} : ∀ {xs : List En} {i : Nat}, (xs.map (·.1)).Nodup → keyAt k xs i = true → (xs.map (entOf w)).modify i (fun e => { e with val := v }) = (putE k key v xs).map (entOf w)
  | [], _, _, h => by simp [keyAt] at h
  | x :: r, 0, _, h => by
    rw [keyAt_of (x := x) rfl] at h
    unfold putE
    rw [if_pos h]
    rfl
  | x :: r, i + 1, hn, h => by
    have h' : keyAt k r i = true := by
      unfold keyAt at h ⊢
      simpa using h
    have h0 : NestedKey.beq x.1 k = false := by
      cases q : NestedKey.beq x.1 k with
      | false => rfl
      | true =>
        have := keyAt_one hn (i := 0) (j := i + 1) (by rw [keyAt_of (x := x) rfl]; exact q) h
        omega
    unfold putE
    rw [if_neg (by rw [h0]; exact Bool.false_ne_true), List.map_cons, List.map_cons, ← putE_old (List.nodup_cons.mp hn).2 h']
    rfl
theorem putE_keys {k : NestedKey} {key v : Value} : ∀ {xs : List En} {i : Nat}, keyAt k xs i = true → (putE k key v xs).map (·.1) = xs.map (·.1)
  | [], _, h => by simp [keyAt] at h
  | x :: r, 0, h => by
    rw [keyAt_of (x := x) rfl] at h
    unfold putE
    rw [if_pos h]
    rfl
  | x :: r, i + 1, h => by
    have h' : keyAt k r i = true := by
      unfold keyAt at h ⊢
      simpa using h
    unfold putE
    split
    · rfl
    · rw [List.map_cons, List.map_cons, putE_keys h']
theorem putE_mem {k : NestedKey} {key v : Value} : ∀ {xs : List En} {x : En}, x ∈ putE k key v xs → (∃ y ∈ xs, x.1 = y.1 ∧ x.2.1 = y.2.1 ∧ (x = y ∨ x.2.2 = v)) ∨ x = (k, key, v)
  | [], x, h => by
    simp only [putE, List.mem_singleton] at h
    exact .inr h
  | z :: r, x, h => by
    unfold putE at h
    split at h
    · rcases List.mem_cons.mp h with e | h
      · subst e
        exact .inl ⟨z, List.mem_cons_self, rfl, rfl, .inr rfl⟩
      · exact .inl ⟨x, List.mem_cons_of_mem _ h, rfl, rfl, .inl rfl⟩
    · rcases List.mem_cons.mp h with e | h
      · subst e
        exact .inl ⟨x, List.mem_cons_self, rfl, rfl, .inl rfl⟩
      · rcases putE_mem h with ⟨y, hy, q⟩ | q
        · exact .inl ⟨y, List.mem_cons_of_mem _ hy, q⟩
        · exact .inr q
theorem no_key {k : NestedKey} {xs : List En} (h : ∀ i, keyAt k xs i = false) : k ∉ xs.map (·.1) := by
  intro hm
  obtain ⟨x, hx, e⟩ := List.mem_map.mp hm
  obtain ⟨i, hi⟩ := List.mem_iff_getElem?.mp hx
  have := h i
  rw [keyAt_of hi, e, NestedKey.beq_self] at this
  cases this
theorem putE_nodup {k : NestedKey} {key v : Value} {xs : List En} (hn : (xs.map (·.1)).Nodup) : ((putE k key v xs).map (·.1)).Nodup := by
  by_cases h : ∀ i, keyAt k xs i = false
  · rw [putE_new h, List.map_append, List.nodup_append]
    refine ⟨hn, by simp, fun a ha b hb e => ?_⟩
    have : b = k := by simpa using hb
    subst this
    subst e
    exact no_key h ha
  · have : ∃ i, keyAt k xs i = true := by
      rcases Classical.not_forall.mp h with ⟨i, hi⟩
      exact ⟨i, by simpa using hi⟩
    obtain ⟨i, hi⟩ := this
    rw [putE_keys hi]
    exact hn
theorem putE_length {k : NestedKey} {key v : Value} : ∀ xs : List En, (putE k key v xs).length ≤ xs.length + 1
  | [] => by simp [putE]
  | x :: r => by
    unfold putE
    split
    · simp
    · have := putE_length (k := k) (key := key) (v := v) r
      simp only [List.length_cons]
      omega
section
variable {prog : Program} {w : World} {A : Around} {E : Value → Shared → Prop} {s : Shared} {d : Addr} {xs : List En} {k : NestedKey} {key : Value}
theorem Raw.typeIs (h : Raw w s.heap d xs) : s.TypeIs (.ref d) "dict" := let ⟨o, _, _, ho, hc, _⟩ := h; ⟨o, ho, hc.1⟩
theorem Raw.walked (h : Raw w s.heap d xs) : ∃ es ep, s.heap.DictRaw d es ep ∧ es.toList = xs.map (entOf w) := let ⟨o, es, ep, ho, hc, hd, he⟩ := h; ⟨es, ep, ⟨o, ho, hc, hd⟩, he⟩
/-- the room of a search -/
abbrev Fits8 (A : Around) : Prop := A.units + 8 < cLine
theorem get_mix {x : En} {Q : Option Value → Shared → Prop} (hu : Fits8 A) (hk : NestedIs s.heap k key) (hkd : k.depth ≤ 8) (hm : Raw w s.heap d xs) (hx : KeysAt s.heap xs) (hn : (xs.map (·.1)).Nodup) (hin : x ∈ xs) (hxk : x.1 = k)
    (h : Q (some x.2.2) { s with toks := s.toks + k.draws }) : wpAny (model prog w) A (dictGet d key) Q E s := by
  obtain ⟨o, es, ep, ho, hc, hd, he⟩ := hm
  obtain ⟨j, hj⟩ := List.mem_iff_getElem?.mp hin
  have hkj : keyAt k xs j = true := by rw [keyAt_of hj, hxk, NestedKey.beq_self]
  unfold dictGet
  refine wpAny_holding ?_
  refine wpAny_bind (pyHash_key k key A s _ hk (by omega) ?_)
  refine wpAny_bind (find_mix (s := { s with toks := s.toks + k.draws }) hu hk hkd ho hd he hx hn (fun q => ?_) fun i hi => ?_)
  · rw [q j] at hkj
    cases hkj
  · have e := keyAt_one hn hi hkj
    subst e
    refine wpAny_bind (wpAny_dictEntries (s := { s with toks := s.toks + k.draws }) ho hd (wpAny_pure ?_))
    rw [ent_get he i, hj]
    exact h
theorem set_mix {v : Value} {Q : Unit → Shared → Prop} (hu : Fits8 A) (hk : NestedIs s.heap k key) (hkd : k.depth ≤ 8) (hm : Raw w s.heap d xs) (hx : KeysAt s.heap xs) (hn : (xs.map (·.1)).Nodup) (hz : xs.length ≤ sizeLine)
    (h : ∀ h', Raw w h' d (putE k key v xs) → Heap.SameBut d s.heap h' → Q () { s with heap := h', toks := s.toks + k.draws }) : wpAny (model prog w) A (dictSet d key v) Q E s := by
  obtain ⟨o, es, ep, ho, hc, hd, he⟩ := hm
  unfold dictSet
  refine wpAny_holding ?_
  refine wpAny_bind (pyHash_key k key A s _ hk (by omega) ?_)
  unfold dictSetHashed
  refine wpAny_holding ?_
  have hes := ent_size he
  refine wpAny_bind (find_mix (s := { s with toks := s.toks + k.draws }) hu hk hkd ho hd he hx hn (fun q => ?_) fun i hi => ?_)
  · refine wpAny_bind (wpAny_rule (wpAny_updateDictKeys (hz := by omega) (s := { s with toks := s.toks + k.draws }) ho hd (h _ ⟨_, _, _, Heap.get?_update_self _ ho (Obj.isFreed_of_dict (Obj.data_mapDictKeys hd _)),
      hc.mapDictKeys _, Obj.data_mapDictKeys hd _, ?_⟩ (Heap.SameBut.update ..))))
    rw [putE_new q, List.map_append, ← he]
    simp [entOf]
  · refine wpAny_bind (wpAny_rule (wpAny_bind (wpAny_updateDict (s := { s with toks := s.toks + k.draws }) ho hd (wpAny_point (h _ ⟨_, _, _, Heap.get?_update_self _ ho (Obj.isFreed_of_dict (Obj.data_mapDict hd _)),
      hc.mapDict _, Obj.data_mapDict hd _, ?_⟩ (Heap.SameBut.update ..))))))
    rw [← putE_old hn hi, ← he, Array.toList_modify]
theorem getItem_mix {x : En} {Q : Value → Shared → Prop} (hu : Fits8 A.in1) (hk : NestedIs s.heap k key) (hkd : k.depth ≤ 8) (hm : Raw w s.heap d xs) (hx : KeysAt s.heap xs) (hn : (xs.map (·.1)).Nodup) (hin : x ∈ xs) (hxk : x.1 = k)
    (h : Q x.2.2 { s with toks := s.toks + k.draws }) : wpAny (model prog w) A (getItem (.ref d) key) Q E s := by
  unfold getItem
  refine wpAny_holding ?_
  refine wpAny_bind (wpAny_sequenceKey hm.typeIs (by decide) ?_)
  refine wpAny_bind (wpAny_callSpecial?_slot (name := Str.ofString "__getitem__") hm.typeIs F.slot_dict_getitem (wpAny_call_entry F.slot_dict_getitem hm.typeIs F.entry_dict_getitem ?_ (F.args_dict_getitem_2 _ _)))
  show wpAny _ _ (dictGet d key >>= _) _ _ s
  exact wpAny_bind (get_mix hu hk hkd hm hx hn hin hxk (wpAny_pure ⟨x.2.2, rfl, wpAny_pure h⟩))
theorem setItem_mix {v : Value} {Q : Unit → Shared → Prop} (hu : Fits8 A.in1) (hk : NestedIs s.heap k key) (hkd : k.depth ≤ 8) (hm : Raw w s.heap d xs) (hx : KeysAt s.heap xs) (hn : (xs.map (·.1)).Nodup) (hz : xs.length ≤ sizeLine)
    (h : ∀ h', Raw w h' d (putE k key v xs) → Heap.SameBut d s.heap h' → Q () { s with heap := h', toks := s.toks + k.draws }) : wpAny (model prog w) A (setItem (.ref d) key v) Q E s := by
  unfold setItem
  refine wpAny_holding ?_
  refine wpAny_bind (wpAny_sequenceKey hm.typeIs (by decide) ?_)
  refine wpAny_bind (wpAny_callSpecial?_slot (name := Str.ofString "__setitem__") hm.typeIs F.slot_dict_setitem (wpAny_call_entry F.slot_dict_setitem hm.typeIs F.entry_dict_setitem ?_ (F.args_dict_setitem_3 _ _ _)))
  show wpAny _ _ (Builtin.Dict.notOrdered "__setitem__" ⟨[.ref d, key, v], []⟩ >>= _) _ _ s
  refine wpAny_bind (wpAny_notOrdered_dict hm.typeIs ?_)
  show wpAny _ _ (dictSet d key v >>= _) _ _ s
  exact wpAny_bind (set_mix hu hk hkd hm hx hn hz fun h' a b => wpAny_pure ⟨.none, rfl, wpAny_pure (h h' a b)⟩)
end
end K15
end

section
set_option Elab.async false
set_option linter.all false
set_option maxRecDepth 100000
set_option pp.maxSteps 600
namespace K15
open PySem PySem.Spec PyProof.Rows
open PySem.SeqAt (EqIn EqAt rcIn_tuples)
open AutoSeq1 (wpAny_loadPart')
open MeetsSeq MeetsSeq2 MeetsSeq3 SeqRoads2
section
variable {prog : Program} {w : World}
/-- != of two tuples whose items are all equal -/
theorem tuple_same_ne (l b : Addr) (xs ys : Array Value) (n n2 : Nat) (dd dd2 : Option Addr) (sl sl2 : Array (Option Value)) (hsz : xs.size = ys.size) :
    MeetsIn prog w (Builtin.«tuple.__ne__» ⟨[.ref l, .ref b], []⟩)
      (fun A R s => s.heap.get? l = some { cls := .type "tuple", dict := dd, data := .seq xs n, slots := sl } ∧ s.heap.get? b = some { cls := .type "tuple", dict := dd2, data := .seq ys n2, slots := sl2 } ∧
        (∀ j (h1 : j < xs.size) (h2 : j < ys.size), EqIn prog w A.in1 s xs[j] ys[j] true) ∧ R (.ok (.ret (.bool false))) s) :=
  .of_wp fun A R s h => by
    obtain ⟨hp, g, d, tk, os⟩ := s
    obtain ⟨hl, hb, he, h⟩ := h
    have f2 := AutoSeq1.sub_tuple_tuple
    have hZ : (xs.toList.zip ys.toList).length = xs.size := by simp [hsz]
    wp_walk using wpAny_loadPart' hl, wpAny_loadPart' hb, wpAny_forIn_list _ (fun rest r t => r.1 = none ∧ t = ⟨hp, g, d, tk, os⟩ ∧ ∃ i, rest = (xs.toList.zip ys.toList).drop i) _
    case turn =>
      rintro ⟨y, x⟩ rest r t ⟨hr, rfl, i, hz⟩
      have hlt : i < (xs.toList.zip ys.toList).length := by
        rcases Nat.lt_or_ge i (xs.toList.zip ys.toList).length with q | q
        · exact q
        · rw [List.drop_of_length_le q] at hz
          cases hz
      have h1 : i < xs.size := by omega
      have h2 : i < ys.size := by omega
      rw [List.drop_eq_getElem_cons hlt] at hz
      injection hz with hyx hrest
      have hy : y = xs[i] := by simpa using congrArg Prod.fst hyx
      have hx : x = ys[i] := by simpa using congrArg Prod.snd hyx
      subst hy hx
      refine wpAny_bind (he i h1 h2 _ _ ?_)
      wp_walk
      exact ⟨rfl, rfl, i + 1, hrest⟩
    case fin =>
      rintro ⟨r1, r2⟩ t ⟨hr, rfl, i, hz⟩
      simp only at hr
      subst hr
      wp_walk
      exact ⟨_, rfl, by simpa [Builtin.Tuple.tupleCompareSizes, bne, hsz] using h⟩
    case h =>
      exact ⟨rfl, rfl, 0, rfl⟩
variable {A : Around} {E : Value → Shared → Prop} {s : Shared}
theorem ne_tuples_same {l b : Addr} {xs ys : Array Value} {Q : Value → Shared → Prop} (hl : s.heap.IsTuple l xs) (hb : s.heap.IsTuple b ys) (hsz : xs.size = ys.size) (hu : A.units < cLine)
    (he : ∀ j (h1 : j < xs.size) (h2 : j < ys.size), EqIn prog w A.in1 s xs[j] ys[j] true) (h : Q (.bool false) s) : wpAny (model prog w) A (compareOp .NotEq (.ref l) (.ref b)) Q E s := by
  obtain ⟨⟨cls, dd, data, sl⟩, ho, hc, n, hd⟩ := id hl
  obtain ⟨⟨cls2, dd2, data2, sl2⟩, ho2, hc2, n2, hd2⟩ := id hb
  simp only at hc hd hc2 hd2
  subst hc hd hc2 hd2
  refine wpAny_richCompare_same_room (T := "tuple") (op := .NotEq) ⟨_, ho, rfl⟩ ⟨_, ho2, rfl⟩ F.slot_tuple_ne ?_ hu
  exact call_meetsIn F.slot_tuple_ne ⟨_, ho, rfl⟩ F.entry_tuple_ne (F.args_tuple_ne_2 _ _) (tuple_same_ne l b xs ys n n2 dd dd2 sl sl2 hsz)
    ⟨ho, ho2, he, show Value.bool false ≠ Value.notImplemented ∧ Q (.bool false) s from ⟨(fun x => nomatch x), h⟩⟩
theorem eqIn_tuples_same {l b : Addr} {xs ys : Array Value} (hl : s.heap.IsTuple l xs) (hb : s.heap.IsTuple b ys) (hsz : xs.size = ys.size) (hu : A.units < cLine)
    (he : ∀ j (h1 : j < xs.size) (h2 : j < ys.size), EqIn prog w A.in1 s xs[j] ys[j] true) : EqIn prog w A s (.ref l) (.ref b) true := by
  by_cases hne : l = b
  · subst hne
    exact (EqAt.same _).inModel prog w
  · refine SeqAt.EqIn.of_refs hne fun E Q hq => rcIn_tuples (e := fun _ => true) hl hb hu he ?_
    have : ((List.range (min xs.size ys.size)).all (fun _ => true) && xs.size == ys.size) = true := by simp [hsz]
    rw [this]
    exact hq
/-! ### == of dicts that are equal -/
theorem pairs_same {nm : String} {a b : Addr} {xs ys : List En} {Q : Bool → Shared → Prop} (ha : (a == sysModules) = false) (hb : (b == sysModules) = false) (hu : Fits8 A) (da : Raw w s.heap a xs) (db : Raw w s.heap b ys) (ka : KeysAt s.heap xs) (kb : KeysAt s.heap ys)
    (nb : (ys.map (·.1)).Nodup) (hlen : xs.length = ys.length) (hits : ∀ x ∈ xs, ∃ y ∈ ys, y.1 = x.1 ∧ EqIn prog w A s x.2.2 y.2.2 true) (h : Q true s) : wpAny (model prog w) A (Builtin.Dict.samePairs nm a b) Q E s := by
  obtain ⟨oa, es, ep, hoa, _, hda, hea⟩ := da
  obtain ⟨ob, fs, ep', hob, _, hdb, heb⟩ := db
  have sa := ent_size hea
  have sb := ent_size heb
  unfold Builtin.Dict.samePairs Builtin.Dict.showsAll
  rw [if_neg (show ¬ (a == sysModules) = true by rw [ha]; exact Bool.false_ne_true), if_neg (show ¬ (b == sysModules) = true by rw [hb]; exact Bool.false_ne_true)]
  refine wpAny_bind (wpAny_pure (wpAny_bind (wpAny_pure ?_)))
  refine wpAny_bind (wpAny_dictEntries hoa hda ?_)
  dsimp only
  refine wpAny_bind (wpAny_dictEntries hob hdb ?_)
  have hsz : es.size = fs.size := by omega
  rw [if_neg (by rw [hsz]; simp)]
  refine wpAny_bind (wpAny_dictEpoch hoa hda ?_)
  refine wpAny_bind ?_
  rw [Std.Legacy.Range.forIn_eq_forIn_range']
  simp only [Std.Legacy.Range.size, Nat.sub_zero, Nat.add_sub_cancel, Nat.div_one]
  refine wpAny_forIn_list _ (fun rest q t => t = s ∧ q = (none, ()) ∧ ∀ i ∈ rest, i < es.size) _ ?_ ?_ _ _ ⟨rfl, rfl, fun i hi => by
    have := List.mem_range'_1.mp hi
    omega⟩
  · rintro i rest q t ⟨rfl, rfl, hall⟩
    have hlt : i < es.size := hall i List.mem_cons_self
    have hlx : i < xs.length := by omega
    have hxi : xs[i]? = some xs[i] := List.getElem?_eq_getElem hlx
    have hmx : xs[i] ∈ xs := List.getElem_mem hlx
    have hei : es[i]? = some (entOf w xs[i]) := by rw [ent_get hea i, hxi]; rfl
    obtain ⟨y, hy, hk, heq⟩ := hits _ hmx
    refine wpAny_bind (wpAny_dictEntries hoa hda ?_)
    rw [hei]
    dsimp only
    show wpAny _ _ (holding [(xs[i]).2.1, (xs[i]).2.2] _ >>= _) _ _ _
    have kx := ka _ hmx
    obtain ⟨j, hj⟩ := List.mem_iff_getElem?.mp hy
    have hkj : keyAt (xs[i]).1 ys j = true := by rw [keyAt_of hj, hk, NestedKey.beq_self]
    refine wpAny_bind (wpAny_holding (wpAny_bind (find_mix hu kx.1 kx.2 hob hdb heb kb nb (fun z => ?_) fun j' hj' => ?_)))
    · rw [z j] at hkj
      cases hkj
    · have ej := keyAt_one nb hj' hkj
      subst ej
      refine wpAny_bind (wpAny_dictEntries hob hdb ?_)
      have hfj : fs[j']? = some (entOf w y) := by rw [ent_get heb j', hj]; rfl
      rw [hfj]
      refine wpAny_holding (heq _ _ ?_)
      show wpAny _ _ (if (!true) = true then _ else _) _ _ _
      rw [if_neg (by decide)]
      refine wpAny_bind (wpAny_dictEpoch hoa hda ?_)
      rw [if_neg (by simp)]
      exact wpAny_pure ⟨rfl, rfl, fun i' hi' => hall i' (List.mem_cons_of_mem _ hi')⟩
  · rintro q t ⟨rfl, rfl, _⟩
    exact wpAny_pure h
theorem eq_dicts_same {a b : Addr} {xs ys : List En} {Q : Value → Shared → Prop} (ha : (a == sysModules) = false) (hb : (b == sysModules) = false) (hu : A.units + 9 < cLine) (da : Raw w s.heap a xs) (db : Raw w s.heap b ys) (ka : KeysAt s.heap xs) (kb : KeysAt s.heap ys)
    (nb : (ys.map (·.1)).Nodup) (hlen : xs.length = ys.length) (hits : ∀ x ∈ xs, ∃ y ∈ ys, y.1 = x.1 ∧ EqIn prog w A.in1 s x.2.2 y.2.2 true) (h : Q (.bool true) s) : wpAny (model prog w) A (compareOp .Eq (.ref a) (.ref b)) Q E s := by
  refine wpAny_richCompare_same_room (op := .Eq) da.typeIs db.typeIs F.slot_dict_eq (wpAny_call_entry F.slot_dict_eq da.typeIs F.entry_dict_eq ?_ (F.args_dict_eq_2 _ _)) (by omega)
  show wpAny _ _ (Builtin.Dict.dictSlotArgs "__eq__" ⟨[.ref a, .ref b], []⟩ >>= _) _ _ s
  refine wpAny_bind ?_
  unfold Builtin.Dict.dictSlotArgs
  refine wpAny_bind (wpAny_notOrdered_dict da.typeIs (wpAny_pure ?_))
  refine wpAny_bind (wpAny_isInstance (T := "dict") db.typeIs F.sub_dict_dict ?_)
  simp only [Bool.not_true, Bool.false_eq_true, if_false]
  refine wpAny_bind (wpAny_pure (wpAny_bind (wpAny_pure ?_)))
  refine wpAny_bind (pairs_same ha hb (by show A.units + 1 + 8 < cLine; omega) da db ka kb nb hlen hits ?_)
  exact wpAny_pure ⟨_, rfl, (fun x => nomatch x), by simpa using h⟩
theorem ne_dicts_same {a b : Addr} {xs ys : List En} {Q : Value → Shared → Prop} (ha : (a == sysModules) = false) (hb : (b == sysModules) = false) (hu : A.units + 9 < cLine) (da : Raw w s.heap a xs) (db : Raw w s.heap b ys) (ka : KeysAt s.heap xs) (kb : KeysAt s.heap ys)
    (nb : (ys.map (·.1)).Nodup) (hlen : xs.length = ys.length) (hits : ∀ x ∈ xs, ∃ y ∈ ys, y.1 = x.1 ∧ EqIn prog w A.in1 s x.2.2 y.2.2 true) (h : Q (.bool false) s) : wpAny (model prog w) A (compareOp .NotEq (.ref a) (.ref b)) Q E s := by
  refine wpAny_richCompare_same_room (op := .NotEq) da.typeIs db.typeIs F.slot_dict_ne (wpAny_call_entry F.slot_dict_ne da.typeIs F.entry_dict_ne ?_ (F.args_dict_ne_2 _ _)) (by omega)
  show wpAny _ _ (Builtin.Dict.dictSlotArgs "__ne__" ⟨[.ref a, .ref b], []⟩ >>= _) _ _ s
  refine wpAny_bind ?_
  unfold Builtin.Dict.dictSlotArgs
  refine wpAny_bind (wpAny_notOrdered_dict da.typeIs (wpAny_pure ?_))
  refine wpAny_bind (wpAny_isInstance (T := "dict") db.typeIs F.sub_dict_dict ?_)
  simp only [Bool.not_true, Bool.false_eq_true, if_false]
  refine wpAny_bind (wpAny_pure (wpAny_bind (wpAny_pure ?_)))
  refine wpAny_bind (pairs_same ha hb (by show A.units + 1 + 8 < cLine; omega) da db ka kb nb hlen hits ?_)
  exact wpAny_pure ⟨_, rfl, (fun x => nomatch x), by simpa using h⟩
theorem eqIn_dicts_same {a b : Addr} {xs ys : List En} (ha : (a == sysModules) = false) (hb : (b == sysModules) = false) (hu : A.units + 9 < cLine) (da : Raw w s.heap a xs) (db : Raw w s.heap b ys) (ka : KeysAt s.heap xs) (kb : KeysAt s.heap ys)
    (nb : (ys.map (·.1)).Nodup) (hlen : xs.length = ys.length) (hits : ∀ x ∈ xs, ∃ y ∈ ys, y.1 = x.1 ∧ EqIn prog w A.in1 s x.2.2 y.2.2 true) : EqIn prog w A s (.ref a) (.ref b) true := by
  by_cases hne : a = b
  · subst hne
    exact (EqAt.same _).inModel prog w
  · exact SeqAt.EqIn.of_refs hne fun E Q hq => eq_dicts_same ha hb hu da db ka kb nb hlen hits hq
/-! ### dict(pairs) -/
theorem rev_ind {α : Type} {P : List α → Prop} (h0 : P []) (hs : ∀ (l : List α) (a : α), P l → P (l ++ [a])) (l : List α) : P l := by
  rw [← List.reverse_reverse l]
  induction l.reverse with
  | nil => exact h0
  | cons a t ih =>
    rw [List.reverse_cons]
    exact hs _ _ ih
def putAll (ps : List En) : List En := ps.foldl (fun acc x => putE x.1 x.2.1 x.2.2 acc) []
theorem putAll_succ {ps : List En} {i : Nat} {x : En} (h : ps[i]? = some x) : putAll (ps.take (i + 1)) = putE x.1 x.2.1 x.2.2 (putAll (ps.take i)) := by
  unfold putAll
  rw [List.take_add_one, h]
  simp
theorem putAll_mem : ∀ {ps : List En} {x : En}, x ∈ putAll ps → ∃ y ∈ ps, x.1 = y.1 ∧ x.2.1 = y.2.1 := by
  intro ps
  induction ps using rev_ind with
  | h0 => intro x h; simp [putAll] at h
  | hs ps p ih =>
    intro x h
    have : putAll (ps ++ [p]) = putE p.1 p.2.1 p.2.2 (putAll ps) := by simp [putAll]
    rw [this] at h
    rcases putE_mem h with ⟨y, hy, e1, e2, _⟩ | e
    · obtain ⟨z, hz, e3, e4⟩ := ih hy
      exact ⟨z, by simp [hz], e1.trans e3, e2.trans e4⟩
    · exact ⟨p, by simp, by rw [e], by rw [e]⟩
theorem putAll_nodup : ∀ ps : List En, ((putAll ps).map (·.1)).Nodup := by
  intro ps
  induction ps using rev_ind with
  | h0 => exact List.nodup_nil
  | hs ps p ih =>
    have : putAll (ps ++ [p]) = putE p.1 p.2.1 p.2.2 (putAll ps) := by simp [putAll]
    rw [this]
    exact putE_nodup ih
theorem putAll_length : ∀ ps : List En, (putAll ps).length ≤ ps.length := by
  intro ps
  induction ps using rev_ind with
  | h0 => exact Nat.zero_le _
  | hs ps p ih =>
    have : putAll (ps ++ [p]) = putE p.1 p.2.1 p.2.2 (putAll ps) := by simp [putAll]
    rw [this]
    have := putE_length (k := p.1) (key := p.2.1) (v := p.2.2) (putAll ps)
    simp only [List.length_append, List.length_cons, List.length_nil]
    omega
/-- where the keys differ, all stand as they came -/
theorem putAll_self : ∀ {ps : List En}, (ps.map (·.1)).Nodup → putAll ps = ps := by
  intro ps
  induction ps using rev_ind with
  | h0 => intro _; rfl
  | hs ps p ih =>
    intro hn
    have e : putAll (ps ++ [p]) = putE p.1 p.2.1 p.2.2 (putAll ps) := by simp [putAll]
    rw [List.map_append, List.nodup_append] at hn
    rw [e, ih hn.1]
    refine putE_new fun i => ?_
    cases q : keyAt p.1 ps i with
    | false => rfl
    | true =>
      obtain ⟨x, ex, kx⟩ := keyAt_some q
      exact absurd kx (hn.2.2 x.1 (List.mem_map.mpr ⟨x, List.mem_of_getElem? ex, rfl⟩) p.1 (by simp))
theorem dict_mix {T : String} {a : Addr} {fp wr : List Addr} {n : Nat} {Rel : Nat → Value → Value → Prop} {OK : Heap → Prop} {ps : List En} {Q : Value → Shared → Prop} (P : PairArg prog w T a fp wr n Rel OK) (hh : A.handled = none) (hu : Fits8 A.in1.in1) (ok : OK s.heap)
    (hn : ps.length = n) (hrel : ∀ i k v, Rel i k v → ∃ x, ps[i]? = some x ∧ x.2.1 = k ∧ x.2.2 = v) (hsz : n ≤ sizeLine)
    (hkeys : ∀ h', (∀ b o, b ∉ wr → s.heap.get? b = some o → h'.get? b = some o) → KeysAt h' ps)
    (h : ∀ h' tk, Raw w h' s.heap.objs.size (putAll ps) → (∀ b o, b ∉ wr → s.heap.get? b = some o → h'.get? b = some o) → Q (.ref s.heap.objs.size) { s with heap := h', toks := tk }) :
    wpAny (model prog w) A (call (.type "dict") [.ref a]) Q E s := by
  refine call_dict_arg P ok fun s1 hs1 hdf ok1 => ?_
  subst hs1
  have hwr : s.heap.objs.size ∉ wr := fun z => hdf (P.sub _ z)
  have old : ∀ b o, s.heap.get? b = some o → b ≠ s.heap.objs.size := fun b o e => Nat.ne_of_lt (Heap.lt_size e)
  refine updateFrom_arg (A := A.in1) (Tab := fun i h => Raw w h s.heap.objs.size (putAll (ps.take i)) ∧ ∀ b o, b ∉ wr → s.heap.get? b = some o → h.get? b = some o) P .none hh ok1 hdf ⟨?_, ?_⟩ ?_ ?_ ?_ ?_
  · exact ⟨_, #[], 0, Heap.get?_push_size _ rfl, ⟨rfl, rfl, rfl⟩, rfl, rfl⟩
  · exact fun b o _ e => Heap.get?_push_of_some _ e
  · rintro i h ⟨⟨o, _, _, ho, _⟩, _⟩
    exact Heap.lt_size ho
  · rintro i h h' wr' hd' hw ⟨⟨o, es, ep, ho, hc, hd, he⟩, hold⟩ hk
    refine ⟨⟨o, es, ep, hk _ _ hd' ho, hc, hd, he⟩, fun b o hb e => hk b o (fun hm => ?_) (hold b o hb e)⟩
    rcases hw b hm with z | z
    · exact hb z
    · rw [Heap.get?_push_of_some _ e] at z
      cases z
  · rintro i k v s2 Q2 E2 hi hr ⟨hraw, hold⟩ _ hQ
    obtain ⟨x, hx, rfl, rfl⟩ := hrel i k v hr
    have hK := hkeys _ hold
    have hm := hK x (List.mem_of_getElem? hx)
    refine set_mix (A := A.in1.in1) hu hm.1 hm.2 hraw (fun y hy => ?_) (putAll_nodup _) ?_ fun h' hraw' hs => ?_
    · obtain ⟨z, hz, e1, e2⟩ := putAll_mem hy
      have := hK z (List.mem_of_mem_take hz)
      rw [e1, e2]
      exact this
    · have := putAll_length (ps.take i)
      have l2 : (ps.take i).length ≤ ps.length := by simp [List.length_take]; omega
      omega
    · refine hQ h' _ ⟨by rw [putAll_succ hx]; exact hraw', fun b o hb e => (hs.2 b (old b o e)).trans (hold b o hb e)⟩ hs
  · rintro h' tk ⟨hraw, hold⟩ _
    refine ⟨rfl, h h' tk ?_ hold⟩
    rw [List.take_of_length_le (Nat.le_of_eq hn)] at hraw
    exact hraw
end
end K15
end

section
set_option Elab.async false
set_option linter.all false
set_option maxRecDepth 100000
set_option pp.maxSteps 600
namespace K15
open PySem PySem.Spec PyProof.Rows L2 TL

/-! ### values in the abstract heap -/
mutual
def keyOf : PyData → NestedKey
  | .none | .list _ | .dict _ => .none
  | .bool b => .num (if b = true then 1 else 0)
  | .int i => .num i
  | .str x => .text x
  | .tuple xs => .tup (keysOf xs)
def keysOf : List PyData → List NestedKey
  | [] => []
  | x :: xs => keyOf x :: keysOf xs
end
mutual
theorem key_back : ∀ d : PyData, okD d = true → hasD d = false → (keyOf d).data = d
  | .none, _, _ => by simp only [keyOf, NestedKey.data]
  | .bool _, h, _ => by simp [okD] at h
  | .list _, h, _ => by simp [okD] at h
  | .int _, _, _ => by simp only [keyOf, NestedKey.data]
  | .str _, _, _ => by simp only [keyOf, NestedKey.data]
  | .dict _, _, h => by simp [hasD] at h
  | .tuple xs, h, h' => by
    simp only [keyOf, NestedKey.data]
    rw [keys_back xs (by simpa only [okD] using h) (by simpa only [hasD] using h')]
theorem keys_back : ∀ xs : List PyData, okDs xs = true → hasDs xs = false → NestedKey.datas (keysOf xs) = xs
  | [], _, _ => by simp only [keysOf, NestedKey.datas]
  | x :: xs, h, h' => by
    simp only [okDs, Bool.and_eq_true] at h
    simp only [hasDs, Bool.or_eq_false_iff] at h'
    simp only [keysOf, NestedKey.datas]
    rw [key_back x h.1 h'.1, keys_back xs h.2 h'.2]
end
mutual
theorem key_depth : ∀ d : PyData, (keyOf d).depth ≤ d.depth
  | .none => by simp only [keyOf, NestedKey.depth]; exact Nat.zero_le _
  | .bool _ => by simp only [keyOf, NestedKey.depth]; exact Nat.zero_le _
  | .list _ => by simp only [keyOf, NestedKey.depth]; exact Nat.zero_le _
  | .int _ => by simp only [keyOf, NestedKey.depth]; exact Nat.zero_le _
  | .str _ => by simp only [keyOf, NestedKey.depth]; exact Nat.zero_le _
  | .dict _ => by simp only [keyOf, NestedKey.depth]; exact Nat.zero_le _
  | .tuple xs => by
    have := keys_depth xs
    simp only [keyOf, NestedKey.depth, PyData.depth]
    omega
theorem keys_depth : ∀ xs : List PyData, NestedKey.depthAll (keysOf xs) ≤ PyData.depthAll xs
  | [] => by simp only [keysOf, NestedKey.depthAll]; exact Nat.zero_le _
  | x :: xs => by
    have h1 := key_depth x
    have h2 := keys_depth xs
    simp only [keysOf, NestedKey.depthAll, PyData.depthAll]
    omega
end
theorem key_inj {a b : PyData} (ha : okD a = true) (hb : okD b = true) (na : hasD a = false) (nb : hasD b = false) (e : keyOf a = keyOf b) : a = b := by
  rw [← key_back a ha na, ← key_back b hb nb, e]
mutual
def hsh : PyData → Bool
  | .none | .bool _ | .int _ | .str _ => true
  | .list _ | .dict _ => false
  | .tuple xs => hshs xs
def hshs : List PyData → Bool
  | [] => true
  | x :: xs => hsh x && hshs xs
end
mutual
theorem hsh_of : ∀ d : PyData, okD d = true → hasD d = false → hsh d = true
  | .none, _, _ | .int _, _, _ | .str _, _, _ | .bool _, _, _ => by simp only [hsh]
  | .list _, h, _ => by simp [okD] at h
  | .dict _, _, h => by simp [hasD] at h
  | .tuple xs, h, h' => by
    simp only [hsh]
    exact hshs_of xs (by simpa only [okD] using h) (by simpa only [hasD] using h')
theorem hshs_of : ∀ xs : List PyData, okDs xs = true → hasDs xs = false → hshs xs = true
  | [], _, _ => by simp only [hshs]
  | x :: xs, h, h' => by
    simp only [okDs, Bool.and_eq_true] at h
    simp only [hasDs, Bool.or_eq_false_iff] at h'
    simp only [hshs, hsh_of x h.1 h'.1, hshs_of xs h.2 h'.2, Bool.and_self]
end
/-- the object of a dict -/
def DicObj (w : World) (o : Obj) (es : List En) : Prop := o.ExactDict ∧ ∃ fs ep, o.data = .dict fs ep ∧ fs.toList = es.map (entOf w)
mutual
inductive At (w : World) (H : Hp) : V → PyData → Prop
  | non : At w H .non .none
  | bl (b) : At w H (.bl b) (.bool b)
  | int (i) : At w H (.int i) (.int i)
  | str (x) : At w H (.str x) (.str x)
  | tup {a xs ds} : H a = some (.tup xs) → Ats w H xs ds → At w H (.ref a) (.tuple ds)
  | lst {a o u vs n} : H a = some (.frz o u) → o.cls = .type "list" → o.data = .seq vs n → At w H (.ref a) (.list [])
  | dic {a o u es kvs} : H a = some (.frz o u) → DicObj w o es → (a == sysModules) = false → AtKv w H es kvs → At w H (.ref a) (.dict kvs)
inductive Ats (w : World) (H : Hp) : List V → List PyData → Prop
  | nil : Ats w H [] []
  | cons {x d xs ds} : At w H x d → Ats w H xs ds → Ats w H (x :: xs) (d :: ds)
inductive AtKv (w : World) (H : Hp) : List En → List (PyData × PyData) → Prop
  | nil : AtKv w H [] []
  | cons {ku vu kx vx k v es kvs} : RelV kx ku → At w H kx k → RelV vx vu → At w H vx v → AtKv w H es kvs → AtKv w H ((keyOf k, ku, vu) :: es) ((k, v) :: kvs)
end
/-- what is sealed stays -/
structure Keep (H H' : Hp) : Prop where
  tups : ∀ a xs, H a = some (.tup xs) → H' a = some (.tup xs)
  frzs : ∀ a o u, H a = some (.frz o u) → H' a = some (.frz o u)
theorem Keep.refl (H : Hp) : Keep H H := ⟨fun _ _ h => h, fun _ _ _ h => h⟩
theorem Keep.trans {H H1 H2 : Hp} (a : Keep H H1) (b : Keep H1 H2) : Keep H H2 := ⟨fun c xs h => b.tups c xs (a.tups c xs h), fun c o u h => b.frzs c o u (a.frzs c o u h)⟩
theorem Keep.new {H : Hp} {p : Addr} {o : HO} (h : H p = none) : Keep H (upd H p o) :=
  ⟨fun a xs q => by rw [upd_ne (ne_of_none q h)]; exact q, fun a ob u q => by rw [upd_ne (ne_of_none q h)]; exact q⟩
theorem Keep.mut {H : Hp} {p : Addr} {o : HO} (h : Mut (H p)) : Keep H (upd H p o) :=
  ⟨fun a xs q => by
    rw [upd_ne fun e => by subst e; rw [q] at h; exact h]
    exact q, fun a ob u q => by
    rw [upd_ne fun e => by subst e; rw [q] at h; exact h]
    exact q⟩
section
variable {w : World} {H H' : Hp}
mutual
theorem At.keep (k : Keep H H') : ∀ {v : V} {d : PyData}, At w H v d → At w H' v d
  | _, _, .non => .non
  | _, _, .bl b => .bl b
  | _, _, .int i => .int i
  | _, _, .str x => .str x
  | _, _, .tup h hs => .tup (k.tups _ _ h) (Ats.keep k hs)
  | _, _, .lst h h1 h2 => .lst (k.frzs _ _ _ h) h1 h2
  | _, _, .dic h h1 h2 h3 => .dic (k.frzs _ _ _ h) h1 h2 (AtKv.keep k h3)
theorem Ats.keep (k : Keep H H') : ∀ {v : List V} {d : List PyData}, Ats w H v d → Ats w H' v d
  | _, _, .nil => .nil
  | _, _, .cons h hs => .cons (At.keep k h) (Ats.keep k hs)
theorem AtKv.keep (k : Keep H H') : ∀ {v : List En} {d : List (PyData × PyData)}, AtKv w H v d → AtKv w H' v d
  | _, _, .nil => .nil
  | _, _, .cons r h r' h' hs => .cons r (At.keep k h) r' (At.keep k h') (AtKv.keep k hs)
end
theorem Ats.length : ∀ {xs : List V} {ds : List PyData}, Ats w H xs ds → xs.length = ds.length
  | _, _, .nil => rfl
  | _, _, .cons _ hs => by simp [Ats.length hs]
theorem Ats.get : ∀ {xs : List V} {ds : List PyData} {i : Nat} {x : V}, Ats w H xs ds → xs[i]? = some x → ∃ d, ds[i]? = some d ∧ At w H x d
  | _, _, i, x, .nil, h => by simp at h
  | _, _, 0, x, .cons h _, e => by
    simp at e
    subst e
    exact ⟨_, rfl, h⟩
  | _, _, i + 1, x, .cons _ hs, e => by
    obtain ⟨d, hd, q⟩ := Ats.get (i := i) hs (by simpa using e)
    exact ⟨d, by simpa using hd, q⟩
theorem Ats.snoc : ∀ {xs : List V} {ds : List PyData} {x : V} {d : PyData}, Ats w H xs ds → At w H x d → Ats w H (xs ++ [x]) (ds ++ [d])
  | _, _, _, _, .nil, h => .cons h .nil
  | _, _, _, _, .cons a b, h => .cons a (Ats.snoc b h)
theorem AtKv.length : ∀ {xs : List En} {ds : List (PyData × PyData)}, AtKv w H xs ds → xs.length = ds.length
  | _, _, .nil => rfl
  | _, _, .cons _ _ _ _ hs => by simp [AtKv.length hs]
theorem AtKv.keys : ∀ {xs : List En} {ds : List (PyData × PyData)}, AtKv w H xs ds → xs.map (·.1) = ds.map fun e => keyOf e.1
  | _, _, .nil => rfl
  | _, _, .cons _ _ _ _ hs => by simp [AtKv.keys hs]
theorem AtKv.get : ∀ {xs : List En} {ds : List (PyData × PyData)} {i : Nat} {x : En}, AtKv w H xs ds → xs[i]? = some x → ∃ e kx vx, ds[i]? = some e ∧ x.1 = keyOf e.1 ∧ RelV kx x.2.1 ∧ At w H kx e.1 ∧ RelV vx x.2.2 ∧ At w H vx e.2
  | _, _, i, x, .nil, h => by simp at h
  | _, _, 0, x, .cons (kx := kx) (vx := vx) r h r' h' _, e => by
    simp at e
    subst e
    exact ⟨_, kx, vx, rfl, rfl, r, h, r', h'⟩
  | _, _, i + 1, x, .cons _ _ _ _ hs, e => by
    obtain ⟨d, kx, vx, hd, q⟩ := AtKv.get (i := i) hs (by simpa using e)
    exact ⟨d, kx, vx, by simpa using hd, q⟩
theorem AtKv.snoc : ∀ {xs : List En} {ds : List (PyData × PyData)} {ku vu : Value} {kx vx : V} {k v : PyData}, AtKv w H xs ds → RelV kx ku → At w H kx k → RelV vx vu → At w H vx v → AtKv w H (xs ++ [(keyOf k, ku, vu)]) (ds ++ [(k, v)])
  | _, _, _, _, _, _, _, _, .nil, a, b, c, d => .cons a b c d .nil
  | _, _, _, _, _, _, _, _, .cons a b c d r, a', b', c', d' => .cons a b c d (AtKv.snoc r a' b' c' d')
end
section
variable {P : Program} {w : World} {H : Hp} {h : Heap}
mutual
/-- a value without lists and dicts is a key -/
theorem At.key (ok : HOk P w H h) : ∀ {x : V} {d : PyData} {u : Value}, At w H x d → RelV x u → hsh d = true → NestedIs h (keyOf d) u
  | _, _, _, .non, r, _ => by cases r; simp only [keyOf]; exact .none
  | _, _, _, .bl b, r, _ => by cases r; simp only [keyOf]; exact .bool rfl
  | _, _, _, .int i, r, _ => by obtain ⟨t, rfl⟩ := r; simp only [keyOf]; exact .int i t
  | _, _, _, .str x, r, _ => by obtain ⟨t, rfl⟩ := r; simp only [keyOf]; exact .text x t
  | _, _, _, .lst _ _ _, _, q => by simp [hsh] at q
  | _, _, _, .dic _ _ _ _, _, q => by simp [hsh] at q
  | _, _, _, .tup (a := a) (xs := xs) hq hs, r, q1 => by
    cases r
    obtain ⟨_, its, rv, o, ho, hc, n, hd⟩ := ok a _ hq
    simp only [keyOf]
    exact .tup ho hc hd (by simpa using Ats.keys ok hs rv (by simpa only [hsh] using q1))
theorem Ats.keys (ok : HOk P w H h) : ∀ {xs : List V} {ds : List PyData} {us : List Value}, Ats w H xs ds → Vals xs us → hshs ds = true → NestedAll h (keysOf ds) us
  | _, _, _, .nil, r, _ => by cases r; simp only [keysOf]; exact .nil
  | _, _, _, .cons a as, r, q1 => by
    cases r with
    | cons r rs =>
      simp only [hshs, Bool.and_eq_true] at q1
      simp only [keysOf]
      exact .cons (At.key ok a r q1.1) (Ats.keys ok as rs q1.2)
end
theorem AtKv.keysAt (ok : HOk P w H h) : ∀ {es : List En} {kvs : List (PyData × PyData)}, AtKv w H es kvs → okKv kvs = true → (∀ e ∈ kvs, e.1.depth ≤ 8) → KeysAt h es
  | _, _, .nil, _, _ => fun _ z => nomatch z
  | _, _, .cons (k := k) (v := v) r a r' a' hs, q, hd => fun x hx => by
    have hm := okKv_mem q (k, v) List.mem_cons_self
    rcases List.mem_cons.mp hx with e | hx
    · subst e
      exact ⟨At.key ok a r (hsh_of _ hm.1 hm.2.1), Nat.le_trans (key_depth k) (hd (k, v) List.mem_cons_self)⟩
    · simp only [okKv, Bool.and_eq_true] at q
      exact AtKv.keysAt ok hs q.2 (fun e he => hd e (List.mem_cons_of_mem _ he)) x hx
theorem AtKv.nodup {es : List En} {kvs : List (PyData × PyData)} (a : AtKv w H es kvs) (q : okKv kvs = true) (hn : (kvs.map (·.1)).Nodup) : (es.map (·.1)).Nodup := by
  rw [a.keys]
  have hm := okKv_mem q
  clear a
  induction kvs with
  | nil => exact List.nodup_nil
  | cons e kvs ih =>
    rw [List.map_cons, List.nodup_cons] at hn ⊢
    simp only [okKv, Bool.and_eq_true] at q
    refine ⟨fun hc => hn.1 ?_, ih q.2 hn.2 fun x hx => hm x (List.mem_cons_of_mem _ hx)⟩
    obtain ⟨x, hx, ex⟩ := List.mem_map.mp hc
    have h1 := hm e List.mem_cons_self
    have h2 := hm x (List.mem_cons_of_mem _ hx)
    exact List.mem_map.mpr ⟨x, hx, key_inj h2.1 h1.1 h2.2.1 h1.2.1 ex⟩
theorem At.raw (ok : HOk P w H h) {a : Addr} {o : Obj} {u : HO} {es : List En} (hq : H a = some (.frz o u)) (ho : DicObj w o es) : Raw w h a es := by
  obtain ⟨e, _⟩ := ok a _ hq
  obtain ⟨hc, fs, ep, hd, he⟩ := ho
  exact ⟨o, fs, ep, e, hc, hd, he⟩
/-! the values as the library reads them -/
mutual
theorem At.reads (ok : HOk P w H h) : ∀ {x : V} {d : PyData} {u : Value}, At w H x d → RelV x u → okD d = true → ∃ as, Reads h u d as ∧ sysModules ∉ as
  | _, _, _, .non, r, _ => by cases r; exact ⟨[], .none, by simp⟩
  | _, _, _, .bl _, _, q => by simp [okD] at q
  | _, _, _, .int i, r, _ => by obtain ⟨t, rfl⟩ := r; exact ⟨[], .int i t, by simp⟩
  | _, _, _, .str x, r, _ => by obtain ⟨t, rfl⟩ := r; exact ⟨[], .str x t, by simp⟩
  | _, _, _, .lst _ _ _, _, q => by simp [okD] at q
  | _, _, _, .tup (a := a) (xs := xs) hq hs, r, q => by
    cases r
    obtain ⟨_, its, rv, o, ho, hc, n, hd⟩ := ok a _ hq
    obtain ⟨as, hr, hn⟩ := Ats.reads ok hs rv (by simpa only [okD] using q)
    exact ⟨as, .tuple ho hc hd (by simpa using hr), hn⟩
  | _, _, _, .dic (a := a) (o := o) (kvs := kvs) hq ho hsys hs, r, q => by
    cases r
    obtain ⟨e, _⟩ := ok a _ hq
    obtain ⟨hc, fs, ep, hd, he⟩ := ho
    obtain ⟨as, bs, h1, h2, n1, n2⟩ := AtKv.reads ok hs (okD_dict q).1
    refine ⟨_, .dict e hc.1 hd (kvs := kvs) (as := as) (bs := bs) ?_ ?_, ?_⟩
    · rw [he, List.map_map]; exact h1
    · rw [he, List.map_map]; exact h2
    · intro hm
      rcases List.mem_append.mp hm with z | z
      · rcases List.mem_cons.mp z with z | z
        · rw [← z] at hsys
          simp at hsys
        · exact n1 z
      · exact n2 z
theorem Ats.reads (ok : HOk P w H h) : ∀ {xs : List V} {ds : List PyData} {us : List Value}, Ats w H xs ds → Vals xs us → okDs ds = true → ∃ as, ReadsAll h us ds as ∧ sysModules ∉ as
  | _, _, _, .nil, r, _ => by cases r; exact ⟨[], .nil, by simp⟩
  | _, _, _, .cons a as, r, q => by
    cases r with
    | cons r rs =>
      simp only [okDs, Bool.and_eq_true] at q
      obtain ⟨x, h1, n1⟩ := At.reads ok a r q.1
      obtain ⟨y, h2, n2⟩ := Ats.reads ok as rs q.2
      exact ⟨x ++ y, .cons h1 h2, by simp [n1, n2]⟩
theorem AtKv.reads (ok : HOk P w H h) : ∀ {es : List En} {kvs : List (PyData × PyData)}, AtKv w H es kvs → okKv kvs = true →
    ∃ as bs, ReadsAll h (es.map fun x => (entOf w x).key) (kvs.map (·.1)) as ∧ ReadsAll h (es.map fun x => (entOf w x).val) (kvs.map (·.2)) bs ∧ sysModules ∉ as ∧ sysModules ∉ bs
  | _, _, .nil, _ => ⟨[], [], .nil, .nil, by simp, by simp⟩
  | _, _, .cons r a r' a' hs, q => by
    simp only [okKv, Bool.and_eq_true] at q
    obtain ⟨x, h1, n1⟩ := At.reads ok a r q.1.1.1
    obtain ⟨y, h2, n2⟩ := At.reads ok a' r' q.1.2
    obtain ⟨as, bs, h3, h4, n3, n4⟩ := AtKv.reads ok hs q.2
    exact ⟨x ++ as, y ++ bs, .cons h1 h3, .cons h2 h4, by simp [n1, n3], by simp [n2, n4]⟩
end
end
end K15
end

section
set_option Elab.async false
set_option linter.all false
set_option maxRecDepth 100000
set_option pp.maxSteps 600
namespace K15
open PySem PySem.Spec PyProof.Rows L2 TL
open PySem.SeqAt (EqIn EqAt rcIn_tuples RcNeAt)

/-! ### what is read is equal to what was written -/
section
variable {P : Program} {w : World} {H : Hp} {s : Shared}
theorem At.inv_tup {x : V} {ds : List PyData} (a : At w H x (.tuple ds)) : ∃ p xs, x = .ref p ∧ H p = some (.tup xs) ∧ Ats w H xs ds := by
  cases a with
  | tup h hs => exact ⟨_, _, rfl, h, hs⟩
theorem At.inv_dic {x : V} {kvs : List (PyData × PyData)} (a : At w H x (.dict kvs)) : ∃ p o u es, x = .ref p ∧ H p = some (.frz o u) ∧ DicObj w o es ∧ (p == sysModules) = false ∧ AtKv w H es kvs := by
  cases a with
  | dic h h1 h2 h3 => exact ⟨_, _, _, _, rfl, h, h1, h2, h3⟩
theorem plainKv_mem {n : Nat} {kvs : List (PyData × PyData)} (h : plainKv n kvs = true) : ∀ e ∈ kvs, plain (min n 6) e.1 = true ∧ plain n e.2 = true := by
  rw [plainKv_all, List.all_eq_true] at h
  intro e he
  have := h e he
  rwa [Bool.and_eq_true] at this
theorem key8 {n : Nat} {kvs : List (PyData × PyData)} (h : plainKv n kvs = true) : ∀ e ∈ kvs, e.1.depth ≤ 8 := fun e he => by
  have := depth_of_plain e.1 (min n 6) (plainKv_mem h e he).1
  omega
theorem depthKv_mem : ∀ {kvs : List (PyData × PyData)} {e : PyData × PyData}, e ∈ kvs → e.2.depth ≤ PyData.depthKv kvs
  | (k, v) :: r, e, h => by
    simp only [PyData.depthKv]
    rcases List.mem_cons.mp h with q | h
    · rw [q]
      show v.depth ≤ _
      omega
    · have := depthKv_mem h
      omega
/-- the two sides of a dict -/
theorem dict_sides {es es' : List En} {kvs : List (PyData × PyData)} {n : Nat} {A : Around} (ok : HOk P w H s.heap) (hd : okD (.dict kvs) = true) (hp : plainKv n kvs = true) (a : AtKv w H es' ((byT kvs).map srt2)) (b : AtKv w H es kvs)
    (ih : ∀ e ∈ kvs, ∀ (x y : V) (u v : Value), At w H x (srt e.2) → At w H y e.2 → RelV x u → RelV y v → EqIn P w A s u v true) :
    KeysAt s.heap es' ∧ KeysAt s.heap es ∧ (es.map (·.1)).Nodup ∧ es'.length = es.length ∧ ∀ x ∈ es', ∃ y ∈ es, y.1 = x.1 ∧ EqIn P w A s x.2.2 y.2.2 true := by
  obtain ⟨hk, hn⟩ := okD_dict hd
  have perm : (byT kvs).Perm kvs := srtE_perm _ _
  have same : ∀ e' ∈ (byT kvs).map srt2, ∃ e ∈ kvs, e' = srt2 e := fun e' he => by
    obtain ⟨e, h1, rfl⟩ := List.mem_map.mp he
    exact ⟨e, perm.mem_iff.mp h1, rfl⟩
  have kb := b.keysAt ok hk (key8 hp)
  have ka : KeysAt s.heap es' := by
    intro x hx
    obtain ⟨i, hi⟩ := List.mem_iff_getElem?.mp hx
    obtain ⟨e', kx, vx, he', ek, r, ak, _, _⟩ := a.get hi
    obtain ⟨e, he, rfl⟩ := same e' (List.mem_of_getElem? he')
    have hm := okKv_mem hk e he
    rw [ek]
    exact ⟨At.key ok ak r (hsh_of _ hm.1 hm.2.1), Nat.le_trans (key_depth _) (key8 hp e he)⟩
  refine ⟨ka, kb, b.nodup hk (nodup_keys hn), ?_, fun x hx => ?_⟩
  · rw [a.length, b.length, List.length_map, perm.length_eq]
  · obtain ⟨i, hi⟩ := List.mem_iff_getElem?.mp hx
    obtain ⟨e', kx, vx, he', ek, r, ak, rv, av⟩ := a.get hi
    obtain ⟨e, he, rfl⟩ := same e' (List.mem_of_getElem? he')
    obtain ⟨j, hj⟩ := List.mem_iff_getElem?.mp he
    have hlt : j < es.length := by
      rw [b.length]
      exact (List.getElem?_eq_some_iff.mp hj).1
    have hy : es[j]? = some es[j] := List.getElem?_eq_getElem hlt
    obtain ⟨e2, ky, vy, h2, ek2, r2, ak2, rv2, av2⟩ := b.get hy
    rw [hj] at h2
    cases h2
    exact ⟨es[j], List.getElem_mem hlt, ek2.trans ek.symm, ih e he vx vy _ _ av av2 rv rv2⟩
mutual
theorem eq_srt (ok : HOk P w H s.heap) : ∀ (d : PyData) (n : Nat) (A : Around) (x y : V) (u v : Value), okD d = true → plain n d = true → At w H x (srt d) → At w H y d → RelV x u → RelV y v → A.units + d.depth + 9 < cLine → EqIn P w A s u v true
  | .none, n, A, x, y, u, v, _, _, a, b, r, q, hu => by
    simp only [srt] at a
    cases a; cases b; cases r; cases q
    exact (EqAt.same _).inModel P w
  | .bool _, n, A, x, y, u, v, h, _, _, _, _, _, _ => by simp [okD] at h
  | .list _, n, A, x, y, u, v, h, _, _, _, _, _, _ => by simp [okD] at h
  | .int i, n, A, x, y, u, v, _, _, a, b, r, q, hu => by
    simp only [srt] at a
    cases a; cases b
    obtain ⟨t, rfl⟩ := r
    obtain ⟨t', rfl⟩ := q
    have := (EqAt.int_int (A := A) (s := s) i t i t').inModel P w
    simpa using this
  | .str z, n, A, x, y, u, v, _, _, a, b, r, q, hu => by
    simp only [srt] at a
    cases a; cases b
    obtain ⟨t, rfl⟩ := r
    obtain ⟨t', rfl⟩ := q
    have := (EqAt.str_str (A := A) (s := s) z t z t').inModel P w
    simpa using this
  | .tuple xs, n, A, x, y, u, v, h, hp, a, b, r, q, hu => by
    simp only [srt] at a
    obtain ⟨p1, xs1, rfl, h1, a1⟩ := a.inv_tup
    obtain ⟨p2, xs2, rfl, h2, a2⟩ := b.inv_tup
    cases r; cases q
    obtain ⟨_, us, rv, t1⟩ := ok p1 _ h1
    obtain ⟨_, vs, rv', t2⟩ := ok p2 _ h2
    have l1 := a1.length
    have l2 := a2.length
    have l3 := rv.length
    have l4 := rv'.length
    rw [srts_map, List.length_map] at l1
    simp only [PyData.depth] at hu
    simp only [plain, Bool.and_eq_true] at hp
    refine eqIn_tuples_same (show s.heap.IsTuple p1 us.toArray from t1) (show s.heap.IsTuple p2 vs.toArray from t2) (by simp; omega) (by omega) fun j j1 j2 => ?_
    have hj : j < xs.length := by simp at j1; omega
    exact eq_srts ok xs (n - 1) A.in1 xs1 xs2 us vs (by simpa only [okD] using h) hp.2 a1 a2 rv rv' (by show A.units + 1 + _ + 9 < cLine; omega) j (by simpa using j1) (by simpa using j2)
  | .dict kvs, n, A, x, y, u, v, h, hp, a, b, r, q, hu => by
    rw [srt_dict] at a
    obtain ⟨p1, o1, u1, es1, rfl, h1, d1, s1, a1⟩ := a.inv_dic
    obtain ⟨p2, o2, u2, es2, rfl, h2, d2, s2, a2⟩ := b.inv_dic
    cases r; cases q
    simp only [PyData.depth] at hu
    simp only [plain, Bool.and_eq_true] at hp
    obtain ⟨ka, kb, nb, hl, hits⟩ := dict_sides (A := A.in1) ok h hp.2 a1 a2 fun e he x y u v ax ay rx ry => by
      have hm := okKv_mem (okD_dict h).1 e he
      exact eq_srtKv ok kvs (n - 1) A.in1 (okD_dict h).1 hp.2 (by show A.units + 1 + _ + 9 < cLine; omega) e he x y u v ax ay rx ry
    exact eqIn_dicts_same s1 s2 (by omega) (At.raw ok h1 d1) (At.raw ok h2 d2) ka kb nb hl hits
theorem eq_srts (ok : HOk P w H s.heap) : ∀ (ds : List PyData) (n : Nat) (A : Around) (xs ys : List V) (us vs : List Value), okDs ds = true → plains n ds = true → Ats w H xs (srts ds) → Ats w H ys ds → Vals xs us → Vals ys vs → A.units + PyData.depthAll ds + 9 < cLine →
    ∀ j (h1 : j < us.length) (h2 : j < vs.length), EqIn P w A s us[j] vs[j] true
  | [], n, A, xs, ys, us, vs, _, _, a, b, r, q, _, j, h1, h2 => by
    cases b; cases q
    exact absurd h2 (by simp)
  | d :: ds, n, A, xs, ys, us, vs, h, hp, a, b, r, q, hu, j, h1, h2 => by
    simp only [srts] at a
    simp only [okDs, Bool.and_eq_true] at h
    simp only [plains, Bool.and_eq_true] at hp
    simp only [PyData.depthAll] at hu
    cases a with
    | cons a as =>
      cases b with
      | cons b bs =>
        cases r with
        | cons r rs =>
          cases q with
          | cons q qs =>
            cases j with
            | zero => exact eq_srt ok d n A _ _ _ _ h.1 hp.1 a b r q (by omega)
            | succ j => exact eq_srts ok ds n A _ _ _ _ h.2 hp.2 as bs rs qs (by omega) j (by simpa using h1) (by simpa using h2)
theorem eq_srtKv (ok : HOk P w H s.heap) : ∀ (kvs : List (PyData × PyData)) (n : Nat) (A : Around), okKv kvs = true → plainKv n kvs = true → A.units + PyData.depthKv kvs + 9 < cLine →
    ∀ e ∈ kvs, ∀ (x y : V) (u v : Value), At w H x (srt e.2) → At w H y e.2 → RelV x u → RelV y v → EqIn P w A s u v true
  | [], _, _, _, _, _, e, he => nomatch he
  | (k, d) :: kvs, n, A, h, hp, hu, e, he => by
    simp only [okKv, Bool.and_eq_true] at h
    simp only [plainKv, Bool.and_eq_true] at hp
    simp only [PyData.depthKv] at hu
    intro x y u v ax ay rx ry
    rcases List.mem_cons.mp he with q | he
    · subst q
      exact eq_srt ok d n A x y u v h.1.2 hp.1.2 ax ay rx ry (by omega)
    · exact eq_srtKv ok kvs n A h.2 hp.2 (by omega) e he x y u v ax ay rx ry
end
/-- read(text) != value -/
theorem ne_srt (ok : HOk P w H s.heap) {d : PyData} {n : Nat} {A : Around} {E : Value → Shared → Prop} {x y : V} {u v : Value} {Q : Value → Shared → Prop} (h : okD d = true) (hp : plain n d = true) (a : At w H x (srt d)) (b : At w H y d) (r : RelV x u) (q : RelV y v) (hu : A.units + d.depth + 9 < cLine)
    (hQ : Q (.bool false) s) : wpAny (model P w) A (compareOp .NotEq u v) Q E s := by
  cases d with
  | none =>
    simp only [srt] at a
    cases a; cases b; cases r; cases q
    exact RcNeAt.none_none P w E Q hQ
  | bool _ => simp [okD] at h
  | list _ => simp [okD] at h
  | int i =>
    simp only [srt] at a
    cases a; cases b
    obtain ⟨t, rfl⟩ := r
    obtain ⟨t', rfl⟩ := q
    exact RcNeAt.int_int i t i t' P w E Q (by simpa using hQ)
  | str z =>
    simp only [srt] at a
    cases a; cases b
    obtain ⟨t, rfl⟩ := r
    obtain ⟨t', rfl⟩ := q
    exact RcNeAt.str_str z t z t' P w E Q (by simpa using hQ)
  | tuple xs =>
    simp only [srt] at a
    obtain ⟨p1, xs1, rfl, h1, a1⟩ := a.inv_tup
    obtain ⟨p2, xs2, rfl, h2, a2⟩ := b.inv_tup
    cases r; cases q
    obtain ⟨_, us, rv, t1⟩ := ok p1 _ h1
    obtain ⟨_, vs, rv', t2⟩ := ok p2 _ h2
    have l1 := a1.length
    have l2 := a2.length
    have l3 := rv.length
    have l4 := rv'.length
    rw [srts_map, List.length_map] at l1
    simp only [PyData.depth] at hu
    simp only [plain, Bool.and_eq_true] at hp
    refine ne_tuples_same (show s.heap.IsTuple p1 us.toArray from t1) (show s.heap.IsTuple p2 vs.toArray from t2) (by simp; omega) (by omega) (fun j j1 j2 => ?_) hQ
    exact eq_srts ok xs (n - 1) A.in1 xs1 xs2 us vs (by simpa only [okD] using h) hp.2 a1 a2 rv rv' (by show A.units + 1 + _ + 9 < cLine; omega) j (by simpa using j1) (by simpa using j2)
  | dict kvs =>
    rw [srt_dict] at a
    obtain ⟨p1, o1, u1, es1, rfl, h1, d1, s1, a1⟩ := a.inv_dic
    obtain ⟨p2, o2, u2, es2, rfl, h2, d2, s2, a2⟩ := b.inv_dic
    cases r; cases q
    simp only [PyData.depth] at hu
    simp only [plain, Bool.and_eq_true] at hp
    obtain ⟨ka, kb, nb, hl, hits⟩ := dict_sides (A := A.in1) ok h hp.2 a1 a2 fun e he x y u v ax ay rx ry =>
      eq_srtKv ok kvs (n - 1) A.in1 (okD_dict h).1 hp.2 (by show A.units + 1 + _ + 9 < cLine; omega) e he x y u v ax ay rx ry
    exact ne_dicts_same s1 s2 (by omega) (At.raw ok h1 d1) (At.raw ok h2 d2) ka kb nb hl hits hQ
end
end K15
end

section
set_option Elab.async false
set_option linter.all false
set_option maxRecDepth 100000
set_option pp.maxSteps 600
namespace K15
open PySem PySem.Spec PyProof.Rows L2 TL

/-! ### repr, with great ints -/
section
variable {prog : Program} {w : World} {h₀ : Heap}
theorem pow43 : 10 ^ 4000 < 10 ^ 4300 := by decide +kernel
theorem small43 {i : Int} (h : leafInt i = true) : i.natAbs < 10 ^ 4300 := by
  have h1 : i.natAbs < 10 ^ 4000 := by simpa only [leafInt, decide_eq_true_eq] using h
  exact Nat.lt_trans h1 pow43
theorem reprObj_int {A : Around} {E : Value → Shared → Prop} {s : Shared} {a : Int} {t : Tok} {Q : Value → Shared → Prop} (hu : A.units < cLine) (hn : s.heap.NoDigits) (ha : a.natAbs < 10 ^ 4300) (h : Q (.str (toString a) s.toks) { s with toks := s.toks + 1 }) :
    wpAny (model prog w) A (pyReprObj (.int a t)) Q E s := by
  refine wpAny_pyReprObj_slot (T := "int") hu (typeIs_int s a t) F.slot_int_repr.toG ?_
  refine wpAny_call_entry F.slot_int_repr (typeIs_int s a t) F.entry_int_repr ?_ (F.args_int_repr_1 _)
  unfold Builtin.«int.__repr__»
  show wpAny _ _ (do let r ← Builtin.overDigitLimit? a; _) _ _ s
  refine wpAny_bind (overDigitLimit_any hn (fun hlt => ?_) (fun hge => absurd ha (Nat.not_lt.mpr hge)))
  exact wpAny_bind (wpAny_mkStr (wpAny_pure ⟨_, rfl, _, _, rfl, h⟩) (int_text_fits10 ha))
theorem reprK_int {a : Int} {t : Tok} (hn : h₀.NoDigits) (ha : a.natAbs < 10 ^ 4300) (as : List Addr) (d : Nat) : ReprK prog w as h₀ d (.int a t) (toString a) := by
  intro base hb A g E s Q hg hcl hu hk hQ
  have hb' : base ≤ sizeLine := by omega
  rw [pyReprUnder_leaf (v := .int a t) hb' (fun _ e => nomatch e)]
  unfold pyRepr
  exact wpAny_bind (reprObj_int (by omega) (hn.keeps hk) ha (wpAny_pure (hQ s.heap _ fun _ _ e => e)))
mutual
theorem reprK_ok (hn : h₀.NoDigits) : ∀ {v : Value} {d : PyData} {as : List Addr}, Reads h₀ v d as → okD d = true → sysModules ∉ as → d.shown.length ≤ sizeLine → ∃ bs, ReadAtMost h₀ d.depth bs ∧ ReprK prog w bs h₀ d.depth v d.shown
  | _, _, _, .none, _, _, _ => ⟨[], (fun _ h => nomatch h), by simp only [PyData.shown]; exact .of_is ReprIs.none _ _ _⟩
  | _, _, _, .bool b, q, _, _ => by simp [okD] at q
  | _, _, _, .int i t, q, _, _ => ⟨[], (fun _ h => nomatch h), by simp only [PyData.shown]; exact reprK_int hn (small43 (by simpa only [okD] using q)) _ _⟩
  | _, _, _, .str x t, _, _, z => ⟨[], (fun _ h => nomatch h), by simp only [PyData.shown]; exact .of_is (ReprIs.str x t (by simpa only [PyData.shown] using z)) _ _ _⟩
  | _, _, _, .list _ _ _ _, q, _, _ => by simp [okD] at q
  | _, _, _, .tuple (a := a) (xs := xs) h1 h2 h3 h4, q, m, z => by
    have z' : (tupleText (PyData.shownAll xs)).length ≤ sizeLine := by simpa only [PyData.shown] using z
    obtain ⟨bs, hb, hk⟩ := reprAllK_ok hn h4 (by simpa only [okD] using q) m fun t ht => Nat.le_trans (tupleText_mem_le ht) z'
    have r : Reads h₀ (.ref a) (.tuple xs) _ := .tuple h1 h2 h3 h4
    have na : a ∉ bs := not_mem_of_deeper r (by simp only [PyData.depth]; omega) hb
    refine ⟨a :: bs, ReadAtMost.cons r (by simp only [PyData.depth]; omega) hb, ?_⟩
    simp only [PyData.depth, PyData.shown]
    exact ReprK.tuple h1 h2 h3 na hk
  | _, _, _, .dict (a := a) (es := es) (kvs := kvs) (as := as1) (bs := bs1) h1 h2 h3 h4 h5, q, m, z => by
    have z' : (dictText (PyData.shownKv kvs)).length ≤ sizeLine := by simpa only [PyData.shown] using z
    have q' := okKv_mem (okD_dict q).1
    have q1 : okDs (kvs.map (·.1)) = true := by
      rw [okDs_all, List.all_eq_true]
      intro k hk
      obtain ⟨e, he, rfl⟩ := List.mem_map.mp hk
      exact (q' e he).1
    have q2 : okDs (kvs.map (·.2)) = true := by
      rw [okDs_all, List.all_eq_true]
      intro k hk
      obtain ⟨e, he, rfl⟩ := List.mem_map.mp hk
      exact (q' e he).2.2
    have m1 : sysModules ∉ as1 := fun y => m (List.mem_cons_of_mem _ (List.mem_append_left _ y))
    have m2 : sysModules ∉ bs1 := fun y => m (List.mem_cons_of_mem _ (List.mem_append_right _ y))
    obtain ⟨b1, hb1, k1⟩ := reprAllK_ok hn h4 q1 m1 fun t ht => let ⟨p, hp, hl⟩ := PyData.shownKv_key_le kvs t ht; Nat.le_trans hl (Nat.le_trans (dictText_mem_le hp) z')
    obtain ⟨b2, hb2, k2⟩ := reprAllK_ok hn h5 q2 m2 fun t ht => let ⟨p, hp, hl⟩ := PyData.shownKv_val_le kvs t ht; Nat.le_trans hl (Nat.le_trans (dictText_mem_le hp) z')
    have r : Reads h₀ (.ref a) (.dict kvs) _ := .dict h1 h2 h3 h4 h5
    have hb : ReadAtMost h₀ (PyData.depthKv kvs) (b1 ++ b2) := (hb1.mono (PyData.depthAll_keys_le kvs)).append (hb2.mono (PyData.depthAll_vals_le kvs))
    have na : a ∉ b1 ++ b2 := not_mem_of_deeper r (by simp only [PyData.depth]; omega) hb
    have hsys : (a == sysModules) = false := beq_eq_false_iff_ne.mpr fun e => m (by rw [e]; exact List.mem_cons_self ..)
    refine ⟨a :: (b1 ++ b2), ReadAtMost.cons r (by simp only [PyData.depth]; omega) hb, ?_⟩
    simp only [PyData.depth, PyData.shown, PyData.shownKv_eq]
    refine ReprK.dict h1 h2 h3 hsys na (ReprEntriesK.of_two es.toList _ _ ?_ ?_)
    · exact k1.more_le (fun b y => List.mem_append_left _ y) (PyData.depthAll_keys_le kvs)
    · exact k2.more_le (fun b y => List.mem_append_right _ y) (PyData.depthAll_vals_le kvs)
theorem reprAllK_ok (hn : h₀.NoDigits) : ∀ {vs : List Value} {ds : List PyData} {as : List Addr}, ReadsAll h₀ vs ds as → okDs ds = true → sysModules ∉ as → (∀ t ∈ PyData.shownAll ds, t.length ≤ sizeLine) →
    ∃ bs, ReadAtMost h₀ (PyData.depthAll ds) bs ∧ ReprAllK prog w bs h₀ (PyData.depthAll ds) vs (PyData.shownAll ds)
  | _, _, _, .nil, _, _, _ => ⟨[], (fun _ h => nomatch h), by simp only [PyData.shownAll]; exact .nil⟩
  | _, _, _, .cons (d := d) (ds := ds) r rs, q, m, z => by
    simp only [okDs, Bool.and_eq_true] at q
    obtain ⟨b1, hb1, k1⟩ := reprK_ok hn r q.1 (fun y => m (List.mem_append_left _ y)) (z _ (by simp only [PyData.shownAll]; exact List.mem_cons_self ..))
    obtain ⟨b2, hb2, k2⟩ := reprAllK_ok hn rs q.2 (fun y => m (List.mem_append_right _ y)) fun t ht => z t (by simp only [PyData.shownAll]; exact List.mem_cons_of_mem _ ht)
    refine ⟨b1 ++ b2, ?_, ?_⟩
    · simp only [PyData.depthAll]
      exact (hb1.mono (Nat.le_max_left _ _)).append (hb2.mono (Nat.le_max_right _ _))
    · simp only [PyData.depthAll, PyData.shownAll]
      exact .cons ((k1.more fun b y => List.mem_append_left _ y).level_le (Nat.le_max_left _ _)) (k2.more_le (fun b y => List.mem_append_right _ y) (Nat.le_max_right _ _))
end
/-- repr(a tuple) -/
theorem repr_tup {a : Addr} {xs : List PyData} {as : List Addr} {A : Around} {E : Value → Shared → Prop} {s : Shared} {Q : Value → Shared → Prop} (hn : s.heap.NoDigits) (r : Reads s.heap (.ref a) (.tuple xs) as) (q : okDs xs = true) (m : sysModules ∉ as)
    (hg : A.guards = some []) (hu : A.units + (PyData.depthAll xs + 2) < cLine) (z : (PyData.tuple xs).shown.length ≤ sizeLine)
    (hQ : ∀ h' u tk, (∀ b o, s.heap.get? b = some o → h'.get? b = some o) → Q (.str (PyData.tuple xs).shown u) { s with heap := h', toks := tk }) : wpAny (model prog w) A (call (.builtin "repr") [.ref a]) Q E s := by
  cases r with
  | tuple h1 h2 h3 h4 =>
    have z' : (tupleText (PyData.shownAll xs)).length ≤ sizeLine := by simpa only [PyData.shown] using z
    obtain ⟨bs, hb, hk⟩ := reprAllK_ok (prog := prog) (w := w) hn h4 q m fun t ht => Nat.le_trans (tupleText_mem_le ht) z'
    have na : a ∉ bs := not_mem_of_deeper (.tuple h1 h2 h3 h4) (by simp only [PyData.depth]; omega) hb
    refine call_repr_slot (T := "tuple") (by omega) ⟨_, h1, h2⟩ F.slot_tuple_repr ?_
    refine call_tuple_reprK h1 h2 h3 na hk hg (fun b _ => Clear.nil b) (by show A.units + 1 + _ < cLine; omega) (fun _ _ e => e) (fun h' u tk k => ⟨_, _, rfl, ?_⟩) z'
    simpa only [PyData.shown] using hQ h' u tk k
end
/-! ### the length of what is shown -/
theorem reprChar_sig : ∀ c < 128, isSig c = true → Builtin.Str.reprChar 39 c = [c] := by decide +kernel
theorem isSig_lt {c : Nat} (h : isSig c = true) : c < 128 := by
  simp only [isSig, Bool.or_eq_true, beq_iff_eq, Bool.and_eq_true, decide_eq_true_eq] at h
  omega
theorem repr_len {x : Str} (h : ∀ c ∈ tl x, isSig c = true) : (reprText x).length = x.length + 2 := by
  have hq : reprQuote x = 39 := by
    unfold reprQuote
    rw [if_neg]
    intro q
    simp only [Bool.and_eq_true, Array.contains_iff_mem] at q
    have := h 39 (by simpa [tl] using q.1)
    exact absurd this (by decide)
  rw [← reprLen_eq, hq]
  have go : ∀ (l : List Nat) (n : Nat), (∀ c ∈ l, isSig c = true) → l.foldl (fun n c => n + (Builtin.Str.reprChar 39 c).length) n = l.length + n := by
    intro l
    induction l with
    | nil => intro n _; simp
    | cons c l ih =>
      intro n hl
      have hc := hl c List.mem_cons_self
      rw [List.foldl_cons, ih _ fun d hd => hl d (List.mem_cons_of_mem _ hd), reprChar_sig c (isSig_lt hc) hc]
      simp only [List.length_cons, List.length_nil]
      omega
  rw [← Array.foldl_toList]
  show (tl x).foldl _ 2 = _
  rw [go (tl x) 2 h, len_tl]
theorem intT_eq (i : Int) : tl (Str.ofString (toString i)) = intT i := by
  unfold intT
  cases i with
  | ofNat n =>
    rw [if_neg (by simp)]
    exact tl_num n
  | negSucc n =>
    rw [if_pos (Int.negSucc_lt_zero n)]
    have e : toString (Int.negSucc n) = "-" ++ toString (n + 1) := rfl
    have h := tl_num (n + 1)
    rw [tl_ofString] at h ⊢
    rw [e, String.toList_append, List.map_append]
    have h' : (toString (n + 1)).toList.map Char.toNat = numL (n + 1) := h
    rw [h']
    rfl
mutual
theorem shown_le : ∀ d : PyData, okD d = true → d.shown.length ≤ wt d
  | .none, _ => by simp only [PyData.shown, wt]; decide
  | .bool _, h => by simp [okD] at h
  | .list _, h => by simp [okD] at h
  | .int i, _ => by
    simp only [PyData.shown, wt]
    rw [len_tl, intT_eq]
    exact Nat.le_refl _
  | .str s, h => by
    have hs : leafStr s = true := by simpa only [okD] using h
    unfold leafStr at hs
    rw [Bool.and_eq_true, decide_eq_true_eq, List.all_eq_true] at hs
    simp only [PyData.shown, wt]
    rw [repr_len hs.2]
    exact Nat.le_refl _
  | .tuple xs, h => by
    have := shown_les xs (by simpa only [okD] using h)
    simp only [PyData.shown, wt]
    unfold tupleText
    rw [strLen_append, strLen_append]
    have e1 : (("(" : String) : Str).length = 1 := rfl
    have e2 : ((if (PyData.shownAll xs).length == 1 then ",)" else ")" : String) : Str).length ≤ 2 := by
      split <;> decide
    omega
  | .dict kvs, h => by
    have := shown_leKv kvs (okD_dict h).1
    simp only [PyData.shown, wt]
    unfold dictText
    rw [strLen_append, strLen_append]
    have e1 : (("{" : String) : Str).length = 1 := rfl
    have e2 : (("}" : String) : Str).length = 1 := rfl
    omega
theorem shown_les : ∀ xs : List PyData, okDs xs = true → (Str.join ", " (PyData.shownAll xs)).length ≤ wts xs
  | [], _ => by simp only [PyData.shownAll, wts]; decide
  | [x], h => by
    simp only [okDs, Bool.and_true] at h
    have := shown_le x h
    simp only [PyData.shownAll, wts]
    show x.shown.length ≤ _
    omega
  | x :: y :: r, h => by
    simp only [okDs, Bool.and_eq_true] at h
    have h1 := shown_le x h.1
    have h2 := shown_les (y :: r) (by simp only [okDs, Bool.and_eq_true]; exact h.2)
    have e : (((", " : String) : Str)).length = 2 := rfl
    simp only [PyData.shownAll, wts] at h2 ⊢
    show (x.shown ++ ", " ++ Str.join ", " (y.shown :: PyData.shownAll r)).length ≤ _
    rw [strLen_append, strLen_append]
    omega
theorem shown_leKv : ∀ kvs : List (PyData × PyData), okKv kvs = true → (Str.join ", " (PyData.shownKv kvs)).length ≤ wtKv kvs
  | [], _ => by simp only [PyData.shownKv, wtKv]; decide
  | [(k, v)], h => by
    simp only [okKv, Bool.and_true, Bool.and_eq_true] at h
    have h1 := shown_le k h.1.1
    have h2 := shown_le v h.2
    have e : (((": " : String) : Str)).length = 2 := rfl
    simp only [PyData.shownKv, wtKv]
    show (k.shown ++ ": " ++ v.shown).length ≤ _
    rw [strLen_append, strLen_append]
    omega
  | (k, v) :: (k2, v2) :: r, h => by
    simp only [okKv, Bool.and_eq_true] at h
    have h1 := shown_le k h.1.1.1
    have h2 := shown_le v h.1.2
    have h3 := shown_leKv ((k2, v2) :: r) (by simp only [okKv, Bool.and_eq_true]; exact h.2)
    have e : (((": " : String) : Str)).length = 2 := rfl
    have e2 : (((", " : String) : Str)).length = 2 := rfl
    simp only [PyData.shownKv, wtKv] at h3 ⊢
    show ((k.shown ++ ": " ++ v.shown) ++ ", " ++ Str.join ", " ((k2.shown ++ ": " ++ v2.shown) :: PyData.shownKv r)).length ≤ _
    rw [strLen_append, strLen_append, strLen_append, strLen_append]
    omega
end
end K15
end

section
set_option Elab.async false
set_option linter.all false
set_option maxRecDepth 100000
set_option pp.maxSteps 600
namespace K15
open PySem PySem.Spec PyProof.Rows L2 TL

abbrev St := L2.St
/-! ### a sealed dict walked -/
/-- the entries as values without the heap -/
abbrev Rels (es : List En) (ps : List (V × V)) : Prop := Paired (fun (p : V × V) (x : En) => RelV p.1 x.2.1 ∧ RelV p.2 x.2.2) ps es
theorem Rels.get : ∀ {ps : List (V × V)} {es : List En} {i : Nat} {p : V × V}, Rels es ps → ps[i]? = some p → ∃ x, es[i]? = some x ∧ RelV p.1 x.2.1 ∧ RelV p.2 x.2.2
  | _, _, i, p, .nil, e => by simp at e
  | _, _, 0, p, .cons h _, e => by
    simp at e
    subst e
    exact ⟨_, rfl, h⟩
  | _, _, i + 1, p, .cons _ t, e => by
    obtain ⟨x, h1, h2⟩ := Rels.get (i := i) t (by simpa using e)
    exact ⟨x, by simpa using h1, h2⟩
/-- what stands where a dict is walked -/
def Seal (w : World) (H : Hp) (d : Addr) (o : Obj) (ps : List (V × V)) : Prop := ∃ u es, H d = some (.frz o u) ∧ DicObj w o es ∧ (d == sysModules) = false ∧ Rels es ps
def Ikr (w : World) (d : Addr) (o : Obj) (ps : List (V × V)) : It :=
  ⟨fun i H => Seal w H d o ps ∧ i < ps.length, fun i H x H' => H' = H ∧ ∃ p, ps[i]? = some p ∧ x = p.1, fun i H => Seal w H d o ps ∧ ps.length ≤ i⟩
def Iir (w : World) (d : Addr) (o : Obj) (ps : List (V × V)) : It :=
  ⟨fun i H => Seal w H d o ps ∧ i < ps.length, fun i H x H' => ∃ T p, ps[i]? = some p ∧ H T = none ∧ x = .ref T ∧ H' = upd H T (.tup [p.1, p.2]), fun i H => Seal w H d o ps ∧ ps.length ≤ i⟩
section
variable {X : Cx} {pins : List (Addr × Obj)} {σ : St} {H : Hp} {s : Shared} {d : Addr} {o : Obj} {ps : List (V × V)}
theorem Inv.sealed {w : World} (I : Inv X pins σ H s) (h : Seal w H d o ps) : (d == sysModules) = false ∧ s.heap.get? d = some o ∧ o.ExactDict ∧ ∃ (fs : Array DictEntry) (ep : Nat), o.data = .dict fs ep ∧ fs.size = ps.length ∧
    ∀ (i : Nat) (p : V × V), ps[i]? = some p → ∃ en, fs[i]? = some en ∧ RelV p.1 en.key ∧ RelV p.2 en.val := by
  obtain ⟨u, es, hd, ⟨hc, fs, ep, hdt, he⟩, hs, hr⟩ := h
  obtain ⟨ho, _⟩ := I.hok d _ hd
  refine ⟨hs, ho, hc, fs, ep, hdt, ?_, fun i p hp => ?_⟩
  · rw [ent_size he]
    exact (Paired.length hr).symm
  · obtain ⟨x, hx, r1, r2⟩ := hr.get hp
    exact ⟨entOf w x, by rw [ent_get he i, hx]; rfl, r1, r2⟩
end
section
variable {P : Program} {w : World} {K : PySem.W.Frag} {tg : Expr} {d : Addr} {o : Obj} {fs : Array DictEntry} {ep : Nat} {ps : List (V × V)}
theorem turn_keyr (it : Addr) (hod : o.data = .dict fs ep) : Turn P w K tg (Ikr w d o ps) [it] it (fun i h => h.IsKeyIter it d i ps.length ep) where
  mem := by simp
  obj := fun i h st b hb => by
    have e : b = it := by simpa using hb
    subst e
    obtain ⟨oi, e, c, dd⟩ := st
    exact ⟨oi, e, fun v z => by rw [dd] at z; cases z⟩
  keep := fun i h h' st k => st.at fun oi e => k it (by simp) oi e
  item := by
    intro X hP hw hK hc i pins s σ H E I hf st hg
    subst hP hw hK
    obtain ⟨hd, hi⟩ := hg
    obtain ⟨f0, f1, f2, f3, f4, f5⟩ := hf it (by simp)
    obtain ⟨hs, hgd, hx, fs', ep', hdt, hsz, ent⟩ := Inv.sealed I hd
    obtain ⟨rfl, rfl⟩ := dict_ep hod hdt
    have hp : ps[i]? = some ps[i] := List.getElem?_eq_getElem hi
    obtain ⟨en, hen, r1, _⟩ := ent i _ hp
    refine next_key_item st hgd hdt hsz hen fun h' st' sb => ?_
    have I1 : Inv X pins σ H { s with heap := h' } := I.turned (t' := s.toks) (fun b q hb e => (sb.2 b hb).trans e) f0 f1 f3 f4 f5
    obtain ⟨oi, e, c, dd⟩ := id st'
    exact ⟨en.key, rfl, go_of (s := { s with heap := h' }) e c dd (by decide) ⟨_, H, I1, r1, ⟨rfl, _, hp, rfl⟩, st', fun b hb => (hf b hb).1⟩⟩
  done := by
    intro X hP hw hK hc i pins s σ H E I hf st hg
    subst hP hw hK
    obtain ⟨hd, hi⟩ := hg
    obtain ⟨f0, f1, f2, f3, f4, f5⟩ := hf it (by simp)
    obtain ⟨hs, hgd, hx, fs', ep', hdt, hsz, ent⟩ := Inv.sealed I hd
    obtain ⟨rfl, rfl⟩ := dict_ep hod hdt
    exact next_key_end (I.ok.hd hc) st hgd hdt hsz hi fun h' eb => ⟨rfl, I.turned (t' := s.toks) (fun b q hb e => eb b q hb e) f0 f1 f3 f4 f5⟩
  self := fun A i s Q E st h => by
    refine wpAny_pyIter_slot st.typeIs F.slot_dict_keyiterator_iter (wpAny_call_entry F.slot_dict_keyiterator_iter st.typeIs F.entry_dict_keyiterator_iter ?_ (F.args_dict_keyiterator_iter_1 _))
    exact wpAny_pure ⟨_, rfl, "dict_keyiterator", _, st.typeIs, F.slot_dict_keyiterator_next.lookup, h⟩
theorem turn_itemr {elts : List Expr} {kk : Nat} {tpos : Pos} (it : Addr) (hod : o.data = .dict fs ep) : Turn P w K (.Tuple elts kk tpos) (Iir w d o ps) [it] it (fun i h => ∃ ok ov, IsItemIter h it d i ps.length ep ok ov) where
  mem := by simp
  obj := fun i h st b hb => by
    have e : b = it := by simpa using hb
    subst e
    obtain ⟨ok, ov, e⟩ := st
    exact ⟨_, e, fun v z => nomatch z⟩
  keep := fun i h h' st k => let ⟨ok, ov, e⟩ := st; ⟨ok, ov, k it (by simp) _ e⟩
  item := by
    intro X hP hw hK hc i pins s σ H E I hf st hg
    subst hP hw hK
    obtain ⟨hd, hi⟩ := hg
    obtain ⟨hs, hgd, hx, fs', ep', hdt, hsz, ent⟩ := Inv.sealed I hd
    obtain ⟨rfl, rfl⟩ := dict_ep hod hdt
    have hp : ps[i]? = some ps[i] := List.getElem?_eq_getElem hi
    obtain ⟨en, hen, r1, r2⟩ := ent i _ hp
    obtain ⟨ok, ov, he⟩ := st
    rw [← hsz] at he
    have hif : i < fs'.size := by omega
    have een : fs'[i] = en := by
      rw [Array.getElem?_eq_getElem hif] at hen
      exact Option.some.inj hen
    have hlt : it < s.heap.objs.size := Heap.lt_size he
    refine wpAny_pyNext_items_item_raw he ⟨o, hgd, hx, hdt⟩ hif fun h' ho hT hz hk => ?_
    refine ⟨_, rfl, wpAny_letOwnedTupleGo_items (s := { s with heap := h' }) ho fun h2 he2 sb => ?_⟩
    rw [een] at hT
    have hT2 : h2.get? s.heap.objs.size = some { cls := .type "tuple", data := .seq #[en.key, en.val] } := (sb.2 _ (Nat.ne_of_gt hlt)).trans hT
    have new : ObjOk X.prog X.w (upd H s.heap.objs.size (.tup [(ps[i]).1, (ps[i]).2])) h2 s.heap.objs.size (.tup [(ps[i]).1, (ps[i]).2]) :=
      ⟨by show 2 ≤ sizeLine; decide, [en.key, en.val], .cons r1 (.cons r2 .nil), ⟨_, hT2, rfl, _, rfl⟩⟩
    have I1 : Inv X pins σ (upd H s.heap.objs.size (.tup [(ps[i]).1, (ps[i]).2])) { s with heap := h2 } :=
      I.turnedNew (t' := s.toks) (ch := [it]) (fun b q hb e => (sb.2 b (by simpa using hb)).trans (hk b q (by simpa using hb) e)) hf (Nat.le_refl _) new
    refine ⟨.ref s.heap.objs.size, _, I1, rfl, ⟨_, ps[i], hp, I.hok.fresh (Nat.le_refl _), rfl, rfl⟩, ⟨fs'[i].key, fs'[i].val, ?_⟩, fun b hb => ?_⟩
    · rw [← hsz]; exact he2
    · have e : b = it := by simpa using hb
      rw [e, upd_ne (Nat.ne_of_lt hlt)]
      exact (hf it (by simp)).1
  done := by
    intro X hP hw hK hc i pins s σ H E I hf st hg
    subst hP hw hK
    obtain ⟨hd, hi⟩ := hg
    obtain ⟨f0, f1, f2, f3, f4, f5⟩ := hf it (by simp)
    obtain ⟨hs, hgd, hx, fs', ep', hdt, hsz, ent⟩ := Inv.sealed I hd
    obtain ⟨rfl, rfl⟩ := dict_ep hod hdt
    obtain ⟨ok, ov, he⟩ := st
    rw [← hsz] at he
    exact wpAny_pyNext_items_end_raw (I.ok.hd hc) he ⟨o, hgd, hx, hdt⟩ (by omega) fun h' eb => ⟨rfl, I.turned (t' := s.toks) (fun b q hb e => eb b q hb e) f0 f1 f3 f4 f5⟩
  self := fun A i s Q E st h => let ⟨_, _, e⟩ := st; PySem.W.kcp_self e h
end
def iKeyr (w : World) (td : TE) : TI := fun σ H R => td σ H fun x H1 => ∃ d o ps, x = .ref d ∧ Seal w H1 d o ps ∧ R (Ikr w d o ps) H1
def iItemr (w : World) (td : TE) : TI := fun σ H R => td σ H fun x H1 => ∃ d o ps, x = .ref d ∧ Seal w H1 d o ps ∧ R (Iir w d o ps) H1
section
variable {X : Cx} {tg e : Expr} {td : TE} {apos cpos : Pos}
theorem pi_keyr (he : PE X e td) : PI X tg e (iKeyr X.w td) := by
  refine ⟨fun pins s σ H R I h => ?_⟩
  refine thn (he.run pins s σ H _ I h) fun u s1 ⟨x, H1, I1, rx, d, o, ps, ex, hd, q⟩ => ?_
  subst ex
  obtain rfl : u = Value.ref d := rx
  obtain ⟨hs, hgd, hx, fs, ep, hdt, hsz, ent⟩ := Inv.sealed I1 hd
  refine iter_keys hs hgd hx hdt (pi_one (tk := s1.toks) I1 _ (turn_keyr _ hdt) ⟨_, Heap.get?_push_size _ rfl, rfl, ?_⟩ q)
  rw [hsz] <;> rfl
theorem pi_itemr {elts : List Expr} {kk : Nat} {tpos : Pos} (he : PE X e td) (hbase : attributeBase e "items" X.env (eval e X.env) = eval e X.env := by rfl) (hline : (apos.endLine == cpos.line) = true := by rfl) :
    PI X (.Tuple elts kk tpos) (.Call (.Attribute e "items" apos) [] [] cpos) (iItemr X.w td) := by
  refine ⟨fun pins s σ H R I h => ?_⟩
  refine wpAny_Call_method (T := "dict") (id := "dict.items") hbase rfl hline F.plainAttrs_dict F.slot_dict_items F.type_dict_items (thn (he.run pins s σ H _ I h) fun u s1 ⟨x, H1, I1, rx, d, o, ps, ex, hd, q⟩ => ?_)
  subst ex
  obtain rfl : u = Value.ref d := rx
  obtain ⟨hs, hgd, hx, fs, ep, hdt, hsz, ent⟩ := Inv.sealed I1 hd
  have raw : s1.heap.DictRaw d fs ep := ⟨o, hgd, hx, hdt⟩
  refine ⟨raw.typeIs, ?_, ?_⟩
  · intro b e
    injection e with e
    subst e
    exact ⟨o, hgd, hx.2.1⟩
  have I2 : Inv X pins σ H1 { s1 with heap := s1.heap.push { cls := .type "dict_items", data := .fields #[.ref d] } } := I1.kept (t' := s1.toks) fun b ob q => Heap.get?_push_of_some _ q
  have fin : wpAny (model X.prog X.w) X.A (pyIter (.ref s1.heap.objs.size)) (PIE X pins σ (.Tuple elts kk tpos) R) X.xe { s1 with heap := s1.heap.push { cls := .type "dict_items", data := .fields #[.ref d] } } := by
    refine wpAny_pyIter_items_raw (d := d) ⟨_, Heap.get?_push_size _ rfl, rfl, rfl⟩ (raw.at fun o e => Heap.get?_push_of_some _ e) (pi_one (tk := s1.toks) I2 _ (turn_itemr _ hdt) ⟨.none, .none, ?_⟩ q)
    rw [← hsz]
    exact Heap.get?_push_size _ rfl
  show wpAny _ _ (callWith cpos (.builtin "dict.items") [.ref d] [] []) _ X.xe s1
  exact method_meetsIn F.slot_dict_items F.entry_dict_items rfl (PySem.evalArgs_none ⟨rfl, raw.typeIs, F.args_dict_items_1 _, _, meets_dict_items_raw d hs, ⟨fs, ep, raw⟩, fin⟩)
end
end K15
end

section
set_option Elab.async false
set_option linter.all false
set_option maxRecDepth 100000
set_option pp.maxSteps 600
namespace K15
open PySem PySem.Spec PyProof.Rows L2 TL

/-! ### isinstance -/
def tyOf : PyData → String
  | .none => "NoneType"
  | .bool _ => "bool"
  | .int _ => "int"
  | .str _ => "str"
  | .list _ => "list"
  | .tuple _ => "tuple"
  | .dict _ => "dict"
section
variable {X : Cx} {pins : List (Addr × Obj)} {σ : St} {H : Hp} {s : Shared}
theorem At.kit (I : Inv X pins σ H s) {x : V} {d : PyData} {u : Value} (a : At X.w H x d) (r : RelV x u) : ∃ P : Heap → Prop, PySem.W.KitX X.K u (.type (tyOf d)) P ∧ P s.heap ∧ u ≠ .builtin "__main__.__loader__#opaque" := by
  cases a with
  | non => cases (show u = Value.none from r); exact ⟨_, PySem.W.kitx_none, True.intro, fun z => nomatch z⟩
  | bl b => cases (show u = Value.bool b from r); exact ⟨_, PySem.W.kitx_bool, True.intro, fun z => nomatch z⟩
  | int i => obtain ⟨t, q⟩ := (show ∃ t, u = Value.int i t from r); cases q; exact ⟨_, PySem.W.kitx_int, True.intro, fun z => nomatch z⟩
  | str y => obtain ⟨t, q⟩ := (show ∃ t, u = Value.str y t from r); cases q; exact ⟨_, PySem.W.kitx_str, True.intro, fun z => nomatch z⟩
  | @tup p xs ds hq hs =>
    cases (show u = Value.ref p from r)
    obtain ⟨_, _, _, o, h1, h2, _⟩ := I.hok p _ hq
    exact ⟨_, PySem.W.kitx_tuple, ⟨o, h1, h2⟩, fun z => nomatch z⟩
  | @lst p o _ vs n hq hc hd =>
    cases (show u = Value.ref p from r)
    obtain ⟨h1, _⟩ := I.hok p _ hq
    exact ⟨_, PySem.W.kitx_list, ⟨o, h1, hc⟩, fun z => nomatch z⟩
  | @dic p o _ es kvs hq ho hsys hs =>
    cases (show u = Value.ref p from r)
    obtain ⟨h1, _⟩ := I.hok p _ hq
    exact ⟨_, PySem.W.kitx_dict, ⟨o, h1, ho.1.1⟩, fun z => nomatch z⟩
/-- isinstance(x, T) -/
def rIsiA (w : World) (K : PySem.W.Frag) : List V → Hp → VK → Prop := fun xs H Q => ∃ x d T b, xs = [x, .ty T] ∧ At w H x d ∧ PySem.W.kitOne K (.type (tyOf d)) (.type T) = some b ∧ Q (.bl b) H
theorem call_isiA : CallR X (.builtin "isinstance") (rIsiA X.w X.K) := by
  intro pins s σ H xs us Q I r h
  obtain ⟨x, d, T, b, rfl, a, e, q⟩ := h
  obtain ⟨u1, u2, rfl, r1, r2⟩ := vals2 r
  cases (show u2 = Value.type T from r2)
  obtain ⟨P, Z, p, hx⟩ := At.kit I a r1
  exact PySem.W.kia_one Z I.kIn p e hx fun tk => ⟨.bl b, H, I.tok tk, rfl, q⟩
end
def tyNames : List String := ["NoneType", "bool", "int", "str", "list", "tuple", "dict"]
theorem tyOf_mem (d : PyData) : tyOf d ∈ tyNames := by
  cases d <;> (unfold tyOf tyNames; simp)
theorem kit_dict {K : PySem.W.Frag} (d : PyData) : PySem.W.kitOne K (.type (tyOf d)) (.type "dict") = some (tyOf d == "dict") := by
  have h : ∀ a ∈ tyNames, kitB a "dict" = some (a == "dict") := by decide +kernel
  exact kit_ty (h _ (tyOf_mem d))
theorem kit_tuple {K : PySem.W.Frag} (d : PyData) : PySem.W.kitOne K (.type (tyOf d)) (.type "tuple") = some (tyOf d == "tuple") := by
  have h : ∀ a ∈ tyNames, kitB a "tuple" = some (a == "tuple") := by decide +kernel
  exact kit_ty (h _ (tyOf_mem d))
theorem kit_str {K : PySem.W.Frag} (d : PyData) : PySem.W.kitOne K (.type (tyOf d)) (.type "str") = some (tyOf d == "str") := by
  have h : ∀ a ∈ tyNames, kitB a "str" = some (a == "str") := by decide +kernel
  exact kit_ty (h _ (tyOf_mem d))
theorem kit_list {K : PySem.W.Frag} (d : PyData) : PySem.W.kitOne K (.type (tyOf d)) (.type "list") = some (tyOf d == "list") := by
  have h : ∀ a ∈ tyNames, kitB a "list" = some (a == "list") := by decide +kernel
  exact kit_ty (h _ (tyOf_mem d))
theorem kit_bool {K : PySem.W.Frag} (d : PyData) : PySem.W.kitOne K (.type (tyOf d)) (.type "bool") = some (tyOf d == "bool") := by
  have h : ∀ a ∈ tyNames, kitB a "bool" = some (a == "bool") := by decide +kernel
  exact kit_ty (h _ (tyOf_mem d))
theorem kit_int {K : PySem.W.Frag} (d : PyData) : PySem.W.kitOne K (.type (tyOf d)) (.type "int") = some (tyOf d == "int" || tyOf d == "bool") := by
  have h : ∀ a ∈ tyNames, kitB a "int" = some (a == "int" || a == "bool") := by decide +kernel
  exact kit_ty (h _ (tyOf_mem d))

/-! ### a dict that is built -/
def Bld (w : World) (a : Addr) (es : List En) : HO := .ext fun h => ∃ o, h.get? a = some o ∧ DicObj w o es
section
variable {P : Program} {w : World} {H : Hp} {h : Heap} {a : Addr} {es : List En}
theorem bld_ok (e : ∃ o, h.get? a = some o ∧ DicObj w o es) : ObjOk P w H h a (Bld w a es) := by
  refine ⟨e, let ⟨o, ho, _⟩ := e; ⟨o, ho⟩, ?_⟩
  rintro h1 h2 ⟨o, ho, hd⟩ k
  exact ⟨o, k o ho, hd⟩
theorem bld_raw (ok : HOk P w H h) (e : H a = some (Bld w a es)) : ∃ o, h.get? a = some o ∧ DicObj w o es := (ok a _ e).1
theorem DicObj.raw {o : Obj} (ho : h.get? a = some o) (d : DicObj w o es) : Raw w h a es := by
  obtain ⟨hc, fs, ep, hd, he⟩ := d
  exact ⟨o, fs, ep, ho, hc, hd, he⟩
theorem Raw.dic (r : Raw w h a es) : ∃ o, h.get? a = some o ∧ DicObj w o es := by
  obtain ⟨o, fs, ep, ho, hc, hd, he⟩ := r
  exact ⟨o, ho, hc, fs, ep, hd, he⟩
theorem mut_bld : Mut (some (Bld w a es)) := True.intro
end
/-- keys that may stand in a dict here -/
structure KeysOk (kvs : List (PyData × PyData)) : Prop where
  hs : ∀ e ∈ kvs, hsh e.1 = true
  dp : ∀ e ∈ kvs, e.1.depth ≤ 8
  nd : (kvs.map fun e => keyOf e.1).Nodup
theorem keysOk_nil : KeysOk [] := ⟨fun _ z => (nomatch z), fun _ z => (nomatch z), List.nodup_nil⟩
theorem KeysOk.at_ {P : Program} {w : World} {H : Hp} {h : Heap} (ok : HOk P w H h) : ∀ {es : List En} {kvs : List (PyData × PyData)}, AtKv w H es kvs → (∀ e ∈ kvs, hsh e.1 = true) → (∀ e ∈ kvs, e.1.depth ≤ 8) → KeysAt h es
  | _, _, .nil, _, _ => fun _ z => nomatch z
  | _, _, .cons (k := k) (v := v) r a r' a' hs, q, hd => fun x hx => by
    rcases List.mem_cons.mp hx with e | hx
    · subst e
      exact ⟨At.key ok a r (q (k, v) List.mem_cons_self), Nat.le_trans (key_depth k) (hd (k, v) List.mem_cons_self)⟩
    · exact KeysOk.at_ ok hs (fun e he => q e (List.mem_cons_of_mem _ he)) (fun e he => hd e (List.mem_cons_of_mem _ he)) x hx
/-- d[k] = v, on the data -/
def putD (k v : PyData) : List (PyData × PyData) → List (PyData × PyData)
  | [] => [(k, v)]
  | x :: r => if NestedKey.beq (keyOf x.1) (keyOf k) then (x.1, v) :: r else x :: putD k v r
theorem AtKv.put {w : World} {H : Hp} : ∀ {es : List En} {kvs : List (PyData × PyData)} {k v : PyData} {kx vx : V} {ku vu : Value}, AtKv w H es kvs → RelV kx ku → At w H kx k → RelV vx vu → At w H vx v → AtKv w H (putE (keyOf k) ku vu es) (putD k v kvs)
  | _, _, _, _, _, _, _, _, .nil, r, a, r', a' => .cons r a r' a' .nil
  | _, _, k, v, _, _, _, _, .cons (k := k2) r2 a2 r2' a2' hs, r, a, r', a' => by
    unfold putE putD
    by_cases h : NestedKey.beq (keyOf k2) (keyOf k) = true
    · rw [if_pos h, if_pos h]
      exact .cons r2 a2 r' a' hs
    · rw [if_neg h, if_neg h]
      exact .cons r2 a2 r2' a2' (AtKv.put hs r a r' a')
theorem putD_mem {k v : PyData} : ∀ {kvs : List (PyData × PyData)} {e : PyData × PyData}, e ∈ putD k v kvs → e = (k, v) ∨ e ∈ kvs ∨ ∃ e' ∈ kvs, e = (e'.1, v)
  | [], e, h => by
    simp only [putD, List.mem_singleton] at h
    exact .inl h
  | x :: r, e, h => by
    unfold putD at h
    split at h
    · rcases List.mem_cons.mp h with q | h
      · exact .inr (.inr ⟨x, List.mem_cons_self, q⟩)
      · exact .inr (.inl (List.mem_cons_of_mem _ h))
    · rcases List.mem_cons.mp h with q | h
      · rw [q]
        exact .inr (.inl List.mem_cons_self)
      · rcases putD_mem h with q | q | ⟨e', h', q⟩
        · exact .inl q
        · exact .inr (.inl (List.mem_cons_of_mem _ q))
        · exact .inr (.inr ⟨e', List.mem_cons_of_mem _ h', q⟩)
theorem putD_keys {k v : PyData} : ∀ kvs : List (PyData × PyData), ((putD k v kvs).map fun e => keyOf e.1) = (kvs.map fun e => keyOf e.1) ∨ ((putD k v kvs).map fun e => keyOf e.1) = (kvs.map fun e => keyOf e.1) ++ [keyOf k] ∧ keyOf k ∉ kvs.map fun e => keyOf e.1
  | [] => .inr ⟨rfl, by simp⟩
  | x :: r => by
    unfold putD
    by_cases h : NestedKey.beq (keyOf x.1) (keyOf k) = true
    · rw [if_pos h]
      exact .inl rfl
    · rw [if_neg h]
      rcases putD_keys (k := k) (v := v) r with q | ⟨q, n⟩
      · exact .inl (by rw [List.map_cons, List.map_cons, q])
      · refine .inr ⟨by rw [List.map_cons, List.map_cons, q]; rfl, ?_⟩
        rw [List.map_cons, List.mem_cons]
        rintro (e | e)
        · rw [e, NestedKey.beq_self] at h
          exact h rfl
        · exact n e
theorem KeysOk.put {k v : PyData} {kvs : List (PyData × PyData)} (q : KeysOk kvs) (hk : hsh k = true) (hd : k.depth ≤ 8) : KeysOk (putD k v kvs) := by
  refine ⟨fun e he => ?_, fun e he => ?_, ?_⟩
  · rcases putD_mem he with z | z | ⟨e', h', z⟩
    · rw [z]; exact hk
    · exact q.hs e z
    · rw [z]; exact q.hs e' h'
  · rcases putD_mem he with z | z | ⟨e', h', z⟩
    · rw [z]; exact hd
    · exact q.dp e z
    · rw [z]; exact q.dp e' h'
  · rcases putD_keys (k := k) (v := v) kvs with z | ⟨z, n⟩
    · rw [z]; exact q.nd
    · rw [z, List.nodup_append]
      refine ⟨q.nd, by simp, fun a ha b hb e => n ?_⟩
      have : b = keyOf k := by simpa using hb
      rw [← this, ← e]
      exact ha
theorem putD_length {k v : PyData} : ∀ kvs : List (PyData × PyData), (putD k v kvs).length ≤ kvs.length + 1
  | [] => by simp [putD]
  | x :: r => by
    unfold putD
    split
    · simp
    · have := putD_length (k := k) (v := v) r
      simp only [List.length_cons]
      omega
section
variable {X : Cx} {pos : Pos} {pins : List (Addr × Obj)} {σ : St} {H : Hp} {s : Shared}
/-- {} -/
def tDNewR (w : World) : TE := fun _ H Q => ∀ p, H p = none → (p == sysModules) = false → Q (.ref p) (upd H p (Bld w p []))
theorem pe_dnewR : PE X (.Dict [] [] pos) (tDNewR X.w) := ⟨fun pins s σ H Q I h =>
  wpAny_Dict_empty ⟨.ref s.heap.objs.size, _, I.laid (a := s.heap.objs.size) (o := Bld X.w s.heap.objs.size []) (t' := s.toks) (fun _ _ q => Heap.get?_push_of_some _ q) (Nat.le_refl _)
    (bld_ok ⟨_, Heap.get?_push_size _ rfl, ⟨rfl, rfl, rfl⟩, #[], 0, rfl, rfl⟩), rfl, h _ (I.hok.fresh (Nat.le_refl _)) (beq_eq_false_iff_ne.mpr (Ne.symm (Nat.ne_of_lt I.big)))⟩⟩
/-- what is wanted of d[k] = v -/
def rPutR (w : World) : TSet := fun o i v H Q => ∃ p es kvs kd, o = .ref p ∧ H p = some (Bld w p es) ∧ AtKv w H es kvs ∧ KeysOk kvs ∧ es.length < sizeLine ∧ At w H i kd ∧ hsh kd = true ∧ kd.depth ≤ 8 ∧
  ∀ ku vu, RelV i ku → RelV v vu → Q (upd H p (Bld w p (putE (keyOf kd) ku vu es)))
theorem set_putR (hu : X.A.units + 64 < cLine) : PSet X (rPutR X.w) := by
  intro pins s σ H o i v ov iv u Q I ro ri rv h
  obtain ⟨p, es, kvs, kd, rfl, hp, hkv, hk, hz, ak, h1, h2, q⟩ := h
  cases (show ov = Value.ref p from ro)
  obtain ⟨ob, hob, hd⟩ := bld_raw I.hok hp
  have hA : Fits8 X.A.in1 := by show X.A.units + 1 + 8 < cLine; omega
  refine setItem_mix hA (At.key I.hok ak ri h1) (Nat.le_trans (key_depth kd) h2) (hd.raw hob) (KeysOk.at_ I.hok hkv hk.hs hk.dp) (by rw [hkv.keys]; exact hk.nd) (by omega) fun h' hr hs => ?_
  obtain ⟨o2, ho2, hd2⟩ := hr.dic
  exact ⟨_, I.write (t' := s.toks + (keyOf kd).draws) (by rw [hp]; exact mut_bld) (.inl rfl) (fun b w' hb e => (hs.2 b hb).trans e) ⟨o2, ho2⟩ (bld_ok ⟨o2, ho2, hd2⟩), q iv u ri rv⟩
/-- a dict is sealed -/
def tSeal (w : World) (t : TE) : TE := fun σ H Q => t σ H fun x H1 => ∃ p es, x = .ref p ∧ H1 p = some (Bld w p es) ∧ ∀ o u, DicObj w o es → Q (.ref p) (upd H1 p (.frz o u))
theorem pe_seal {e : Expr} {t : TE} (h : PE X e t) : PE X e (tSeal X.w t) := by
  refine ⟨fun pins s σ H Q I hq => ?_⟩
  refine thn (h.run pins s σ H _ I hq) fun u s1 ⟨x, H1, I1, r, p, es, ex, hp, q⟩ => ?_
  subst ex
  obtain ⟨o, ho, hd⟩ := bld_raw I1.hok hp
  have I2 : Inv X pins σ (upd H1 p (.frz o (.ext fun _ => True))) { s1 with heap := s1.heap, toks := s1.toks } :=
    I1.write (t' := s1.toks) (by rw [hp]; exact mut_bld) (.inl rfl) (fun _ _ _ e => e) ⟨o, ho⟩ ⟨ho, True.intro, ⟨o, ho⟩, fun _ _ _ _ => True.intro⟩
  exact ⟨.ref p, _, I2, r, q o _ hd⟩
/-- d[k] of a sealed dict -/
def tGetR (w : World) (td ty : TE) : TE := fun σ H Q => td σ H fun x H1 => ty σ H1 fun y H2 => ∃ kvs k v, At w H2 x (.dict kvs) ∧ KeysOk kvs ∧ (k, v) ∈ kvs ∧ At w H2 y k ∧ ∀ z, At w H2 z v → Q z H2
theorem AtKv.find {w : World} {H : Hp} : ∀ {es : List En} {kvs : List (PyData × PyData)} {e : PyData × PyData}, AtKv w H es kvs → e ∈ kvs → ∃ x ∈ es, ∃ z, x.1 = keyOf e.1 ∧ RelV z x.2.2 ∧ At w H z e.2
  | _, _, _, .nil, h => nomatch h
  | _, _, e, .cons (k := k) (v := v) (vx := vx) _ _ r' a' hs, h => by
    rcases List.mem_cons.mp h with q | h
    · subst q
      exact ⟨_, List.mem_cons_self, vx, rfl, r', a'⟩
    · obtain ⟨x, hx, z, q⟩ := AtKv.find hs h
      exact ⟨x, List.mem_cons_of_mem _ hx, z, q⟩
theorem pe_getR {o i : Expr} {td ty : TE} (hu : X.A.units + 64 < cLine) (ho : PE X o td) (hi : PE X i ty) (hs : PlainIx i) : PE X (.Subscript o i pos) (tGetR X.w td ty) := by
  refine ⟨fun pins s σ H Q I h => ?_⟩
  refine Subscript_ (binT ho hi I (R := fun x y H2 => ∃ kvs k v, At X.w H2 x (.dict kvs) ∧ KeysOk kvs ∧ (k, v) ∈ kvs ∧ At X.w H2 y k ∧ ∀ z, At X.w H2 z v → Q z H2) h fun ov iv s2 x y H2 I2 rx ry q => ?_)
  obtain ⟨kvs, k, v, ax, hk, hm, ay, q⟩ := q
  obtain ⟨p, ob, u, es, rfl, hp, hd, hsys, hkv⟩ := ax.inv_dic
  cases (show ov = Value.ref p from rx)
  obtain ⟨hob, _⟩ := I2.hok p _ hp
  obtain ⟨en, hen, z, e1, rz, az⟩ := hkv.find hm
  have hA : Fits8 X.A.in1 := by show X.A.units + 1 + 8 < cLine; omega
  refine subscriptTail_builtinR (x := en.2.2) (T := "dict") ⟨ob, hob, hd.1.1⟩ F.slot_dict_getitem.lookup (getItem_mix hA (At.key I2.hok ay ry (hk.hs _ hm)) (Nat.le_trans (key_depth k) (hk.dp _ hm)) (hd.raw hob) (KeysOk.at_ I2.hok hkv hk.hs hk.dp) (by rw [hkv.keys]; exact hk.nd) hen e1 ?_) (hs _ _)
  exact ⟨rfl, z, H2, I2.tok _, rz, q z az⟩
end
end K15
end

section
set_option Elab.async false
set_option linter.all false
set_option maxRecDepth 100000
set_option pp.maxSteps 600
namespace K15
open PySem PySem.Spec PyProof.Rows L2 TL

theorem HOk.but {P : Program} {w : World} {H : Hp} {h h' : Heap} (x : HOk P w H h) (k : ∀ b u, H b ≠ none → h.get? b = some u → h'.get? b = some u) : HOk P w H h' := fun a o e =>
  (x a o e).stay (fun b u hb q => k b u (by
    rcases hb with z | z
    · rw [z, e]; exact fun y => nomatch y
    · rw [z]; exact fun y => nomatch y) q) (fun _ q => q) fun _ _ q => q
section
variable {X : Cx} {pins : List (Addr × Obj)} {σ : St} {H : Hp} {s : Shared}
/-- dict(arg), sealed -/
theorem dict_fin {T : String} {a : Addr} {fp wr : List Addr} {n : Nat} {Rel : Nat → Value → Value → Prop} {OK : Heap → Prop} {Q : VK} {es : List En} {kvs : List (PyData × PyData)} (P : PairArg X.prog X.w T a fp wr n Rel OK) (hu : X.A.units + 64 < cLine) (hc : X.calm = true)
    (I : Inv X pins σ H s) (ok : OK s.heap) (hkv : AtKv X.w H es kvs) (hk : KeysOk kvs) (hn : es.length = n) (hrel : ∀ i k v, Rel i k v → ∃ x, es[i]? = some x ∧ x.2.1 = k ∧ x.2.2 = v) (hsz : n ≤ sizeLine) (hwr : ∀ b ∈ wr, FpOk X pins H b)
    (q : ∀ p o u, H p = none → (p == sysModules) = false → DicObj X.w o es → Q (.ref p) (upd H p (.frz o u))) : wpAny (model X.prog X.w) X.A (call (.type "dict") [.ref a]) (EP X pins σ Q) X.xe s := by
  have hA : Fits8 X.A.in1.in1 := by show X.A.units + 1 + 1 + 8 < cLine; omega
  have nd : (es.map (·.1)).Nodup := by rw [hkv.keys]; exact hk.nd
  refine dict_mix (ps := es) P (I.ok.hd hc) hA ok hn hrel hsz (fun h' k => ?_) fun h' tk hr k => ?_
  · refine KeysOk.at_ (HOk.but I.hok fun b u hb e => k b u (fun z => hb (hwr b z).1) e) hkv hk.hs hk.dp
  · rw [putAll_self nd] at hr
    obtain ⟨o, ho, hd⟩ := hr.dic
    have hf : H s.heap.objs.size = none := I.hok.fresh (Nat.le_refl _)
    have I2 : Inv X pins σ (upd H s.heap.objs.size (.frz o (.ext fun _ => True))) { s with heap := h', toks := tk } :=
      I.turnedNew (ch := wr) k hwr (Nat.le_refl _) ⟨ho, True.intro, ⟨o, ho⟩, fun _ _ _ _ => True.intro⟩
    exact ⟨.ref s.heap.objs.size, _, I2, rfl, q _ o _ hf (beq_eq_false_iff_ne.mpr (Ne.symm (Nat.ne_of_lt I.big))) hd⟩
/-- dict(xs), xs a list of pairs -/
def rDictL (w : World) (K : PySem.W.Frag) : List V → Hp → VK → Prop := fun xs H Q => ∃ (a : Addr) (ts : List Addr) (kvs : List (PyData × PyData)), xs = [.ref a] ∧ SqL K H a (ts.map V.ref) ∧ KeysOk kvs ∧ ts.length = kvs.length ∧
  (∀ (i : Nat) (t : Addr), ts[i]? = some t → ∃ (e : PyData × PyData) (kx vx : V), kvs[i]? = some e ∧ H t = some (.tup [kx, vx]) ∧ At w H kx e.1 ∧ At w H vx e.2) ∧
  ∀ p o u es, H p = none → (p == sysModules) = false → DicObj w o es → AtKv w H es kvs → Q (.ref p) (upd H p (.frz o u))
theorem pairs_ents {w : World} {K : PySem.W.Frag} {P : Program} {h : Heap} (ok : HOk P w H h) : ∀ (ts : List Addr) (kvs : List (PyData × PyData)), ts.length = kvs.length → (∀ (i : Nat) (t : Addr), ts[i]? = some t → ∃ (e : PyData × PyData) (kx vx : V), kvs[i]? = some e ∧ H t = some (.tup [kx, vx]) ∧ At w H kx e.1 ∧ At w H vx e.2) →
    ∃ es, AtKv w H es kvs ∧ ∀ (i : Nat) (t : Addr), ts[i]? = some t → ∃ x : En, es[i]? = some x ∧ h.IsTuple t #[x.2.1, x.2.2]
  | [], [], _, _ => ⟨[], .nil, fun _ _ e => by simp at e⟩
  | [], _ :: _, hl, _ => by simp at hl
  | _ :: _, [], hl, _ => by simp at hl
  | t :: ts, (k, v) :: kvs, hl, h0 => by
    obtain ⟨es, h1, h2⟩ := pairs_ents (K := K) ok ts kvs (by simpa using hl) fun i t e => by simpa using h0 (i + 1) t (by simpa using e)
    obtain ⟨e, kx, vx, he, ht, ak, av⟩ := h0 0 t rfl
    have he' : e = (k, v) := by simpa using he.symm
    subst he'
    obtain ⟨_, us, rv, tp⟩ := ok t _ ht
    cases rv with
    | cons r1 rv =>
      cases rv with
      | cons r2 rv =>
        cases rv
        refine ⟨_, .cons r1 ak r2 av h1, fun i t' e => ?_⟩
        cases i with
        | zero =>
          have : t = t' := by simpa using e
          subst this
          exact ⟨_, rfl, tp⟩
        | succ i => simpa using h2 i t' (by simpa using e)
theorem call_dictL (hu : X.A.units + 64 < cLine) (hc : X.calm = true) : CallR X (.type "dict") (rDictL X.w X.K) := by
  intro pins s σ H xs us Q I r h
  obtain ⟨a, ts, kvs, rfl, hq, hk, hl, hp, q⟩ := h
  obtain ⟨u1, rfl, r1⟩ := vals1 r
  cases (show u1 = Value.ref a from r1)
  obtain ⟨its, rv, pl, hz⟩ := I.list hq
  obtain ⟨es, hkv, hes⟩ := pairs_ents (K := X.K) I.hok ts kvs hl hp
  have lts : its.length = ts.length := by rw [← rv.length, List.length_map]
  have les : es.length = ts.length := by rw [hkv.length, hl]
  have P := PairArg.list (prog := X.prog) (w := X.w) a its.toArray (fun j => ts.getD j 0) (es.map fun x => (x.2.1, x.2.2))
  refine dict_fin P hu hc I ⟨?_, ?_, ?_⟩ hkv hk (by simp) (fun i k v hi => ?_) (by rw [List.length_map] at hz ⊢; omega) (fun b z => nomatch z) fun p o u h1 h2 h3 => q p o u es h1 h2 h3 hkv
  · obtain ⟨o, n, h1, h2, h3, h4⟩ := pl
    exact ⟨o, n, h1, h2, h3, h4⟩
  · simp; omega
  · intro j k v hj
    rw [List.getElem?_map] at hj
    obtain ⟨x, hx, ex⟩ := Option.map_eq_some_iff.mp hj
    have hlt : j < ts.length := by
      have := (List.getElem?_eq_some_iff.mp hx).1
      omega
    have ht : ts[j]? = some ts[j] := List.getElem?_eq_getElem hlt
    have hd : ts.getD j 0 = ts[j] := by rw [List.getD_eq_getElem?_getD, ht]; rfl
    obtain ⟨y, hy, tp⟩ := hes j _ ht
    rw [hx] at hy
    cases hy
    cases ex
    dsimp only
    rw [hd]
    refine ⟨?_, .inl tp⟩
    obtain ⟨w', hw, rw'⟩ := rv.get (i := j) (x := V.ref ts[j]) (by rw [List.getElem?_map, ht]; rfl)
    cases (show w' = Value.ref ts[j] from rw')
    simpa using hw
  · have hi' : (es.map fun x => (x.2.1, x.2.2))[i]? = some (k, v) := hi
    rw [List.getElem?_map] at hi'
    obtain ⟨x, hx, ex⟩ := Option.map_eq_some_iff.mp hi'
    cases ex
    exact ⟨x, hx, rfl, rfl⟩
/-- dict(zip(xs, ys)) -/
def tDictZ (w : World) (K : PySem.W.Frag) (ta : TA) : TE := fun σ H Q => ta σ H fun vs H1 => ∃ (a b : Addr) (xs ys : List V) (kvs : List (PyData × PyData)), vs = [.ref a, .ref b] ∧ SqL K H1 a xs ∧ SqL K H1 b ys ∧ KeysOk kvs ∧ xs.length = kvs.length ∧ ys.length = kvs.length ∧
  (∀ (i : Nat) (e : PyData × PyData), kvs[i]? = some e → ∃ kx vx, xs[i]? = some kx ∧ ys[i]? = some vx ∧ At w H1 kx e.1 ∧ At w H1 vx e.2) ∧
  ∀ p o u es, H1 p = none → (p == sysModules) = false → DicObj w o es → AtKv w H1 es kvs → Q (.ref p) (upd H1 p (.frz o u))
theorem zip_ents {w : World} : ∀ (kvs : List (PyData × PyData)) (xs ys : List V) (us vs : List Value), Vals xs us → Vals ys vs → xs.length = kvs.length → ys.length = kvs.length → (∀ (i : Nat) (e : PyData × PyData), kvs[i]? = some e → ∃ kx vx, xs[i]? = some kx ∧ ys[i]? = some vx ∧ At w H kx e.1 ∧ At w H vx e.2) →
    ∃ es, AtKv w H es kvs ∧ ∀ (i : Nat) (k v : Value), us[i]? = some k → vs[i]? = some v → ∃ x : En, es[i]? = some x ∧ x.2.1 = k ∧ x.2.2 = v
  | [], _, _, us, vs, r1, r2, l1, l2, _ => ⟨[], .nil, fun i k v e => by
      have : us.length = 0 := by rw [← r1.length]; exact l1
      rw [List.length_eq_zero_iff.mp this] at e
      simp at e⟩
  | _ :: _, [], _, _, _, _, _, l1, _, _ => by simp at l1
  | _ :: _, _ :: _, [], _, _, _, _, _, l2, _ => by simp at l2
  | (k, v) :: kvs, x :: xs, y :: ys, _, _, .cons (b := u) r1 rs1, .cons (b := u2) r2 rs2, l1, l2, h0 => by
    obtain ⟨es, h1, h2⟩ := zip_ents kvs xs ys _ _ rs1 rs2 (by simpa using l1) (by simpa using l2) fun i e he => by simpa using h0 (i + 1) e (by simpa using he)
    obtain ⟨kx, vx, e1, e2, ak, av⟩ := h0 0 (k, v) rfl
    have e1' : x = kx := by simpa using e1
    have e2' : y = vx := by simpa using e2
    subst e1' e2'
    refine ⟨_, .cons r1 ak r2 av h1, fun i k' v' i1 i2 => ?_⟩
    cases i with
    | zero =>
      have : u = k' := by simpa using i1
      subst this
      have : u2 = v' := by simpa using i2
      subst this
      exact ⟨_, rfl, rfl, rfl⟩
    | succ i => simpa using h2 i k' v' (by simpa using i1) (by simpa using i2)
theorem pe_dictZ {e e2 : Expr} {ta : TA} {p p1 pos pos1 : Pos} (hu : X.A.units + 64 < cLine) (hc : X.calm = true) (hg : Gl X "zip") (hm : X.mg "zip" = none) (hg1 : Gl X "dict") (hm1 : X.mg "dict" = none) (ha : PA X [e, e2] ta)
    (hs : starEach [e, e2] X.env = (false, eval e X.env) :: starEach [e2] X.env := by rfl) (hpl : (backTo pos (starEach [e2] X.env)).any (·.1) = false := by rfl)
    (hs1 : starEach [.Call (.Name "zip" p) [e, e2] [] pos] X.env = [(false, eval (.Call (.Name "zip" p) [e, e2] [] pos) X.env)] := by rfl) :
    PE X (.Call (.Name "dict" p1) [.Call (.Name "zip" p) [e, e2] [] pos] [] pos1) (tDictZ X.w X.K ta) := by
  refine ⟨fun pins s σ H Q I h => ?_⟩
  refine wpAny_Call_Name_kw (ld_blt I hg1 hm1 (show bootBuiltins "dict" = some (.type "dict") by decide +kernel) ?_ (by decide) (by decide))
  refine callWith_type1 ?_ (by rw [hs1]; rfl) (by rfl)
  rw [hs1]
  refine Calls.spliced_cons ?_
  refine Call_ (ld_blt I hg hm PyProof.Rows.boot_zip (PyProof.Rows.callWith_type1 (thn (ha.run pos pins s σ H _ I h) fun us s1 ⟨vs, H1, I1, r1, q1⟩ => ?_) hs hpl))
  obtain ⟨a, b, xs, ys, kvs, ex, hqx, hqy, hk, l1, l2, hd, q⟩ := q1
  subst ex
  obtain ⟨u1, u2, rfl, ra, rb⟩ := vals2 r1
  cases (show u1 = Value.ref a from ra)
  cases (show u2 = Value.ref b from rb)
  obtain ⟨its, rv, p1', hz1⟩ := I1.list hqx
  obtain ⟨its2, rv2, p2', hz2⟩ := I1.list hqy
  have la : a < s1.heap.objs.size := p1'.lt
  have lb : b < s1.heap.objs.size := p2'.lt
  refine call_zip_2 p1'.isList p2'.isList fun h' hz hTI hTO h1 h2 hsz hkp => Calls.spliced_nil ?_
  have I2 : Inv X pins σ H1 { s1 with heap := h' } := I1.kept (t' := s1.toks) hkp
  obtain ⟨es, hkv, hes⟩ := zip_ents kvs xs ys its its2 rv rv2 l1 l2 hd
  have q1 := rv.length
  have q2 := rv2.length
  have les := hkv.length
  have P := PairArg.zip (prog := X.prog) (w := X.w) (s1.heap.objs.size + 4) (s1.heap.objs.size + 2) (s1.heap.objs.size + 3) s1.heap.objs.size (s1.heap.objs.size + 1) a b (PySem.W.ktu_apart s1.heap.objs.size a b la lb) its.toArray its2.toArray
  refine dict_fin P hu hc I2 ⟨hz, hTI, ⟨_, _, hTO⟩, h1, h2, ?_, ?_⟩ hkv hk (by simp; omega) (fun i k v hi => ?_) (by simp; omega) (fun c hcm => ?_) fun p o u h1 h2 h3 => q p o u es h1 h2 h3 hkv
  · exact p1'.isList.at fun o e => hkp _ o e
  · exact p2'.isList.at fun o e => hkp _ o e
  · exact hes i k v (by simpa using hi.1) (by simpa using hi.2)
  · have hle : s1.heap.objs.size ≤ c := by
      have e' : c = s1.heap.objs.size + 4 ∨ c = s1.heap.objs.size + 3 ∨ c = s1.heap.objs.size ∨ c = s1.heap.objs.size + 1 := by simpa using hcm
      rcases e' with z | z | z | z <;> rw [z] <;> first | exact Nat.le_refl _ | exact Nat.le_add_right _ _
    have := I1.fpOk hle (I1.hok.fresh hle)
    exact this
/-- {k: v}, sealed -/
def tDisp1 (w : World) (tk tv : TE) : TE := fun σ H Q => ∀ p, H p = none → (p == sysModules) = false → tk σ (upd H p (Bld w p [])) fun x H1 => tv σ H1 fun y H2 => H2 p = some (Bld w p []) ∧ ∃ kd vd, At w H2 x kd ∧ At w H2 y vd ∧ hsh kd = true ∧ kd.depth ≤ 8 ∧
  ∀ o u ku vu, RelV x ku → RelV y vu → DicObj w o [(keyOf kd, ku, vu)] → Q (.ref p) (upd H2 p (.frz o u))
theorem pe_disp1 {k v : Expr} {tk tv : TE} {pos : Pos} (hu : X.A.units + 64 < cLine) (hk : PE X k tk) (hv : PE X v tv) : PE X (.Dict [some k] [v] pos) (tDisp1 X.w tk tv) := by
  refine ⟨fun pins s σ H Q I h => ?_⟩
  have hf : H s.heap.objs.size = none := I.hok.fresh (Nat.le_refl _)
  have hsys : (s.heap.objs.size == sysModules) = false := beq_eq_false_iff_ne.mpr (Ne.symm (Nat.ne_of_lt I.big))
  have I1 : Inv X pins σ (upd H s.heap.objs.size (Bld X.w s.heap.objs.size [])) { s with heap := s.heap.push { cls := .type "dict", data := .dict #[] }, toks := s.toks } :=
    I.laid (t' := s.toks) (fun _ _ q => Heap.get?_push_of_some _ q) (Nat.le_refl _) (bld_ok ⟨_, Heap.get?_push_size _ rfl, ⟨rfl, rfl, rfl⟩, #[], 0, rfl, rfl⟩)
  rw [arm_eval_Dict, zip_pairTrees [some k] [v] X.env pos rfl rfl, dictDisplay_pairs _ (by simp [pairTrees]) (by simp [pairTrees])]
  refine wpAny_bind (wpAny_standAt (wpAny_bind ?_))
  unfold subDict
  refine wpAny_bind (wpAny_alloc (wpAny_bind (wpAny_holding ?_)))
  rw [if_pos (by simp [pairTrees])]
  refine wpAny_bind (pairTrees_cons_walk (thn (hk.run pins _ σ _ _ I1 (h _ hf hsys)) fun ku s2 ⟨x, H2, I2, rx, q2⟩ => thn (hv.run pins s2 σ H2 _ I2 q2) fun vu s3 ⟨y, H3, I3, ry, hp, kd, vd, ak, av, h1, h2, q3⟩ => pairTrees_nil_walk ?_))
  refine wpAny_holding ?_
  obtain ⟨ob, hob, hd⟩ := bld_raw I3.hok hp
  have hA : Fits8 X.A := by show X.A.units + 8 < cLine; omega
  refine wpAny_bind ?_
  rw [List.forIn_cons]
  refine wpAny_bind (wpAny_bind (set_mix hA (At.key I3.hok ak rx h1) (Nat.le_trans (key_depth kd) h2) (hd.raw hob) (fun _ z => nomatch z) List.nodup_nil (Nat.zero_le _) fun h' hr hs => wpAny_pure (wpAny_pure ?_)))
  obtain ⟨o2, ho2, hd2⟩ := hr.dic
  have I4 : Inv X pins σ (upd H3 s.heap.objs.size (.frz o2 (.ext fun _ => True))) { s3 with heap := h', toks := s3.toks + (keyOf kd).draws } :=
    I3.write (t' := s3.toks + (keyOf kd).draws) (by rw [hp]; exact mut_bld) (.inl rfl) (fun b w' hb e => (hs.2 b hb).trans e) ⟨o2, ho2⟩ ⟨ho2, True.intro, ⟨o2, ho2⟩, fun _ _ _ _ => True.intro⟩
  exact wpAny_pure (wpAny_pure (wpAny_pure ⟨.ref s.heap.objs.size, _, I4, rfl, q3 o2 _ ku vu rx ry hd2⟩))
end
end K15
end

section
set_option Elab.async false
set_option linter.all false
set_option maxRecDepth 100000
set_option pp.maxSteps 600
namespace K15
open PySem PySem.Spec PyProof.Rows L2 TL

/-! ### sorted of pairs of texts -/
/-- the pair of texts that stands at an address -/
def pairT (H : Hp) (t : Addr) : Str × Str := match H t with
  | some (.tup [.str a, .str b]) => (a, b)
  | _ => (Str.empty, Str.empty)
theorem pairT_of {H : Hp} {t : Addr} {a b : Str} (h : H t = some (.tup [.str a, .str b])) : pairT H t = (a, b) := by
  unfold pairT
  rw [h]
/-- all of these are pairs of texts -/
def PairsT (H : Hp) (ts : List Addr) : Prop := ∀ t ∈ ts, ∃ a b, H t = some (.tup [.str a, .str b])
abbrev fstT (p : Str × Str) : Tx := tl p.1
section
variable {X : Cx}
def rSortTT (K : PySem.W.Frag) : List V → Hp → VK → Prop := fun vs H Q => ∃ (a : Addr) (ts : List Addr), vs = [V.ref a] ∧ SqL K H a (ts.map V.ref) ∧ PairsT H ts ∧ ((ts.map (pairT H)).map fstT).Nodup ∧
  ∀ (us : List Addr) (p : Addr), us.Perm ts → us.map (pairT H) = srtE fstT (ts.map (pairT H)) → H p = none → Q (.ref p) (upd H p (.lst (us.map V.ref)))
def allT : Nat → Bool := fun _ => true
theorem refs_of : ∀ {ts : List Addr} {us : List Value}, Vals (ts.map V.ref) us → us = ts.map Value.ref
  | [], _, .nil => rfl
  | t :: ts, _, .cons r rs => by
    cases (show _ = Value.ref t from r)
    rw [refs_of rs]
    rfl
theorem unrefs : ∀ {out : List Value} {ts : List Addr}, out.Perm (ts.map Value.ref) → ∃ us : List Addr, out = us.map Value.ref ∧ us.Perm ts := by
  intro out ts h
  have all : ∀ v ∈ out, ∃ a, v = Value.ref a := fun v hv => by
    obtain ⟨a, _, e⟩ := List.mem_map.mp (h.mem_iff.mp hv)
    exact ⟨a, e.symm⟩
  have : ∃ us : List Addr, out = us.map Value.ref := by
    clear h
    induction out with
    | nil => exact ⟨[], rfl⟩
    | cons v out ih =>
      obtain ⟨a, rfl⟩ := all v List.mem_cons_self
      obtain ⟨us, e⟩ := ih fun x hx => all x (List.mem_cons_of_mem _ hx)
      exact ⟨a :: us, by rw [e]; rfl⟩
  obtain ⟨us, rfl⟩ := this
  refine ⟨us, rfl, ?_⟩
  have := h.map (fun v => match v with | .ref a => a | _ => 0)
  simpa [List.map_map, Function.comp_def] using this
theorem cr_sortedTT : CallR X (.builtin "sorted") (rSortTT X.K) := by
  intro pins s σ H vs us Q I r h
  obtain ⟨a, ts, rfl, hs, hp, hn, q⟩ := h
  obtain ⟨its, rv, hl, hz⟩ := I.list hs
  rw [Vals.ref1 r]
  have e0 := refs_of rv
  subst e0
  have raw : ∀ t ∈ ts, ∃ o x y t1 t2 n, s.heap.get? t = some o ∧ o.cls = .type "tuple" ∧ o.data = .seq #[.str x t1, .str y t2] n ∧ pairT H t = (x, y) := fun t ht => by
    obtain ⟨x, y, hxy⟩ := hp t ht
    obtain ⟨_, us2, r2, o, h1, h2, n, h3⟩ := I.hok t _ hxy
    obtain ⟨u1, u2, rfl, ra, rb⟩ := vals2 r2
    obtain ⟨t1, rfl⟩ := ra
    obtain ⟨t2, rfl⟩ := rb
    exact ⟨o, x, y, t1, t2, n, h1, h2, h3, pairT_of hxy⟩
  have key : ∀ t ∈ ts, PyProof.Rows.G.tupKeyC s.heap allT (.ref t) = some [Sum.inr (tl (pairT H t).1), Sum.inr (tl (pairT H t).2)] := fun t ht => by
    obtain ⟨o, x, y, t1, t2, n, h1, h2, h3, h4⟩ := raw t ht
    rw [h4]
    have e1 : PyProof.Rows.G.isTupObj s.heap (.ref t) = true := by simp [PyProof.Rows.G.isTupObj, h1, h2]
    unfold PyProof.Rows.G.tupKeyC
    rw [if_pos e1]
    simp only [PyProof.Rows.tupKey, h1, h3]
    rfl
  have tups : ∀ l : List Addr, (∀ t ∈ l, t ∈ ts) → ∃ fs, PyProof.Rows.TupsOf s.heap allT (l.map Value.ref) fs := by
    intro l
    induction l with
    | nil => exact fun _ => ⟨[], .nil⟩
    | cons t l ih =>
      intro hm
      obtain ⟨fs, hfs⟩ := ih fun x hx => hm x (List.mem_cons_of_mem _ hx)
      obtain ⟨o, x, y, t1, t2, n, h1, h2, h3, h4⟩ := raw t (hm t List.mem_cons_self)
      refine ⟨.str x t1 :: fs, .cons ⟨t, o, _, n, rfl, h1, h2, h3, rfl, ⟨fun z => Bool.noConfusion z, fun _ => ⟨x, t1, rfl⟩⟩⟩ hfs⟩
  obtain ⟨fs, hfs⟩ := tups ts fun _ z => z
  refine PyProof.Rows.G.sorted_tups (vs := ts.map Value.ref) hl.isList hfs (fun v hv => ?_) (by rw [List.length_map]; rw [List.length_map] at hz; exact hz) fun st' p1 p2 _ => ?_
  · obtain ⟨t, ht, rfl⟩ := List.mem_map.mp hv
    exact ⟨_, key t ht⟩
  · obtain ⟨ep, he'⟩ := PyProof.Rows.sortedAll_at s.heap (ts.map Value.ref) ((arrOf st').map (·.2))
    have pl : (arrOf st').toList.Perm ((ts.map Value.ref).zip (ts.map Value.ref)) := by
      have := p1.toList
      rwa [pairsOf_toList] at this
    have same : ∀ x ∈ (arrOf st').toList, x.1 = x.2 := fun x hx => (mem_zip_self (pl.mem_iff.mp hx)).1
    have zs : ((ts.map Value.ref).zip (ts.map Value.ref)).map Prod.snd = ts.map Value.ref := List.map_snd_zip (by simp)
    have po : ((arrOf st').toList.map Prod.snd).Perm (ts.map Value.ref) := by
      have := pl.map Prod.snd
      rwa [zs] at this
    obtain ⟨us, eo, pu⟩ := unrefs po
    have eout : ((arrOf st').map (·.2)).toList = us.map Value.ref := by
      rw [Array.toList_map]
      exact eo
    have hlen : (us.map V.ref).length ≤ sizeLine := by
      rw [List.length_map, pu.length_eq]
      rwa [List.length_map] at hz
    have hnu : ((us.map (pairT H)).map fstT).Nodup := (((pu.map (pairT H)).map fstT).nodup_iff).mpr hn
    have asz : (arrOf st').size = us.length := by
      have := congrArg List.length eo
      simpa using this
    have psz : (pairsOf (ts.map Value.ref)).size = us.length := by
      rw [pairsOf_size, List.length_map, pu.length_eq]
    have kk : ∀ (i : Nat) (hi : i < us.length), KK (PyProof.Rows.G.tupKindC s.heap allT) (arrOf st') i = [Sum.inr (tl (pairT H us[i]).1), Sum.inr (tl (pairT H us[i]).2)] := fun i hi => by
      have hia : i < (arrOf st').size := by omega
      have ha : (arrOf st')[i]? = some (arrOf st')[i] := Array.getElem?_eq_getElem hia
      have hm : (arrOf st')[i] ∈ (arrOf st').toList := Array.getElem_mem_toList hia
      have h2 : ((arrOf st')[i]).2 = Value.ref us[i] := by
        have := congrArg (fun l => l[i]?) eo
        simp only [List.getElem?_map, Array.getElem?_toList] at this
        rw [ha, List.getElem?_eq_getElem hi] at this
        exact Option.some.inj this
      have h1 : ((arrOf st')[i]).1 = Value.ref us[i] := (same _ hm).trans h2
      unfold KK
      rw [ha]
      show ((PyProof.Rows.G.tupKeyC s.heap allT ((arrOf st')[i]).1).getD []) = _
      rw [h1, key _ (pu.mem_iff.mp (List.getElem_mem hi))]
      rfl
    have asc : Asc fstT (us.map (pairT H)) := by
      rw [Asc, List.pairwise_map, List.pairwise_iff_getElem]
      intro i j hi hj hij
      have h1 := p2 i j (Nat.le_of_lt hij) (by rw [psz]; exact hj)
      rw [kk i hi, kk j hj] at h1
      have h2 : lexLt itemOrd [Sum.inr (tl (pairT H us[j]).1), Sum.inr (tl (pairT H us[j]).2)] [Sum.inr (tl (pairT H us[i]).1), Sum.inr (tl (pairT H us[i]).2)] = false := h1
      rw [lex_cons, Bool.or_eq_false_iff] at h2
      have h3 : ¬ fstT (pairT H us[j]) < fstT (pairT H us[i]) := of_decide_eq_false h2.1
      have h4 : fstT (pairT H us[i]) ≠ fstT (pairT H us[j]) := fun e => by
        have q1 : ((us.map (pairT H)).map fstT)[i]? = some (fstT (pairT H us[i])) := by
          rw [List.getElem?_map, List.getElem?_map, List.getElem?_eq_getElem hi]; rfl
        have q2 : ((us.map (pairT H)).map fstT)[j]? = some (fstT (pairT H us[j])) := by
          rw [List.getElem?_map, List.getElem?_map, List.getElem?_eq_getElem hj]; rfl
        rw [← e] at q2
        have := (List.getElem?_inj (by simpa using hi) hnu).mp (q1.trans q2.symm)
        omega
      rcases tx_lt_or (fstT (pairT H us[i])) (fstT (pairT H us[j])) with z | z | z
      · exact z
      · exact absurd z h4
      · exact absurd z h3
    have fin : us.map (pairT H) = srtE fstT (ts.map (pairT H)) := asc_unique ((pu.map (pairT H)).trans (srtE_perm _ _).symm) asc (srtE_asc _ _ hn)
    have rvo : Vals (us.map V.ref) ((arrOf st').map (·.2)).toList := by
      rw [eout]
      exact vals_refs us
    exact ⟨.ref _, upd H (s.heap.objs.size + 1) (.lst (us.map V.ref)), I.laid (t' := s.toks) (fun _ _ => PyProof.Rows.sortedAll_old) (Nat.le_succ _) ⟨hlen, ((arrOf st').map (·.2)).toList, ep, rvo, he'⟩, rfl, q us _ pu fin (I.hok.fresh (Nat.le_succ _))⟩
end
end K15
end

section
set_option Elab.async false
set_option linter.all false
set_option maxRecDepth 100000
set_option pp.maxSteps 600
namespace K15
open PySem PySem.Spec PyProof.Rows L2 TL
open PySem.SeqAt (RcNeAt RcAt EqIn EqAt)
section
variable {X : Cx}
/-- list(d): its keys -/
theorem call_listR (hc : X.calm = true) : CallR X (.type "list") (fun xs H Q => ∃ (d : Addr) (o : Obj) (ps : List (V × V)), xs = [.ref d] ∧ Seal X.w H d o ps ∧ ps.length ≤ sizeLine ∧ ∀ p, H p = none → Q (.ref p) (upd H p (.lst (ps.map (·.1))))) := by
  intro pins s σ H xs us Q I r h
  obtain ⟨d, o, ps, rfl, hd, hz, q⟩ := h
  obtain ⟨u, rfl, rx⟩ := vals1 r
  cases (show u = Value.ref d from rx)
  obtain ⟨hs, hgd, hx, fs, ep, hdt, hsz, ent⟩ := Inv.sealed I hd
  refine PySem.W.kdl_call (kdl_raw hs hx hdt) (I.ok.hd hc) hgd (by omega) fun h' tk acc' c' kp e it => ?_
  have hl : acc'.toList.length = ps.length := by rw [Array.length_toList, it.1]; exact hsz
  have rv : Vals (ps.map (·.1)) acc'.toList := by
    refine vals_of_at (by rw [List.length_map]; exact hl.symm) fun j x v hj hv => ?_
    obtain ⟨en, hen, hv'⟩ := it.2 j v (by rw [← Array.getElem?_toList]; exact hv)
    rw [List.getElem?_map] at hj
    obtain ⟨p, hp, ex⟩ := Option.map_eq_some_iff.mp hj
    obtain ⟨en2, hen2, r1, _⟩ := ent j p hp
    rw [hen] at hen2
    cases hen2
    rw [← ex, hv']
    exact r1
  refine ⟨.ref s.heap.objs.size, _, I.laid (t' := tk) (o := .lst (ps.map (·.1))) kp (Nat.le_refl _) ?_, rfl, q _ (I.hok.fresh (Nat.le_refl _))⟩
  exact ⟨by rw [List.length_map]; exact hz, acc'.toList, c', rv, by rw [Array.toArray_toList]; exact e⟩
/-- every second item from a on -/
def evry (a : Nat) (xs : List V) : List V := (List.range ((xs.length - a + 1) / 2)).filterMap fun k => xs[a + 2 * k]?
theorem range2 (a n : Nat) : sliceRange (a : Int) (n : Int) 2 = (List.range ((n - a + 1) / 2)).map fun k => a + 2 * k := by
  unfold sliceRange
  rw [if_pos (by decide)]
  by_cases h : (a : Int) < n
  · rw [if_pos h]
    have e : (((n : Int) - a + 2 - 1) / 2).toNat = (n - a + 1) / 2 := by omega
    dsimp only
    rw [e]
    refine List.map_congr_left fun k _ => ?_
    omega
  · rw [if_neg h]
    have e : (n - a + 1) / 2 = 0 := by omega
    rw [e]
    rfl
theorem vals_pick : ∀ {xs : List V} {us : List Value}, Vals xs us → ∀ l : List Nat, Vals (l.filterMap fun i => xs[i]?) (l.filterMap fun i => us[i]?)
  | xs, us, r, [] => .nil
  | xs, us, r, i :: l => by
    have ih := vals_pick r l
    cases e : xs[i]? with
    | none =>
      rw [List.filterMap_cons_none e, List.filterMap_cons_none (Vals.none_of r e)]
      exact ih
    | some x =>
      obtain ⟨u, hu, ru⟩ := r.get e
      rw [List.filterMap_cons_some e, List.filterMap_cons_some hu]
      exact .cons ru ih
theorem pick2 (its : List Value) (a : Nat) (lo : Option Int) (hlo : lo = none ∧ a = 0 ∨ lo = some (a : Int)) : (slicePick its.toArray lo none (some 2)).toList = (List.range ((its.length - a + 1) / 2)).filterMap fun k => its[a + 2 * k]? := by
  unfold slicePick
  have hb : sliceBounds lo none (some 2) its.toArray.size = (((min a its.length : Nat) : Int), (its.length : Int), 2) := by
    rcases hlo with ⟨rfl, rfl⟩ | rfl
    · simp [sliceBounds]
    · simp only [sliceBounds, Option.getD_some, List.size_toArray]
      refine Prod.mk.injEq .. ▸ ⟨?_, rfl⟩
      rw [if_pos (by decide)]
      have : ¬ (a : Int) < 0 := by omega
      simp only [this, if_false]
      omega
  rw [hb, range2, List.filterMap_map]
  by_cases h : a ≤ its.length
  · rw [Nat.min_eq_left h]
    simp [Function.comp_def]
  · have e1 : (its.length - min a its.length + 1) / 2 = 0 := by omega
    have e2 : (its.length - a + 1) / 2 = 0 := by omega
    rw [e1, e2]
    rfl
/-- xs[a::2] -/
def tSl2 (K : PySem.W.Frag) (te : TE) (tl : TO) : TE := fun σ H Q => te σ H fun x H1 => tl σ H1 fun lo H2 => ∃ p xs a, x = .ref p ∧ SqL K H2 p xs ∧ (lo = none ∧ a = 0 ∨ lo = some ((a : Nat) : Int)) ∧ ∀ p', H2 p' = none → Q (.ref p') (upd H2 p' (.lst (evry a xs)))
theorem evry_len (a : Nat) (xs : List V) : (evry a xs).length ≤ xs.length := by
  refine Nat.le_trans (List.length_filterMap_le _ _) ?_
  rw [List.length_range]
  by_cases h : xs.length = 0
  · omega
  · omega
theorem pe_sl2 {e : Expr} {lo : Option Expr} {te : TE} {tl : TO} {pos p2 : Pos} {j p3} (he : PE X e te) (hl : PO X lo tl) : PE X (.Subscript e (.Slice lo none (some (.Constant (.int 2) j p3)) p2) pos) (tSl2 X.K te tl) := by
  refine ⟨fun pins s σ H Q I h => ?_⟩
  refine Subscript_ (thn (he.run pins s σ H _ I h) fun v s1 ⟨x, H1, I1, r1, q1⟩ => ?_)
  refine wpAny_Slice (thn (hl.run pins s1 σ H1 _ I1 q1) fun vl s2 ⟨l, H2, I2, pl, q2⟩ => ?_)
  obtain ⟨p, xs, a, rfl, hq, hlo, q⟩ := q2
  cases (show v = Value.ref p from r1)
  rw [evalPart_none]
  refine wpAny_pure ?_
  rw [evalPart_some]
  refine wpAny_Constant_int ?_
  have I4 : Inv X pins σ H2 { s2 with heap := s2.heap.push { cls := .type "slice", data := .fields #[vl, .none, .int 2 s2.toks] }, toks := s2.toks + 1 } := I2.kept (t' := s2.toks + 1) fun b ob q => Heap.get?_push_of_some _ q
  obtain ⟨its, rv, pl2, hz⟩ := I4.list hq
  have lv := rv.length
  have hE : Vals (evry a xs) (slicePick its.toArray l none (some 2)).toList := by
    rw [pick2 its a l hlo]
    unfold evry
    rw [lv]
    have := vals_pick rv ((List.range ((its.length - a + 1) / 2)).map fun k => a + 2 * k)
    simpa [List.filterMap_map, Function.comp_def] using this
  have hf := I4.hok.fresh (Nat.le_refl _)
  refine tail_any (ops := [.ref p, .ref s2.heap.objs.size]) (T := "list") pl2.isList.typeIs slot_list_getitem.lookup ?_ (by with_unfolding_all rfl)
  refine wpAny_getItem_list_slice pl2.isList (Heap.IsSliceOf.new ..) pl .none (.int 2 _) (by simp) ?_ (by simp; omega)
  refine ⟨.ref _, _, I4.laid (t' := s2.toks + 1) (o := .lst (evry a xs)) (fun b u e => Heap.get?_push_of_some _ e) (Nat.le_refl _) ⟨Nat.le_trans (evry_len a xs) hz, _, 0, hE, ?_⟩, rfl, q _ hf⟩
  rw [Array.toArray_toList]
  exact Heap.get?_push_size _ rfl
end
end K15
end

section
set_option Elab.async false
set_option linter.all false
set_option maxRecDepth 100000
set_option pp.maxSteps 1500
namespace K15
open PySem PySem.Spec PyProof.Rows L2 TL PySem.W PySem.Calls PySem.NumText
theorem wp_text43 {M : Model} {A : Around} {E : Value → Shared → Prop} {s : Shared} {Q : Value → Shared → Prop} {v : Value} {text : List Nat} {n : Int} (hnd : s.heap.NoDigits)
    (hs : ¬ (text.takeWhile (· != 0)).length ≤ 640) (hr : (int_private% "readNumeral") 4300 10 (text.takeWhile (· != 0)) = (int_private% "Numeral.value") n)
    (ha : ((text.takeWhile (· != 0)).length == text.length) = true) (h : Q (.int n s.toks) { s with toks := s.toks + 1 }) :
    wpAny M A ((int_private% "intFromText") v text 10) Q E s := by
  obtain ⟨mc, hns, hnone⟩ := hnd
  show wpAny M A (if (text.takeWhile (· != 0)).length ≤ 640 then _ else (Builtin.intMaxStrDigits >>= _)) Q E s
  rw [if_neg hs]
  refine wpAny_bind ?_
  unfold Builtin.intMaxStrDigits
  refine wpAny_bind (wpAny_nsGet hns ?_)
  rw [hnone]
  refine wpAny_pure ?_
  dsimp only
  rw [hr]
  dsimp only
  rw [if_pos ha]
  exact wpAny_mkInt h
structure Hid2 (p : Prop) : Prop where
  out : p
set_option maxHeartbeats 4000000 in
theorem meets_text43 {x : PySem.Str} {u : Tok} {n : Int} (hl : ¬ (numSeenOf x).length ≤ 640) (hn : PySem.intText? x = some n) (hz : x.length ≤ sizeLine) :
    Meets (Builtin.«int.__new__» ⟨[.type "int", .str x u], []⟩) (fun _ R s => s.heap.NoDigits ∧ R (.ok (.ret (.int n s.toks))) { s with toks := s.toks + 1 }) :=
  .of_wp fun prog w A R s h0 => by
    obtain ⟨hnd, h⟩ := h0
    obtain ⟨hp, g, d, tk, os⟩ := s
    have f1 := F.conv_sub_int
    have f2 := F.madeHere_int
    have f3 := KIN.str_int
    have f4 := KIN.str_idx
    have f5 := KIN.str_trunc
    have f6 : typeOf (.str x u) = pure (.type "str") := rfl
    have hr : (int_private% "readNumeral") 4300 10 (numSeenOf x) = (int_private% "Numeral.value") n ∧ ((numSeenOf x).length == (numTextOf x).length) = true := by
      rcases read4300 x hz with ⟨m, h1, h2, h3⟩ | ⟨h1, _⟩
      · rw [hn] at h1
        injection h1 with h1
        subst h1
        exact ⟨h3, h2⟩
      · rw [hn] at h1
        cases h1
    have hk := Hid2.mk (And.intro hl (And.intro hr hnd))
    clear hl hr hn hnd hz
    repeat (any_goals (first
      | assumption
      | ((with_reducible show wpAny _ _ ((int_private% "intFromText") _ _ _) _ _ _); refine wp_text43 hk.out.2.2 hk.out.1 hk.out.2.1.1 hk.out.2.1.2 ?_)
      | wp_step))
    all_goals first | exact ⟨_, rfl, h⟩ | skip
section
variable {X : Cx}
/-- int(s), a number of at most 4,300 digits -/
theorem call_int_big (hnd : X.base.NoDigits) : CallR X (.type "int") (fun xs H Q => ∃ a, xs = [.str a] ∧ AllDigits (tl a) ∧ tl a ≠ [] ∧ a.length ≤ 4300 ∧ Q (.int (digitsVal (tl a))) H) := by
  intro pins s σ H xs us Q I r h
  obtain ⟨a, rfl, had, hne, hl, h⟩ := h
  have hn : PySem.intText? a = some ((digitsVal (tl a) : Nat) : Int) := intText_digits had hne hl
  generalize ((digitsVal (tl a) : Nat) : Int) = n at hn h
  obtain ⟨u, rfl, ru⟩ := vals1 r
  obtain ⟨t, rfl⟩ := ru
  by_cases h6 : (numSeenOf a).length ≤ 640
  · have fin : EP X pins σ Q (.int n s.toks) { s with toks := s.toks + 1 } := ⟨.int n, H, I.tok _, ⟨_, rfl⟩, h⟩
    have e := (numText_signs (x := a) fun c hc => .inr (had c hc)).2
    rw [e, Array.length_toList] at h6
    exact KIN.call_text hn h6 fin
  · have fin : EP X pins σ Q (.int n s.toks) { s with toks := s.toks + 1 } := ⟨.int n, H, I.tok _, ⟨_, rfl⟩, h⟩
    exact call_int_1 (meets_text43 h6 hn (by rw [sizeLine_eq]; omega)) ⟨hnd.keeps I.bk, ⟨typeIs_int _ _ _, fin⟩⟩
end
end K15
end

section
set_option Elab.async false
set_option linter.all false
set_option maxRecDepth 100000
set_option pp.maxSteps 600
namespace K15
open PySem PySem.Spec PyProof.Rows L2 TL
open PySem.SeqAt (RcNeAt RcAt EqIn EqAt)
section
variable {X : Cx}
/-- what is read != what was written: False -/
def rNeA (w : World) : R2 := fun x y H Q => ∃ d n, okD d = true ∧ plain n d = true ∧ n ≤ 40 ∧ At w H x (srt d) ∧ At w H y d ∧ Q (.bl false) H
theorem op_neA (hu : X.A.units + 64 < cLine) : OpR X (compareOp .NotEq) (rNeA X.w) := by
  intro pins s σ H x y v u Q I rx ry h
  obtain ⟨d, n, h1, h2, h3, ax, ay, q⟩ := h
  have hd := depth_of_plain d n h2
  exact ne_srt I.hok h1 h2 ax ay rx ry (by omega) ⟨.bl false, H, I, rfl, q⟩
/-- xs != [], xs == [] -/
def rNil (K : PySem.W.Frag) (ne : Bool) : R2 := fun x y H Q => ∃ a b xs, x = .ref a ∧ y = .ref b ∧ SqL K H a xs ∧ SqL K H b [] ∧ Q (.bl (if ne then !xs.isEmpty else xs.isEmpty)) H
theorem op_ne_nil (hu : X.A.units + 64 < cLine) : OpR X (compareOp .NotEq) (rNil X.K true) := by
  intro pins s σ H x y v u Q I rx ry h
  obtain ⟨a, b, xs, rfl, rfl, ha, hb, q⟩ := h
  cases (show v = Value.ref a from rx)
  cases (show u = Value.ref b from ry)
  obtain ⟨its, rv, pl, _⟩ := I.list ha
  obtain ⟨its2, rv2, pl2, _⟩ := I.list hb
  cases rv2
  cases rv with
  | nil => exact RcNeAt.lists (e := fun _ => true) pl.isList pl2.isList rfl (by omega) (fun j h1 _ => absurd h1 (by simp)) _ _ _ _ ⟨.bl false, H, I, rfl, q⟩
  | cons r rs => exact RcNeAt.lists_lengths pl.isList pl2.isList (by simp) (by omega) _ _ _ _ ⟨.bl true, H, I, rfl, q⟩
theorem op_eq_nil (hu : X.A.units + 64 < cLine) : OpR X (compareOp .Eq) (rNil X.K false) := by
  intro pins s σ H x y v u Q I rx ry h
  obtain ⟨a, b, xs, rfl, rfl, ha, hb, q⟩ := h
  cases (show v = Value.ref a from rx)
  cases (show u = Value.ref b from ry)
  obtain ⟨its, rv, pl, _⟩ := I.list ha
  obtain ⟨its2, rv2, pl2, _⟩ := I.list hb
  cases rv2
  cases rv with
  | nil => exact RcAt.lists (e := fun _ => true) pl.isList pl2.isList rfl (by omega) (fun j h1 _ => absurd h1 (by simp)) _ _ _ _ ⟨.bl true, H, I, rfl, q⟩
  | cons r rs => exact RcAt.lists_lengths pl.isList pl2.isList (by simp) (by omega) _ _ _ _ ⟨.bl false, H, I, rfl, q⟩
/-- a dict that is built != {} -/
theorem pairs_size {prog : Program} {w : World} {A : Around} {E : Value → Shared → Prop} {s : Shared} {nm : String} {a b : Addr} {xs ys : List En} {Q : Bool → Shared → Prop} (ha : (a == sysModules) = false) (hb : (b == sysModules) = false) (da : Raw w s.heap a xs) (db : Raw w s.heap b ys)
    (hlen : xs.length ≠ ys.length) (h : Q false s) : wpAny (model prog w) A (Builtin.Dict.samePairs nm a b) Q E s := by
  obtain ⟨oa, es, ep, hoa, _, hda, hea⟩ := da
  obtain ⟨ob, fs, ep', hob, _, hdb, heb⟩ := db
  have sa := ent_size hea
  have sb := ent_size heb
  unfold Builtin.Dict.samePairs Builtin.Dict.showsAll
  rw [if_neg (show ¬ (a == sysModules) = true by rw [ha]; exact Bool.false_ne_true), if_neg (show ¬ (b == sysModules) = true by rw [hb]; exact Bool.false_ne_true)]
  refine wpAny_bind (wpAny_pure (wpAny_bind (wpAny_pure ?_)))
  refine wpAny_bind (wpAny_dictEntries hoa hda ?_)
  dsimp only
  refine wpAny_bind (wpAny_dictEntries hob hdb ?_)
  rw [if_pos (by simp; omega)]
  exact wpAny_bind (wpAny_rule (wpAny_pure h))
def rNeD0 (w : World) : R2 := fun x y H Q => ∃ a b es, x = .ref a ∧ y = .ref b ∧ H a = some (Bld w a es) ∧ H b = some (Bld w b []) ∧ (a == sysModules) = false ∧ (b == sysModules) = false ∧ Q (.bl (!es.isEmpty)) H
theorem op_neD0 (hu : X.A.units + 64 < cLine) : OpR X (compareOp .NotEq) (rNeD0 X.w) := by
  intro pins s σ H x y v u Q I rx ry h
  obtain ⟨a, b, es, rfl, rfl, ha, hb, sa, sb, q⟩ := h
  cases (show v = Value.ref a from rx)
  cases (show u = Value.ref b from ry)
  obtain ⟨oa, hoa, da⟩ := bld_raw I.hok ha
  obtain ⟨ob, hob, db⟩ := bld_raw I.hok hb
  have ra : Raw X.w s.heap a es := da.raw hoa
  have rb : Raw X.w s.heap b [] := db.raw hob
  refine wpAny_richCompare_same_room (op := .NotEq) ra.typeIs rb.typeIs F.slot_dict_ne (wpAny_call_entry F.slot_dict_ne ra.typeIs F.entry_dict_ne ?_ (F.args_dict_ne_2 _ _)) (by omega)
  show wpAny _ _ (Builtin.Dict.dictSlotArgs "__ne__" ⟨[.ref a, .ref b], []⟩ >>= _) _ _ s
  refine wpAny_bind ?_
  unfold Builtin.Dict.dictSlotArgs
  refine wpAny_bind (wpAny_notOrdered_dict ra.typeIs (wpAny_pure ?_))
  refine wpAny_bind (wpAny_isInstance (T := "dict") rb.typeIs F.sub_dict_dict ?_)
  simp only [Bool.not_true, Bool.false_eq_true, if_false]
  refine wpAny_bind (wpAny_pure (wpAny_bind (wpAny_pure ?_)))
  have hA : Fits8 X.A.in1 := by show X.A.units + 1 + 8 < cLine; omega
  cases es with
  | nil =>
    refine wpAny_bind (pairs_same sa sb hA ra rb (fun _ z => nomatch z) (fun _ z => nomatch z) List.nodup_nil rfl (fun _ z => nomatch z) ?_)
    exact wpAny_pure ⟨_, rfl, (fun x => nomatch x), ⟨.bl false, H, I, rfl, q⟩⟩
  | cons e es =>
    refine wpAny_bind (pairs_size sa sb ra rb (by simp) ?_)
    exact wpAny_pure ⟨_, rfl, (fun x => nomatch x), ⟨.bl true, H, I, rfl, q⟩⟩
/-- repr of a tuple of data; of a bool -/
def rReprT (w : World) : List V → Hp → VK → Prop := fun xs H Q => ∃ a ds, xs = [.ref a] ∧ At w H (.ref a) (.tuple ds) ∧ okDs ds = true ∧ PyData.depthAll ds ≤ 40 ∧ (PyData.tuple ds).shown.length ≤ sizeLine ∧ Q (.str (PyData.tuple ds).shown) H
theorem call_reprT (hu : X.A.units + 64 < cLine) (hg : X.A.guards = some []) (hnd : X.base.NoDigits) : CallR X (.builtin "repr") (rReprT X.w) := by
  intro pins s σ H xs us Q I r h
  obtain ⟨a, ds, rfl, at_, ok, hd, hz, q⟩ := h
  obtain ⟨u, rfl, ru⟩ := vals1 r
  obtain ⟨as, hr, hn⟩ := At.reads I.hok at_ ru (by simpa only [okD] using ok)
  cases (show u = Value.ref a from ru)
  exact repr_tup (hnd.keeps I.bk) hr ok hn hg (by omega) hz fun h' u tk k => ⟨.str _, H, I.kept (t' := tk) k, ⟨u, rfl⟩, q⟩
theorem call_reprB : CallR X (.builtin "repr") (fun xs H Q => ∃ b : Bool, xs = [.bl b] ∧ Q (.str (if b = true then Str.ofString "True" else Str.ofString "False")) H) := by
  intro pins s σ H xs us Q I r h
  obtain ⟨b, rfl, q⟩ := h
  obtain ⟨u, rfl, ru⟩ := vals1 r
  cases (show u = Value.bool b from ru)
  exact PySem.P.repr_of_bool ⟨.str _, H, I.tok _, ⟨_, rfl⟩, q⟩
end
end K15
end

section
set_option Elab.async false
set_option linter.all false
set_option maxRecDepth 100000
set_option pp.maxSteps 600
namespace K15
open PySem PySem.Spec PyProof.Rows L2 TL

/-! ### defs that are called where no repr is under way -/
structure FnG (P : Program) (w : World) (K : PySem.W.Frag) (mg : Str → Option Value) (base : Heap) (k : Nat) (f : Addr) (fd : FuncData) (ps : List Str) (sp : Sp) : Prop where
  len : ∀ vs H Q E, sp vs H Q E → vs.length = ps.length
  run : ∀ (A : Around) (outer : List Env) (s : Shared) (H : Hp) (args : Args) (us : List Value) (vs : List V) (Q : VK) (E : XK), A.guards = some [] → Room k A → Env0 P w K mg base A outer s H → BindsTo s fd args (ps.zip us) → Vals vs us → sp vs H Q E →
    codeAny (model P w) A (.call (.ref f) args) (CR CX0 outer P w H s Q E) s
theorem deeper_guards {A : Around} {env : Env} (h : A.guards = some []) : (A.deeper env).guards = some [] := h
section
variable {P : Program} {w : World} {K : PySem.W.Frag} {mg : Str → Option Value} {base : Heap}
theorem FnG.ofFun {x qual : Str} {st : Stmt} {f : Addr} {fd : FuncData} {N ps : List Str} {k : Nat} {sp : Sp} (F : Fun K x qual st f fd) (S : FnScope N ps (defScope st)) (len : ∀ vs H Q E, sp vs H Q E → vs.length = ps.length)
    (hbody : ∀ (cdv : Value) (A : Around) (outer : List Env) (s : Shared) (H : Hp) (vs : List V) (Q : VK) (E : XK), A.guards = some [] → Room k (A.deeper (envOfC qual (defScope st) s.heap.objs.size f cdv)) → sp vs H Q E →
      ∃ t, PSs (cxOf CX0 P w K mg base N qual (defScope st) f cdv A outer s H E).nox (defBody st) t ∧ t { nx := fun _ H' => Q .non H', rt := Q } (start N vs) H) : FnG P w K mg base (k + 1) f fd ps sp := by
  obtain ⟨oc, od, kV, doc, pm, an, cdv, ct, osl, rfl, lk, hcd⟩ := F.ex
  refine ⟨len, fun A outer s H args us vs Q E hg hr e0 hb r hsp => ?_⟩
  have hl := len _ _ _ _ hsp
  have inS : K.In s.heap := e0.mod.kin.keeps fun b o e => (e0.bs b o e).1
  have noL : s.heap.NoLimit := e0.mod.nolimit.keeps fun b o e => (e0.bs b o e).1
  refine codeAny_call_function hr.depth (inS _ _ lk) rfl S.co S.gen rfl (PySem.W.codeRec_of inS hcd) (hb _ _ _ _ ?_)
  refine wpAny_newFunctionEnv_cells S.kind (fun ⟨n, v⟩ hy => ?_) fun env he s1 x => ?_
  · rcases S.par n (List.of_mem_zip hy).1 with q | q
    · exact .inl q
    · exact .inr ⟨q, PySem.W.cellsFrom_some _ _ _ (.inl q)⟩
  subst he
  refine ⟨noL.keeps x.toInCall.keep, codeAny_func ?_⟩
  obtain ⟨t, ht, hq⟩ := hbody cdv A outer s H vs Q E hg (hr.deeper _) hsp
  have I : L2.Inv (cxOf CX0 P w K mg base N qual (defScope st) f cdv A outer s H E) [] (start N vs) H s1 := inv_start S hr.hd e0 hl r x
  refine wpAny_mono (ht.nox.run [] s1 (start N vs) H _ I hq) (fun fl s' hs => ?_) fun e s' hs => hs
  cases fl with
  | brk => exact let ⟨_, _, _, q⟩ := hs; False.elim q
  | cont => exact let ⟨_, _, _, q⟩ := hs; False.elim q
  | ret u => exact let ⟨v, _, H', J, rv, q⟩ := hs; ⟨v, H', J.os, J.bare, J.base, J.hok, rv, q⟩
  | next => exact let ⟨_, H', J, q⟩ := hs; ⟨V.non, H', J.os, J.bare, J.base, J.hok, rfl, q⟩
end
section
variable {X : Cx} {k : Nat} {f : Addr} {fd : FuncData} {ps : List Str} {sp : Sp} {x : Str} {p pos : Pos} {e : Expr} {es : List Expr} {t : TA}
theorem run_fnG {pins : List (Addr × Obj)} {σ : St} {H : Hp} {s : Shared} {Q : VK} {us : List Value} {vs : List V} (F : FnG X.prog X.w X.K X.mg X.base k f fd ps sp) (hg : X.A.guards = some []) (hr : Room k X.A) (hb : Binds X.K fd ps [])
    (I : L2.Inv X pins σ H s) (r : Vals vs us) (h : sp vs H Q E0) : wpAny (model X.prog X.w) X.A (call (.ref f) us) (EP X pins σ Q) X.xe s := by
  have hl : (us ++ ([] : List Value)).length = ps.length := by rw [List.append_nil, ← r.length]; exact F.len _ _ _ _ h
  have hb' := hb s us I.kIn hl
  rw [List.append_nil] at hb'
  refine wpAny_call (codeAny_mono (F.run X.A X.stack s H ⟨us, []⟩ us vs Q E0 hg hr I.env0 hb' r h) fun r s' hq => ?_)
  cases r with
  | error e => exact False.elim hq
  | ok fl =>
    cases fl with
    | ret u => exact I.after hq
    | next => exact False.elim hq
    | brk => exact False.elim hq
    | cont => exact False.elim hq
/-- f(e, ..), f such a def -/
theorem pe_callG (F : FnG X.prog X.w X.K X.mg X.base k f fd ps sp) (hgd : X.A.guards = some []) (hr : Room k X.A) (hg : Gl X x) (hm : X.mg x = some (.ref f)) (hk : PySem.W.keepIn X.K (.ref f) = true) (hb : Binds X.K fd ps [])
    (ha : PA X (e :: es) t) (hdb : (x == ("__debug__" : Str)) = false := by decide) (he : starEach (e :: es) X.env = (false, eval e X.env) :: starEach es X.env := by rfl) (hpl : (backTo pos (starEach es X.env)).any (·.1) = false := by rfl) :
    PE X (.Call (.Name x p) (e :: es) [] pos) (tCall sp [] E0 t) := by
  refine ⟨fun pins s σ H Q I h => ?_⟩
  refine wpAny_Call_Name_kw (ld_glob I hg hm ?_ hdb)
  refine PySem.W.callWith_K (h₀ := X.base) I.ok.mod.kin hk (thn (ha.run pos pins s σ H _ I h) fun us s1 ⟨vs, H1, I1, r, q⟩ => ⟨I1.kIn, ?_⟩) he hpl
  have q' : sp (vs ++ []) H1 Q E0 := q
  rw [List.append_nil] at q'
  exact run_fnG F hgd hr hb I1 r q'
/-- f() -/
theorem pe_callG0 (F : FnG X.prog X.w X.K X.mg X.base k f fd ps sp) (hgd : X.A.guards = some []) (hr : Room k X.A) (hg : Gl X x) (hm : X.mg x = some (.ref f)) (hk : PySem.W.keepIn X.K (.ref f) = true) (hb : Binds X.K fd ps [])
    (hdb : (x == ("__debug__" : Str)) = false := by decide) : PE X (.Call (.Name x p) [] [] pos) (tCall sp [] E0 tNil) := by
  refine ⟨fun pins s σ H Q I h => ?_⟩
  refine wpAny_Call_Name_kw (ld_glob I hg hm ?_ hdb)
  exact PySem.W.callWith_K0 I.kIn hk (run_fnG (us := []) F hgd hr hb I .nil h)
end
end K15
end

section
set_option Elab.async false
set_option linter.all false
set_option maxRecDepth 100000
set_option pp.maxSteps 900
namespace K15
open PySem PySem.Spec PyProof.Rows L2 TL

def topS (i : Nat) : Stmt := PySem.Challenge.pw_gatekinds_k15_whole_texts_by_an_own_read.main.body.getD i (.Pass ⟨0, 0, 0, 0⟩)
def nameOf : Stmt → Str
  | .FunctionDef n .. => n
  | .ClassDef n .. => n
  | _ => Str.empty
example : nameOf (topS 25) = "_law_roll" := by decide +kernel
example : nameOf (topS 47) = "law" := by decide +kernel
example : nameOf (topS 19) = "Reading" := by decide +kernel
/-- a def of the top: it stands there, its arguments bind, its name means it -/
structure Df (K : PySem.W.Frag) (mg : Str → Option Value) (x : Str) (st : Stmt) (ps : List Str) (f : Addr) (fd : FuncData) : Prop where
  F : Fun K x x st f fd
  b : Binds K fd ps []
  m : mg x = some (.ref f)

/-! ### the dice -/
abbrev sRoll : Stmt := topS 25
abbrev sPick : Stmt := topS 26
/-- the dice at da -/
def Dice (H : Hp) (da : Addr) : Prop := ∃ g s : Int, H da = some (.lst [.int g, .int s]) ∧ 0 ≤ g ∧ 0 ≤ s ∧ s < 2 ^ 64
/-- all but the dice is as it was -/
def Kp (da : Addr) (H H' : Hp) : Prop := ∀ b o, b ≠ da → H b = some o → H' b = some o
theorem Kp.refl (da : Addr) (H : Hp) : Kp da H H := fun _ _ _ h => h
theorem Kp.trans {da : Addr} {H H1 H2 : Hp} (a : Kp da H H1) (b : Kp da H1 H2) : Kp da H H2 := fun c o hc h => b c o hc (a c o hc h)
theorem Kp.of_same {da : Addr} {H H' : Hp} (s : Same H H') : Kp da H H' := fun b o _ h => s b o h
theorem Kp.upd {da : Addr} {H : Hp} {o : HO} : Kp da H (upd H da o) := fun b u hb h => by rw [upd_ne hb]; exact h
theorem Same.new {H : Hp} {p : Addr} {o : HO} (h : H p = none) : Same H (upd H p o) := fun b u q => by rw [upd_ne (ne_of_none q h)]; exact q
theorem Kp.new {da : Addr} {H : Hp} {p : Addr} {o : HO} (h : H p = none) : Kp da H (L2.upd H p o) := Kp.of_same (Same.new h)
theorem Dice.ne {H : Hp} {da p : Addr} (d : Dice H da) (h : H p = none) : p ≠ da := fun e => by
  obtain ⟨g, s, q, _⟩ := d
  rw [← e, h] at q
  cases q
theorem Dice.same {H H' : Hp} {da : Addr} (d : Dice H da) (s : Same H H') : Dice H' da := by
  obtain ⟨g, t, q, r⟩ := d
  exact ⟨g, t, s _ _ q, r⟩
theorem Dice.new {H : Hp} {da p : Addr} {o : HO} (d : Dice H da) (h : H p = none) : Dice (L2.upd H p o) da := d.same (Same.new h)
theorem Kp.keep {da : Addr} {H H' : Hp} (k : Kp da H H') (d : Dice H da) : Keep H H' := by
  obtain ⟨g, s, q, _⟩ := d
  refine ⟨fun a xs h => k a _ (fun e => ?_) h, fun a o u h => k a _ (fun e => ?_) h⟩
  · rw [e, q] at h; cases h
  · rw [e, q] at h; cases h
theorem Same.keep {H H' : Hp} (s : Same H H') : Keep H H' := ⟨fun a xs h => s a _ h, fun a o u h => s a _ h⟩
def spRoll : Sp := fun vs H Q _ => ∃ (da : Addr) (n : Int), vs = [.ref da, .int n] ∧ Dice H da ∧ 0 < n ∧ n < 2 ^ 29 ∧ ∀ H' (r : Int), Kp da H H' → Dice H' da → (H' da ≠ none) → (∀ b, b ≠ da → H' b = H b) → 0 ≤ r → r < n → Q (.int r) H'
theorem scRoll : FnScope ["dice", "total", "found"] ["dice", "total"] (defScope sRoll) := ⟨rfl, rfl, rfl, by decide +kernel, rfl, by decide +kernel, by decide +kernel⟩
section
variable {P : Program} {w : World} {K : PySem.W.Frag} {mg : Str → Option Value} {base : Heap} {f : Addr} {fd : FuncData}
theorem ok_roll (D : Df K mg "_law_roll" sRoll ["dice", "total"] f fd) (mi : mg "int" = none) : FnOk P w K mg base CX0 1 f fd ["dice", "total"] spRoll := by
  refine D.F.ok scRoll (fun vs H Q E h => ?_) (fun cdv A outer s H vs Q E hr h => ?_)
  · obtain ⟨da, n, rfl, _⟩ := h
    rfl
  obtain ⟨da, n, rfl, hd, h0, h1, q⟩ := h
  obtain ⟨g, t, hg, g0, t0, t1⟩ := hd
  have nd := scRoll.nd
  refine ⟨_, pss_cons (ps_if (pt_cmpR op_gt (pe_ix ix_list (pv 0) pe_int (fun _ _ => rfl)) pe_int (nomark _))
      (pss_cons (ps_set (i := 2) nd rfl (.inl rfl) (pe_op op_mod (pe_callTy call_int1 (by rfl) mi (by decide +kernel) (pa_cons (pe_ix ix_list (pv 0) pe_int (fun _ _ => rfl)) pa_nil)) (pv 1)))
      (pss_cons (ps_asg (pe_op op_fdivW (pe_ix ix_list (pv 0) pe_int (fun _ _ => rfl)) (pv 1)) (pg_sub (pv 0) pe_int set_list))
      (pss_one (ps_ret (pv 2))))) pss_nil)
    (pss_cons (ps_asg (pe_op op_mod (pe_op op_add (pe_op op_mul (pe_ix ix_list (pv 0) pe_int (fun _ _ => rfl)) pe_int) pe_int) pe_int) (pg_sub (pv 0) pe_int set_list))
    (pss_one (ps_ret (pe_op op_mod (pe_callTy call_int1 (by rfl) mi (by decide +kernel) (pa_cons (pe_op op_fdivW (pe_ix ix_list (pv 0) pe_int (fun _ _ => rfl)) pe_int) pa_nil)) (pv 1))))), ?_⟩
  refine ⟨_, rfl, da, _, 0, .int g, rfl, rfl, SqL.of hg, rfl, _, _, rfl, rfl, _, rfl, ?_⟩
  refine ite2 (fun c => ?_) (fun c => ?_)
  · have g1 : 0 < g := of_decide_eq_true c
    have hn : n.natAbs < 2 ^ 29 := by omega
    refine ⟨_, rfl, da, _, 0, .int g, rfl, rfl, SqL.of hg, rfl, .inl ⟨_, rfl, _, rfl, _, _, rfl, rfl, h0, ?_⟩⟩
    refine ⟨_, rfl, da, _, 0, .int g, rfl, rfl, SqL.of hg, rfl, _, rfl, _, _, rfl, rfl, wide_div h0 hn (by decide) (by decide), ?_⟩
    refine ⟨_, rfl, da, _, 0, 0, rfl, rfl, hg, rfl, _, rfl, ?_⟩
    refine q _ _ Kp.upd ⟨g / n, t, upd_same, Int.ediv_nonneg g0 (by omega), t0, t1⟩ (by rw [upd_same]; exact fun z => nomatch z) (fun b hb => upd_ne hb) (Int.emod_nonneg _ (by omega)) (Int.emod_lt_of_pos _ h0)
  · refine ⟨_, rfl, da, _, 0 + 1, .int t, rfl, rfl, SqL.of hg, rfl, _, _, rfl, rfl, .inl ⟨by omega, by omega⟩, _, _, rfl, rfl, _, _, rfl, rfl, (by show (0 : Int) < _; decide), ?_⟩
    refine ⟨_, rfl, da, _, 1, 1, rfl, rfl, hg, rfl, ?_⟩
    refine ⟨_, rfl, da, _, 0 + 1, _, rfl, rfl, SqL.of upd_same, rfl, _, _, rfl, rfl, wide_div (b := 40) (by decide) (by decide) (by decide) (by decide), .inl ⟨_, rfl, _, rfl, _, _, rfl, rfl, h0, ?_⟩⟩
    refine q _ _ Kp.upd ⟨g, _, upd_same, g0, Int.emod_nonneg _ (by decide), Int.emod_lt_of_pos _ (by decide)⟩ (by rw [upd_same]; exact fun z => nomatch z) (fun b hb => upd_ne hb) (Int.emod_nonneg _ (by omega)) (Int.emod_lt_of_pos _ h0)
end
end K15
end

section
set_option Elab.async false
set_option linter.all false
set_option maxRecDepth 100000
set_option pp.maxSteps 900
namespace K15
open PySem PySem.Spec PyProof.Rows L2 TL

theorem seq_eqv {K : PySem.W.Frag} {H H' : Hp} {a : Addr} {xs : List V} (h : SqL K H a xs) (e : H' a = H a) : SqL K H' a xs := by
  rcases h with (h | ⟨o, h⟩) | h
  · exact .inl (.inl (by rw [e]; exact h))
  · exact .inl (.inr ⟨o, by rw [e]; exact h⟩)
  · exact .inr h
theorem atI_int {α : Type} {xs : List α} {r : Int} (h0 : 0 ≤ r) (h1 : r < xs.length) : ∃ v ∈ xs, atI xs r = some v := by
  have h : r.toNat < xs.length := by omega
  refine ⟨xs[r.toNat], List.getElem_mem h, ?_⟩
  have e := atI_nat (List.getElem?_eq_getElem h)
  rwa [Int.toNat_of_nonneg h0] at e
/-- items to pick from: a list, a text -/
def spPick (K : PySem.W.Frag) : Sp := fun vs H Q _ => ∃ (da : Addr) (y : V), vs = [.ref da, y] ∧ Dice H da ∧
  ((∃ a xs, y = .ref a ∧ a ≠ da ∧ SqL K H a xs ∧ 0 < xs.length ∧ xs.length < 2 ^ 20 ∧ ∀ H' x, Kp da H H' → Dice H' da → (∀ b, b ≠ da → H' b = H b) → x ∈ xs → Q x H') ∨
   (∃ z, y = .str z ∧ 0 < z.length ∧ z.length < 2 ^ 20 ∧ ∀ H' c, Kp da H H' → Dice H' da → (∀ b, b ≠ da → H' b = H b) → c ∈ tl z → Q (.str ⟨#[c]⟩) H'))
theorem scPick : FnScope ["dice", "items"] ["dice", "items"] (defScope sPick) := ⟨rfl, rfl, rfl, by decide +kernel, rfl, by decide +kernel, by decide +kernel⟩
section
variable {P : Program} {w : World} {K : PySem.W.Frag} {mg : Str → Option Value} {base : Heap} {f g : Addr} {fd gd : FuncData}
theorem line20 {n : Nat} (h : n < 2 ^ 20) : n ≤ sizeLine := by rw [sizeLine_eq]; omega
theorem ok_pick (D : Df K mg "_law_pick" sPick ["dice", "items"] f fd) (R : Df K mg "_law_roll" sRoll ["dice", "total"] g gd) (ml : mg "len" = none) (GR : FnOk P w K mg base CX0 1 g gd ["dice", "total"] spRoll) : FnOk P w K mg base CX0 2 f fd ["dice", "items"] (spPick K) := by
  refine D.F.ok scPick (fun vs H Q E h => ?_) (fun cdv A outer s H vs Q E hr h => ?_)
  · obtain ⟨da, y, rfl, _⟩ := h
    rfl
  obtain ⟨da, y, rfl, hd, h⟩ := h
  refine ⟨_, pss_one (ps_ret (pe_ix (IxR.or ix_list ix_str) (pv 1) (pe_call GR hr (by rfl) R.m R.F.kp R.b .nil pass0 (pa_cons (pv 0) (pa_cons (pe_callB call_len (by rfl) ml PySem.boot_len (pa_cons (pv 1) pa_nil)) pa_nil))) (fun _ _ => rfl))), ?_⟩
  rcases h with ⟨a, xs, rfl, hne, hs, h0, h1, q⟩ | ⟨z, rfl, h0, h1, q⟩
  · refine ⟨_, rfl, _, rfl, _, rfl, _, (xs.length : Nat), rfl, .inl ⟨xs, hs, rfl⟩, da, (xs.length : Nat), rfl, hd, by omega, by omega, fun H' r k d' _ e r0 r1 => ?_⟩
    obtain ⟨v, hm, hv⟩ := atI_int (xs := xs) r0 r1
    exact .inl ⟨a, xs, r, v, rfl, rfl, seq_eqv hs (e a hne), hv, q H' _ k d' e hm⟩
  · refine ⟨_, rfl, _, rfl, _, rfl, _, (z.length : Nat), rfl, ⟨line20 h1, rfl⟩, da, (z.length : Nat), rfl, hd, by omega, by omega, fun H' r k d' _ e r0 r1 => ?_⟩
    obtain ⟨v, hm, hv⟩ := atI_int (xs := tl z) r0 (by rw [← len_tl]; exact r1)
    exact .inr ⟨z, r, v, rfl, rfl, line20 h1, hv, q H' _ k d' e hm⟩
end
/-! ### _law_letters -/
abbrev sLetters : Stmt := topS 29
/-- a text of signs of such a length -/
def spLetters : Sp := fun vs H Q _ => ∃ (da : Addr) (n : Nat), vs = [.ref da, .int n] ∧ Dice H da ∧ n ≤ 9 ∧ ∀ H' (z : Str), Kp da H H' → Dice H' da → z.length = n → (∀ c ∈ tl z, isSig c = true) → Q (.str z) H'
theorem scLetters : FnScope ["dice", "many", "turn"] ["dice", "many"] (defScope sLetters) := ⟨rfl, rfl, rfl, by decide +kernel, rfl, by decide +kernel, by decide +kernel⟩
theorem joinL_ones : ∀ cs : List Nat, joinL [] (cs.map fun c => [c]) = cs
  | [] => rfl
  | [c] => rfl
  | c :: d :: r => by
    have := joinL_ones (d :: r)
    show [c] ++ ([] ++ joinL [] ((d :: r).map fun c => [c])) = _
    rw [this]
    rfl
section
variable {P : Program} {w : World} {K : PySem.W.Frag} {mg : Str → Option Value} {base : Heap} {f g : Addr} {fd gd : FuncData}
theorem ok_letters (D : Df K mg "_law_letters" sLetters ["dice", "many"] f fd) (R : Df K mg "_law_pick" sPick ["dice", "items"] g gd) (mr : mg "range" = none) (GR : FnOk P w K mg base CX0 2 g gd ["dice", "items"] (spPick K)) : FnOk P w K mg base CX0 3 f fd ["dice", "many"] spLetters := by
  refine D.F.ok scLetters (fun vs H Q E h => ?_) (fun cdv A outer s H vs Q E hr h => ?_)
  · obtain ⟨da, n, rfl, _⟩ := h
    rfl
  obtain ⟨da, n, rfl, hd, hn, q⟩ := h
  have nd := scLetters.nd
  refine ⟨_, pss_one (ps_ret (pe_join pe_str (pe_lc (own := [("turn", 2)]) (g := gName 2) (tt := tYes) rfl nd (pi_range1 (by rfl) mr (pa_cons (pv 1) pa_nil)) (blkOk_by (N := ["dice", "many", "turn"]) (sc := defScope sLetters) (by decide +kernel))
    (fun _ _ _ _ _ => pg_name (i := 2) nd rfl (Or.inl rfl)) (fun _ _ _ _ _ => pts_nil) (fun _ _ _ _ _ => pe_call GR hr (by rfl) R.m R.F.kp R.b .nil pass0 (pa_cons (pv 0) (pa_cons pe_str pa_nil)))))), ?_⟩
  refine ⟨⟨_, rfl⟩, _, rfl, (n : Int), rfl, by omega, by omega, fun Da hDa => ?_⟩
  refine lc_range (lo := 0) (n := n) (fun i H' => ∃ cs : List Nat, H' Da = some (.lst (cs.map fun c => V.str ⟨#[c]⟩)) ∧ cs.length = i ∧ (∀ c ∈ cs, isSig c = true) ∧ Dice H' da ∧ Kp da H H') ⟨[], upd_same, rfl, fun _ z => (nomatch z), hd.new hDa, Kp.new hDa⟩ (fun i H1 hi hp => ?_) fun H1 hp => ?_
  · obtain ⟨cs, h1, h2, h3, h4, h5⟩ := hp
    refine ⟨rfl, ?_⟩
    unfold tYes
    dsimp only
    rw [if_pos rfl]
    refine ⟨_, rfl, da, _, rfl, h4, .inr ⟨_, rfl, by decide +kernel, by decide +kernel, fun H2 c k d e hc => ?_⟩⟩
    have hne : Da ≠ da := hd.ne hDa
    refine ⟨_, k _ _ hne h1, ?_, cs ++ [c], ?_, ?_, ?_, ?_, ?_⟩
    · rw [List.length_map, sizeLine_eq]; omega
    · rw [upd_same]; simp
    · simp [h2]
    · intro x hx
      rcases List.mem_append.mp hx with z | z
      · exact h3 x z
      · rw [List.mem_singleton.mp z]
        have all : ∀ c ∈ tl (Str.ofString "abcdefghijklmnopqrstuvwxyz   none"), isSig c = true := by decide +kernel
        exact all c hc
    · obtain ⟨g', t', q', r'⟩ := d
      exact ⟨g', t', by rw [upd_ne (Ne.symm hne)]; exact q', r'⟩
    · intro b o hb ho
      have hb2 : b ≠ Da := ne_of_none ho hDa
      rw [upd_ne hb2]
      exact k b o hb (h5 b o hb ho)
  · obtain ⟨cs, h1, h2, h3, h4, h5⟩ := hp
    have e1 : (cs.map fun c => V.str ⟨#[c]⟩) = (cs.map fun c => (⟨#[c]⟩ : Str)).map V.str := by rw [List.map_map]; rfl
    rw [e1] at h1
    have e2 : ((cs.map fun c => (⟨#[c]⟩ : Str)).map (·.length)).sum = cs.length := by
      rw [List.map_map]
      clear h1 e1 h2 h3
      induction cs with
      | nil => rfl
      | cons c r ih => rw [List.map_cons, List.sum_cons, ih, List.length_cons]; show 1 + _ = _; omega
    have e3 : tl (Str.join (Str.ofString "") (cs.map fun c => (⟨#[c]⟩ : Str))) = cs := by
      rw [TL.tl_join, List.map_map]
      have := joinL_ones cs
      rw [show (TL.tl ∘ fun c => (⟨#[c]⟩ : Str)) = fun c => [c] from rfl]
      exact this
    refine ⟨_, Da, _, rfl, rfl, .inl (SqL.of h1), ?_, ?_⟩
    · rw [e2, List.length_map, h2]
      show n + n * 0 ≤ _
      omega
    · rw [TL.join_eq]
      refine q H1 _ h5 h4 ?_ ?_
      · rw [TL.len_tl, e3]; exact h2
      · rw [e3]; exact h3
end
end K15
end

section
set_option Elab.async false
set_option linter.all false
set_option maxRecDepth 100000
set_option pp.maxSteps 900
namespace K15
open PySem PySem.Spec PyProof.Rows L2 TL

/-- a global that holds this value -/
def Gv (mg : Str → Option Value) (x : Str) (v : V) : Prop := ∃ u, mg x = some u ∧ RelV v u
theorem pe_gv {X : Cx} {x : Str} {v : V} {pos : Pos} (g : Gv X.mg x v) (hg : Gl X x) (hd : (x == ("__debug__" : Str)) = false := by decide) : PE X (.Name x pos) (tC v) := by
  obtain ⟨u, h, r⟩ := g
  exact pe_glob hg h r hd
/-- no name of the top hides these -/
structure Bn (mg : Str → Option Value) : Prop where
  isinstance : mg "isinstance" = none
  int : mg "int" = none
  bool : mg "bool" = none
  str : mg "str" = none
  tuple : mg "tuple" = none
  dict : mg "dict" = none
  list : mg "list" = none
  len : mg "len" = none
  all : mg "all" = none
  any : mg "any" = none
  sorted : mg "sorted" = none
  min : mg "min" = none
  max : mg "max" = none
  abs : mg "abs" = none
  range : mg "range" = none
  repr : mg "repr" = none
  enumerate : mg "enumerate" = none
  zip : mg "zip" = none
  sum : mg "sum" = none
theorem bt_isinstance : bootBuiltins "isinstance" = some (.builtin "isinstance") := by decide +kernel
theorem bt_int : bootBuiltins "int" = some (.type "int") := by decide +kernel
theorem bt_bool : bootBuiltins "bool" = some (.type "bool") := by decide +kernel
theorem bt_str : bootBuiltins "str" = some (.type "str") := by decide +kernel
theorem bt_tuple : bootBuiltins "tuple" = some (.type "tuple") := by decide +kernel
theorem bt_dict : bootBuiltins "dict" = some (.type "dict") := by decide +kernel
theorem bt_list : bootBuiltins "list" = some (.type "list") := by decide +kernel
theorem bt_len : bootBuiltins "len" = some (.builtin "len") := by decide +kernel
theorem bt_all : bootBuiltins "all" = some (.builtin "all") := by decide +kernel
theorem bt_any : bootBuiltins "any" = some (.builtin "any") := by decide +kernel
theorem bt_sorted : bootBuiltins "sorted" = some (.builtin "sorted") := by decide +kernel
theorem bt_min : bootBuiltins "min" = some (.builtin "min") := by decide +kernel
theorem bt_max : bootBuiltins "max" = some (.builtin "max") := by decide +kernel
theorem bt_abs : bootBuiltins "abs" = some (.builtin "abs") := by decide +kernel
theorem bt_repr : bootBuiltins "repr" = some (.builtin "repr") := by decide +kernel
theorem bt_sum : bootBuiltins "sum" = some (.builtin "sum") := by decide +kernel

/-! ### is_whole -/
abbrev sIsWhole : Stmt := topS 5
abbrev sShort : Stmt := topS 15
theorem scIsWhole : FnScope ["value"] ["value"] (defScope sIsWhole) := ⟨rfl, rfl, rfl, by decide +kernel, rfl, by decide +kernel, by decide +kernel⟩
theorem scShort : FnScope ["value", "left", "digits"] ["value"] (defScope sShort) := ⟨rfl, rfl, rfl, by decide +kernel, rfl, by decide +kernel, by decide +kernel⟩
def spIsWhole (w : World) : Sp := fun vs H Q _ => ∃ (x : V) (d : PyData), vs = [x] ∧ At w H x d ∧ Q (.bl (tyOf d == "int")) H
def shortInt : PyData → Bool
  | .int i => leafInt i
  | _ => false
def spShort (w : World) : Sp := fun vs H Q _ => ∃ (x : V) (d : PyData), vs = [x] ∧ At w H x d ∧ Q (.bl (shortInt d)) H
section
variable {P : Program} {w : World} {K : PySem.W.Frag} {mg : Str → Option Value} {base : Heap} {f g : Addr} {fd gd : FuncData}
theorem ok_isWhole (D : Df K mg "is_whole" sIsWhole ["value"] f fd) (B : Bn mg) : FnOk P w K mg base CX0 1 f fd ["value"] (spIsWhole w) := by
  refine D.F.ok scIsWhole (fun vs H Q E h => ?_) (fun cdv A outer s H vs Q E hr h => ?_)
  · obtain ⟨x, d, rfl, _⟩ := h
    rfl
  obtain ⟨x, d, rfl, a, q⟩ := h
  refine ⟨_, pss_one (ps_ret (pe_and (pe_callB call_isiA (by rfl) B.isinstance bt_isinstance (pa_cons (pv 0) (pa_cons (pe_bltn (v := .ty "int") (by rfl) B.int bt_int rfl) pa_nil)))
    (pe_one (pe_not (pe_callB call_isiA (by rfl) B.isinstance bt_isinstance (pa_cons (pv 0) (pa_cons (pe_bltn (v := .ty "bool") (by rfl) B.bool bt_bool rfl) pa_nil))))))), ?_⟩
  refine ⟨_, rfl, x, d, _, _, rfl, a, kit_int d, _, rfl, ?_⟩
  refine ite2 (fun c => ?_) (fun c => ?_)
  · refine ⟨_, rfl, x, d, _, _, rfl, a, kit_bool d, _, rfl, ?_⟩
    have e : (!(tyOf d == "bool")) = (tyOf d == "int") := by
      cases d <;> first | rfl | simp [tyOf] at c
    rw [e]
    exact q
  · have e : (tyOf d == "int") = false := by
      cases d <;> first | rfl | exact absurd rfl c
    rw [e] at q
    exact q
theorem num_len {n m : Nat} (hm : 0 < m) : (numL n).length ≤ m ↔ n < 10 ^ m := by
  refine ⟨fun h => ?_, fun h => numL_len hm h⟩
  have := digitsVal_lt (numL n) (dig_all n)
  rw [numL_val] at this
  exact Nat.lt_of_lt_of_le this (Nat.pow_le_pow_right (by decide) h)
theorem short_end (a k : Nat) (hk : k ≤ 62) (h1 : a / 10 ^ (64 * k) < 10 ^ 64) (h0 : k = 0 ∨ 0 < a / 10 ^ (64 * k)) : 64 * k + (numL (a / 10 ^ (64 * k))).length ≤ 4000 ↔ a < 10 ^ 4000 := by
  have e : (64 * k + (numL (a / 10 ^ (64 * k))).length ≤ 4000) ↔ (numL (a / 10 ^ (64 * k))).length ≤ 4000 - 64 * k := by omega
  rw [e, num_len (by omega), Nat.div_lt_iff_lt_mul (Nat.pow_pos (by decide)), ← Nat.pow_add]
  rw [show 4000 - 64 * k + 64 * k = 4000 by omega]
theorem ok_short (D : Df K mg "is_short_whole" sShort ["value"] f fd) (R : Df K mg "is_whole" sIsWhole ["value"] g gd) (B : Bn mg) (gF : Gv mg "FARTHEST" (.int (10 ^ 64))) (gM : Gv mg "MOST_TEXT" (.int 4000)) (GR : FnOk P w K mg base CX0 1 g gd ["value"] (spIsWhole w)) :
    FnOk P w K mg base CX0 2 f fd ["value"] (spShort w) := by
  refine D.F.ok scShort (fun vs H Q E h => ?_) (fun cdv A outer s H vs Q E hr h => ?_)
  · obtain ⟨x, d, rfl, _⟩ := h
    rfl
  obtain ⟨x, d, rfl, a, q⟩ := h
  have nd := scShort.nd
  refine ⟨_, pss_cons (ps_if (pt_not (pt_val (pe_call GR hr (by rfl) R.m R.F.kp R.b .nil pass0 (pa_cons (pv 0) pa_nil)))) (pss_one (ps_ret pe_bl)) pss_nil)
    (pss_cons (ps_par (i := 1) (j := 2) (by rfl) nd rfl rfl (by decide) rfl rfl (pa_cons (pe_callB call_abs (by rfl) B.abs bt_abs (pa_cons (pv 0) pa_nil)) (pa_cons pe_int pa_nil)) (by rfl))
    (pss_cons (ps_while PassesOwn.never (pt_cmpR op_ge (pv 1) (pe_gv gF (by rfl)) (nomark _))
      (pss_cons (ps_par (i := 1) (j := 2) (by rfl) nd rfl rfl (by decide) rfl rfl (pa_cons (pe_op op_fdivW (pv 1) (pe_gv gF (by rfl))) (pa_cons (pe_op op_add (pv 2) pe_int) pa_nil)) (by rfl))
      (pss_one (ps_if (pt_cmpR op_gt (pv 2) (pe_gv gM (by rfl)) (nomark _)) (pss_one (ps_ret pe_bl)) pss_nil))))
    (pss_one (ps_ret (pe_cmpR op_le (pe_op op_add (pv 2) (pe_callB call_len (by rfl) B.len bt_len (pa_cons (pe_callTy call_str_int (by rfl) B.str bt_str (pa_cons (pv 1) pa_nil)) pa_nil))) (pe_gv gM (by rfl)) (nomark _)))))), ?_⟩
  refine ⟨_, rfl, x, d, rfl, a, _, rfl, ?_⟩
  refine ite2 (fun c => ?_) (fun c => ?_)
  · have e : shortInt d = false := by
      cases d <;> first | rfl | simp [tyOf] at c
    rw [e] at q
    exact q
  · obtain ⟨i, rfl⟩ : ∃ i, d = .int i := by
      cases d <;> first | exact ⟨_, rfl⟩ | simp [tyOf] at c
    cases a
    have ea : (if i < 0 then -i else i) = ((i.natAbs : Nat) : Int) := by split <;> omega
    refine ⟨_, rfl, i, rfl, _, _, rfl, ?_⟩
    rw [ea]
    have q : Q (.bl (decide (i.natAbs < 10 ^ 4000))) H := q
    generalize i.natAbs = n at q
    refine ⟨fun m σ H' => ∃ k : Nat, k ≤ 62 ∧ m = 63 - k ∧ H' = H ∧ σ = [some (.int i), some (.int ((n / 10 ^ (64 * k) : Nat) : Int)), some (.int ((64 * k : Nat) : Int))] ∧ (k = 0 ∨ 0 < n / 10 ^ (64 * k)), ⟨63, 0, by omega, rfl, rfl, by rw [Nat.mul_zero, Nat.pow_zero, Nat.div_one]; rfl, .inl rfl⟩, ?_⟩
    rintro m σ H' ⟨k, hk, rfl, rfl, rfl, h0⟩
    refine ⟨_, rfl, _, _, rfl, rfl, _, rfl, ?_⟩
    have e1 : n / 10 ^ (64 * k) / 10 ^ 64 = n / 10 ^ (64 * (k + 1)) := by rw [Nat.div_div_eq_div_mul, ← Nat.pow_add]; rfl
    have e2 : ((n / 10 ^ (64 * k) : Nat) : Int) / (10 : Int) ^ 64 = ((n / 10 ^ (64 * (k + 1)) : Nat) : Int) := by
      rw [← e1, Int.natCast_ediv]; rfl
    refine ite2 (fun c => ?_) (fun c => ?_)
    · have c1 : (10 : Int) ^ 64 ≤ ((n / 10 ^ (64 * k) : Nat) : Int) := of_decide_eq_true c
      have c2 : 10 ^ 64 ≤ n / 10 ^ (64 * k) := by
        have : ((10 ^ 64 : Nat) : Int) ≤ ((n / 10 ^ (64 * k) : Nat) : Int) := c1
        exact Int.ofNat_le.mp this
      have c3 : 0 < n / 10 ^ (64 * (k + 1)) := by rw [← e1]; exact Nat.div_pos c2 (by decide)
      have c4 : 10 ^ (64 * (k + 1)) ≤ n := by
        have := (Nat.le_div_iff_mul_le (Nat.pow_pos (by decide))).mp c2
        rw [← Nat.pow_add] at this
        rw [show 64 * (k + 1) = 64 + 64 * k by omega]
        exact this
      refine ⟨fun σ' H'' => ∃ m', m' < 63 - k ∧ ∃ k : Nat, k ≤ 62 ∧ m' = 63 - k ∧ H'' = H' ∧ σ' = [some (.int i), some (.int ((n / 10 ^ (64 * k) : Nat) : Int)), some (.int ((64 * k : Nat) : Int))] ∧ (k = 0 ∨ 0 < n / 10 ^ (64 * k)), fun _ _ h => h, ?_⟩
      refine ⟨_, rfl, _, _, rfl, rfl, wide_div (b := 213) (by decide) (by decide) (by decide) (by decide), _, rfl, _, _, rfl, rfl, _, _, rfl, ?_⟩
      refine ⟨_, rfl, _, _, rfl, rfl, _, rfl, ?_⟩
      refine ite2 (fun c => ?_) (fun c => ?_)
      · have c5 : (4000 : Int) < ((64 * k : Nat) : Int) + 64 := of_decide_eq_true c
        have z : (decide (n < 10 ^ 4000)) = false := by
          refine decide_eq_false (Nat.not_lt.mpr (Nat.le_trans ?_ c4))
          exact Nat.pow_le_pow_right (by decide) (by omega)
        rw [z] at q
        exact q
      · have c5 : ¬ (4000 : Int) < ((64 * k : Nat) : Int) + 64 := of_decide_eq_false (Bool.eq_false_iff.mpr c)
        exact ⟨63 - (k + 1), by omega, k + 1, by omega, rfl, rfl, by rw [← e2]; rfl, .inr c3⟩
    · have c1 : ¬ (10 : Int) ^ 64 ≤ ((n / 10 ^ (64 * k) : Nat) : Int) := of_decide_eq_false (Bool.eq_false_iff.mpr c)
      have c2 : n / 10 ^ (64 * k) < 10 ^ 64 := by
        have : ¬ ((10 ^ 64 : Nat) : Int) ≤ ((n / 10 ^ (64 * k) : Nat) : Int) := c1
        exact Nat.lt_of_not_le fun z => this (Int.ofNat_le.mpr z)
      have z := short_end n k hk c2 h0
      have e3 : (Str.ofString (toString ((n / 10 ^ (64 * k) : Nat) : Int))).length = (numL (n / 10 ^ (64 * k))).length := by rw [TL.len_tl, TL.tl_num]
      have el : (Str.ofString (toString ((n / 10 ^ (64 * k) : Nat) : Int))).length ≤ sizeLine := by
        rw [e3, sizeLine_eq]
        exact Nat.le_trans (numL_len (by decide) c2) (by decide)
      have el2 : decide (((64 * k : Nat) : Int) + (((Str.ofString (toString ((n / 10 ^ (64 * k) : Nat) : Int))).length : Nat) : Int) ≤ 4000) = decide (n < 10 ^ 4000) := by
        rw [e3]
        refine decide_eq_decide.mpr (Iff.trans ?_ z)
        omega
      refine ⟨_, rfl, _, rfl, _, rfl, Nat.lt_trans (PySem.Flt.log2_lt_of (k := 213) (by decide) (Nat.lt_of_lt_of_le c2 (by decide))) (by decide), _, _, rfl, ⟨el, rfl⟩, _, _, rfl, rfl, _, _, rfl, rfl, ?_⟩
      show Q (.bl _) H'
      rw [el2]
      exact q
end
end K15
end

section
set_option Elab.async false
set_option linter.all false
set_option maxRecDepth 100000
set_option pp.maxSteps 900
namespace K15
open PySem PySem.Spec PyProof.Rows L2 TL

/-! ### bounds -/
theorem joinL_ge : ∀ ts : List Tx, (ts.map List.length).sum + ts.length ≤ (joinL [32] ts).length + 1
  | [] => by simp [joinL]
  | [a] => by simp [joinL]
  | a :: b :: r => by
    have := joinL_ge (b :: r)
    show ((a :: b :: r).map List.length).sum + (a :: b :: r).length ≤ (a ++ ([32] ++ joinL [32] (b :: r))).length + 1
    rw [List.map_cons, List.sum_cons, List.length_append, List.length_append, List.length_cons]
    simp only [List.length_singleton]
    omega
theorem sum_mem : ∀ {l : List Nat} {n : Nat}, n ∈ l → n ≤ l.sum
  | a :: r, n, h => by
    rw [List.sum_cons]
    rcases List.mem_cons.mp h with e | h
    · omega
    · have := sum_mem h
      omega
theorem txt_tup_len (xs : List PyData) : xs.length < (txt (.tuple xs)).length ∧ ∀ x ∈ xs, (txt x).length < (txt (.tuple xs)).length := by
  have e : (txt (.tuple xs)).length = (joinL [32] (txts xs)).length + 2 := by
    simp only [txt, List.length_cons, List.length_append, List.length_nil]
  have g := joinL_ge (txts xs)
  rw [txts_map] at g e
  rw [List.length_map] at g
  refine ⟨by omega, fun x hx => ?_⟩
  have := sum_mem (l := (xs.map txt).map List.length) (n := (txt x).length) (List.mem_map.mpr ⟨_, List.mem_map.mpr ⟨x, hx, rfl⟩, rfl⟩)
  have : 0 < xs.length := List.length_pos_of_mem hx
  omega
theorem txt_dict_len (kvs : List (PyData × PyData)) : kvs.length < (txt (.dict kvs)).length ∧ ∀ e ∈ kvs, (txt e.1).length < (txt (.dict kvs)).length ∧ (txt e.2).length < (txt (.dict kvs)).length := by
  have e : (txt (.dict kvs)).length = (joinL [32] ((byT kvs).map prT)).length + 2 := by
    rw [txt_dict]
    simp only [List.length_cons, List.length_append, List.length_nil]
  have g := joinL_ge ((byT kvs).map prT)
  have p : (byT kvs).Perm kvs := srtE_perm _ kvs
  rw [List.length_map, p.length_eq] at g
  refine ⟨by omega, fun x hx => ?_⟩
  have h1 := sum_mem (l := ((byT kvs).map prT).map List.length) (n := (prT x).length) (List.mem_map.mpr ⟨_, List.mem_map.mpr ⟨x, p.mem_iff.mpr hx, rfl⟩, rfl⟩)
  have h2 : (prT x).length = (txt x.1).length + ((txt x.2).length + 1) := by
    show (txt x.1 ++ 32 :: txt x.2).length = _
    rw [List.length_append, List.length_cons]
  have : 0 < kvs.length := List.length_pos_of_mem hx
  constructor <;> omega
theorem same_upd {H0 H : Hp} {D : Addr} {o : HO} (h : H0 D = none) (s : Same H0 H) : Same H0 (upd H D o) := fun b u q => by
  rw [upd_ne (ne_of_none q h)]
  exact s b u q
theorem walk_keyr {w : World} {d : Addr} {o : Obj} {ps : List (V × V)} : Walk (Ikr w d o ps) ps.length (fun H => Seal w H d o ps) (fun i H x H' => H' = H ∧ ∃ p, ps[i]? = some p ∧ x = p.1) :=
  ⟨fun _ _ hi q => ⟨q, hi⟩, fun _ q => ⟨q, Nat.le_refl _⟩, fun _ _ _ _ _ _ y => y⟩
theorem walk_itemr {w : World} {d : Addr} {o : Obj} {ps : List (V × V)} : Walk (Iir w d o ps) ps.length (fun H => Seal w H d o ps) (fun i H x H' => ∃ T p, ps[i]? = some p ∧ H T = none ∧ x = .ref T ∧ H' = upd H T (.tup [p.1, p.2])) :=
  ⟨fun _ _ hi q => ⟨q, hi⟩, fun _ q => ⟨q, Nat.le_refl _⟩, fun _ _ _ _ _ _ y => y⟩
/-- the pairs of a dict -/
theorem AtKv.pairs {w : World} {H : Hp} : ∀ {es : List En} {kvs : List (PyData × PyData)}, AtKv w H es kvs → ∃ ps : List (V × V), Rels es ps ∧ ps.length = kvs.length ∧ ∀ (i : Nat) (p : V × V), ps[i]? = some p → ∃ e, kvs[i]? = some e ∧ At w H p.1 e.1 ∧ At w H p.2 e.2
  | _, _, .nil => ⟨[], .nil, rfl, fun i p e => by simp at e⟩
  | _, _, .cons (kx := kx) (vx := vx) r1 a1 r2 a2 t => by
    obtain ⟨ps, h1, h2, h3⟩ := AtKv.pairs t
    refine ⟨(kx, vx) :: ps, .cons ⟨r1, r2⟩ h1, by simp [h2], fun i p e => ?_⟩
    cases i with
    | zero =>
      have : p = (kx, vx) := by simpa using e.symm
      subst this
      exact ⟨_, rfl, a1, a2⟩
    | succ i => exact h3 i p (by simpa using e)
theorem At.sealed {w : World} {H : Hp} {x : V} {kvs : List (PyData × PyData)} (a : At w H x (.dict kvs)) : ∃ d o ps, x = .ref d ∧ ps.length = kvs.length ∧ (∀ H', Keep H H' → Seal w H' d o ps) ∧ ∀ (i : Nat) (p : V × V), ps[i]? = some p → ∃ e, kvs[i]? = some e ∧ At w H p.1 e.1 ∧ At w H p.2 e.2 := by
  obtain ⟨d, o, u, es, rfl, hq, ho, hm, ak⟩ := a.inv_dic
  obtain ⟨ps, h1, h2, h3⟩ := ak.pairs
  exact ⟨d, o, ps, rfl, h2, fun H' k => ⟨u, es, k.frzs _ _ _ hq, ho, hm, h1⟩, h3⟩
end K15
end

section
set_option Elab.async false
set_option linter.all false
set_option maxRecDepth 100000
set_option pp.maxSteps 900
namespace K15
open PySem PySem.Spec PyProof.Rows L2 TL

abbrev sPlain : Stmt := topS 16
theorem scPlain : FnScope ["value", "left", "deep", "sign", "key", "member"] ["value", "left"] (defScope sPlain) := ⟨rfl, rfl, rfl, by decide +kernel, rfl, by decide +kernel, by decide +kernel⟩
def big : Nat := 2 ^ 24
def spPlain (w : World) (n : Nat) : Sp := fun vs H Q _ => ∃ (x : V) (d : PyData) (left : Nat), vs = [x, .int left] ∧ left < n ∧ n ≤ 40 ∧ At w H x d ∧ (txt d).length < big ∧ ∀ H', Same H H' → Q (.bl (plain left d)) H'
theorem take_snoc {z : Str} {i c : Nat} (h : z.cps[i]? = some c) : (tl z).take (i + 1) = (tl z).take i ++ [c] := by
  have e : (tl z)[i]? = some c := by rw [← h]; exact Array.getElem?_toList ..
  rw [List.take_succ, e]
  rfl
theorem sig_in (c : Nat) : decide (c ∈ (Str.ofString "abcdefghijklmnopqrstuvwxyz ").cps.toList) = isSig c := by
  have h1 : ∀ c ∈ (Str.ofString "abcdefghijklmnopqrstuvwxyz ").cps.toList, isSig c = true := by decide +kernel
  have h2 : ∀ c < 128, isSig c = true → c ∈ (Str.ofString "abcdefghijklmnopqrstuvwxyz ").cps.toList := by decide +kernel
  cases e : isSig c with
  | true => exact decide_eq_true (h2 c (isSig_lt e) e)
  | false => exact decide_eq_false fun h => by rw [h1 c h] at e; cases e
theorem tYes_if {σ : St} {H : Hp} {A B : Hp → Prop} (h : A H) : tYes σ H (fun b H1 => if b = true then A H1 else B H1) := h
theorem none_at {P : Program} {w : World} {K : PySem.W.Frag} {mg : Str → Option Value} {base : Heap} {f : Addr} {fd : FuncData} {ps : List Str} {sp : Sp} {k : Nat} (no : ∀ vs H Q E, ¬ sp vs H Q E) : FnOk P w K mg base CX0 k f fd ps sp :=
  ⟨fun vs H Q E h => absurd h (no vs H Q E), fun A outer s H args us vs Q E _ _ _ _ h => absurd h (no vs H Q E)⟩
section
variable {P : Program} {w : World} {K : PySem.W.Frag} {mg : Str → Option Value} {base : Heap} {f g : Addr} {fd gd : FuncData}
theorem ok_plain1 {n : Nat} (D : Df K mg "is_plain_in" sPlain ["value", "left"] f fd) (R : Df K mg "is_short_whole" sShort ["value"] g gd) (B : Bn mg) (gS : Gv mg "SIGNS" (.str "abcdefghijklmnopqrstuvwxyz ")) (gK : Gv mg "MOST_KEY" (.int 6)) (gM : Gv mg "MOST_TEXT" (.int 4000))
    (GR : FnOk P w K mg base CX0 2 g gd ["value"] (spShort w)) (G : FnOk P w K mg base CX0 (n + 2) f fd ["value", "left"] (spPlain w n)) :
    FnOk P w K mg base CX0 (n + 3) f fd ["value", "left"] (spPlain w (n + 1)) := by
  refine D.F.ok scPlain (fun vs H Q E h => ?_) (fun cdv A outer s H vs Q E hr h => ?_)
  · obtain ⟨x, d, left, rfl, _⟩ := h
    rfl
  obtain ⟨x, d, left, rfl, hl, h40, a, hz, q⟩ := h
  have nd := scPlain.nd
  refine ⟨_, pss_cons (ps_if (pw_or (pt_cmpR op_isN (pv 0) pe_non (nomark _)) (pw_or1 (pt_val (pe_call GR (hr.mono (by omega)) (by rfl) R.m R.F.kp R.b .nil pass0 (pa_cons (pv 0) pa_nil))))).pt (pss_one (ps_ret pe_bl)) pss_nil)
    (pss_cons (ps_if (pt_val (pe_callB call_isiA (by rfl) B.isinstance bt_isinstance (pa_cons (pv 0) (pa_cons (pe_bltn (v := .ty "str") (by rfl) B.str bt_str rfl) pa_nil))))
      (pss_one (ps_ret (pe_and (pe_cmpR op_le (pe_callB call_len (by rfl) B.len bt_len (pa_cons (pv 0) pa_nil)) (pe_gv gM (by rfl)) (nomark _))
        (pe_one (pe_callB (cr_all (by rfl)) (by rfl) B.all bt_all (pa_cons (pe_lc (own := [("sign", 3)]) (g := gName 3) (tt := tYes) rfl nd (pi_str (pv 0)) (blkOk_by (N := ["value", "left", "deep", "sign", "key", "member"]) (sc := defScope sPlain) (by decide +kernel))
          (fun _ _ _ _ _ => pg_name (i := 3) nd rfl (Or.inl rfl)) (fun _ _ _ _ _ => pts_nil) (fun _ _ _ _ _ => pe_cmpR op_in_sign (pv 3) (pe_gv gS (by rfl)) (by rfl))) pa_nil)))))) pss_nil)
    (pss_cons (ps_if (pw_and (pt_val (pe_callB call_isiA (by rfl) B.isinstance bt_isinstance (pa_cons (pv 0) (pa_cons (pe_bltn (v := .ty "dict") (by rfl) B.dict bt_dict rfl) pa_nil)))) (pw_and1 (pt_cmpR op_gt (pv 1) pe_int (nomark _)))).pt
      (pss_cons (ps_set (i := 2) nd rfl (.inr rfl) (pe_callB (call_min2 (by rfl)) (by rfl) B.min bt_min (pa_cons (pe_op op_sub (pv 1) pe_int) (pa_cons (pe_gv gK (by rfl)) pa_nil))))
      (pss_one (ps_ret (pe_callB (cr_all (by rfl)) (by rfl) B.all bt_all (pa_cons (pe_lc (own := [("key", 4), ("member", 5)]) (g := gTup K 2 (gCons (gName 4) (gCons (gName 5) gNil))) (tt := tYes) rfl nd (pi_itemr (pv 0)) (blkOk_by (N := ["value", "left", "deep", "sign", "key", "member"]) (sc := defScope sPlain) (by decide +kernel))
          (fun _ _ _ _ _ => pg_tup (by rfl) (pgs_cons (pg_name (i := 4) nd rfl (Or.inl rfl)) (pgs_cons (pg_name (i := 5) nd rfl (Or.inl rfl)) pgs_nil))) (fun _ _ _ _ _ => pts_nil)
          (fun _ _ _ _ _ => pe_and (pe_call G hr (by rfl) D.m D.F.kp D.b .nil pass0 (pa_cons (pv 4) (pa_cons (pv 2) pa_nil))) (pe_one (pe_call G hr (by rfl) D.m D.F.kp D.b .nil pass0 (pa_cons (pv 5) (pa_cons (pe_op op_sub (pv 1) pe_int) pa_nil)))))) pa_nil))))) pss_nil)
    (pss_one (ps_ret (pe_and (pe_callB call_isiA (by rfl) B.isinstance bt_isinstance (pa_cons (pv 0) (pa_cons (pe_bltn (v := .ty "tuple") (by rfl) B.tuple bt_tuple rfl) pa_nil)))
      (pe_and (pe_cmpR op_gt (pv 1) pe_int (nomark _)) (pe_one (pe_callB (cr_all (by rfl)) (by rfl) B.all bt_all (pa_cons (pe_lc (own := [("member", 5)]) (g := gName 5) (tt := tYes) rfl nd (pi_tup (pv 0)) (blkOk_by (N := ["value", "left", "deep", "sign", "key", "member"]) (sc := defScope sPlain) (by decide +kernel))
          (fun _ _ _ _ _ => pg_name (i := 5) nd rfl (Or.inl rfl)) (fun _ _ _ _ _ => pts_nil) (fun _ _ _ _ _ => pe_call G hr (by rfl) D.m D.F.kp D.b .nil pass0 (pa_cons (pv 5) (pa_cons (pe_op op_sub (pv 1) pe_int) pa_nil)))) pa_nil))))))))), ?_⟩
  refine ⟨_, rfl, rfl, _, rfl, ?_⟩
  refine ite2 (fun c => ?_) (fun c => ?_)
  · have e : x = .non := of_decide_eq_true c
    subst e
    cases a
    exact q H fun _ _ h => h
  have hx : x ≠ .non := fun e => c (decide_eq_true e)
  refine ⟨_, rfl, x, d, rfl, a, _, rfl, ?_⟩
  refine ite2 (fun c1 => ?_) (fun c1 => ?_)
  · have e : plain left d = true := by
      cases d <;> first | (simp [shortInt] at c1; done) | (simp only [shortInt] at c1; simp only [plain]; exact c1)
    have := q H fun _ _ h => h
    rw [e] at this
    exact this
  refine ⟨_, rfl, x, d, _, _, rfl, a, kit_str d, _, rfl, ?_⟩
  refine ite2 (fun c2 => ?_) (fun c2 => ?_)
  · obtain ⟨z, rfl⟩ : ∃ z, d = .str z := by
      cases d <;> first | exact ⟨_, rfl⟩ | simp [tyOf] at c2
    cases a
    have hz1 : z.length ≤ sizeLine := by
      have e : (txt (.str z)).length = z.length + 2 := by simp only [txt, List.length_cons, List.length_append, List.length_nil, ← TL.len_tl]
      rw [e] at hz
      rw [sizeLine_eq]
      unfold big at hz
      omega
    refine ⟨_, rfl, _, _, rfl, ⟨hz1, rfl⟩, _, _, rfl, rfl, _, rfl, ?_⟩
    have e1 : decide (((z.length : Nat) : Int) ≤ 4000) = decide (z.length ≤ 4000) := decide_eq_decide.mpr (by omega)
    have e2 : plain left (.str z) = (decide (z.length ≤ 4000) && (tl z).all isSig) := by simp only [plain, leafStr]
    rw [e1]
    rw [e2] at q
    refine ite2 (fun c3 => ?_) (fun c3 => ?_)
    · rw [c3, Bool.true_and] at q
      have hz2 : z.length ≤ 4000 := of_decide_eq_true c3
      refine ⟨_, rfl, z, rfl, fun D hD => ?_⟩
      refine lc_it walk_str (fun i H' => H' D = some (.lst (((tl z).take i).map fun c => V.bl (isSig c))) ∧ Same H H') ⟨upd_same, Same.new hD⟩ (fun _ _ _ _ => trivial) (fun i y H1 H2 hi hp hy => ?_) (fun H' hp => ?_)
      · obtain ⟨rfl, c, hc, rfl⟩ := hy
        refine ⟨rfl, ?_⟩
        refine tYes_if ?_
        refine ⟨_, rfl, c, _, rfl, rfl, _, hp.1, ?_, ?_, same_upd hD hp.2⟩
        · rw [List.length_map, List.length_take, sizeLine_eq, ← TL.len_tl]; omega
        · rw [upd_same, take_snoc hc, List.map_append, List.map_singleton, ← sig_in c]
      · refine ⟨D, (tl z).map isSig, rfl, SqL.of ?_, ?_⟩
        · rw [hp.1, List.take_of_length_le (by rw [← TL.len_tl]; exact Nat.le_refl _), List.map_map]
          rfl
        · have e3 : ((tl z).map isSig).all id = (tl z).all isSig := by rw [List.all_map]; rfl
          rw [e3]
          exact q H' hp.2
    · rw [Bool.eq_false_iff.mpr c3, Bool.false_and] at q
      exact q H fun _ _ h => h
  refine ⟨_, rfl, x, d, _, _, rfl, a, kit_dict d, _, rfl, ?_⟩
  refine ite2 (fun c3 => ?_) (fun c3 => ?_)
  · obtain ⟨kvs, rfl⟩ : ∃ kvs, d = .dict kvs := by
      cases d <;> first | exact ⟨_, rfl⟩ | simp [tyOf] at c3
    have hb := txt_dict_len kvs
    have ep : plain left (.dict kvs) = (decide (0 < left) && plainKv (left - 1) kvs) := by simp only [plain]
    rw [ep] at q
    refine ⟨_, rfl, _, _, rfl, rfl, _, rfl, ?_⟩
    refine ite2 (fun c4 => ?_) (fun c4 => ?_)
    · have h0 : 0 < left := by have : (0 : Int) < left := of_decide_eq_true c4; omega
      rw [decide_eq_true h0, Bool.true_and, plainKv_all] at q
      obtain ⟨dd, o, ps, rfl, hlen, hse, hps⟩ := a.sealed
      refine ⟨_, rfl, _, _, rfl, rfl, _, _, rfl, ?_⟩
      have e1 : (if (6 : Int) < (left : Int) - 1 then (6 : Int) else (left : Int) - 1) = ((min (left - 1) 6 : Nat) : Int) := by split <;> omega
      rw [e1]
      refine ⟨_, rfl, dd, o, ps, rfl, hse H (Keep.refl H), fun D hD => ?_⟩
      refine lc_it walk_itemr (fun i H' => H' D = some (.lst ((kvs.take i).map fun e => V.bl (plain (min (left - 1) 6) e.1 && plain (left - 1) e.2))) ∧ Same H H') ⟨upd_same, Same.new hD⟩ (fun i H' _ hp => hse H' (Same.keep hp.2)) (fun i y H1 H2 hi hp hy => ?_) (fun H' hp => ?_)
      · obtain ⟨T, p, hp1, hT, rfl, rfl⟩ := hy
        obtain ⟨e, he, a1, a2⟩ := hps i p hp1
        have sT := Same.trans hp.2 (Same.new (o := .tup [p.1, p.2]) hT)
        refine ⟨T, _, rfl, SqT.of upd_same, rfl, _, _, rfl, _, _, rfl, rfl, rfl, ?_⟩
        have b := hb.2 e (List.mem_of_getElem? he)
        have hDn : ∀ {u}, upd H1 T (.tup [p.1, p.2]) D = some u → H1 D = some u := fun {u} q => by
          rw [upd_ne (ne_of_none hp.1 hT)] at q
          exact q
        have fin : ∀ H3 v, v = (plain (min (left - 1) 6) e.1 && plain (left - 1) e.2) → Same (upd H1 T (.tup [p.1, p.2])) H3 → ∃ acc, H3 D = some (.lst acc) ∧ acc.length < sizeLine ∧ upd H3 D (.lst (acc ++ [V.bl v])) D = some (.lst ((kvs.take (i + 1)).map fun e => V.bl (plain (min (left - 1) 6) e.1 && plain (left - 1) e.2))) ∧ Same H (upd H3 D (.lst (acc ++ [V.bl v]))) := fun H3 v ev s3 => by
          refine ⟨_, s3 _ _ (by rw [upd_ne (ne_of_none hp.1 hT)]; exact hp.1), ?_, ?_, same_upd hD (Same.trans sT s3)⟩
          · rw [List.length_map, List.length_take, sizeLine_eq]
            unfold big at hz
            omega
          · rw [upd_same, List.take_succ, he, ev]
            simp
        refine tYes_if ?_
        refine ⟨_, rfl, _, rfl, p.1, e.1, _, rfl, by omega, by omega, a1.keep (Same.keep sT), Nat.lt_trans b.1 hz, fun H3 s3 => ⟨_, rfl, ?_⟩⟩
        refine ite2 (fun c5 => ?_) (fun c5 => ?_)
        · refine ⟨_, rfl, _, rfl, _, _, rfl, rfl, p.2, e.2, left - 1, ?_, by omega, by omega, a2.keep (Same.keep (Same.trans sT s3)), Nat.lt_trans b.2 hz, fun H4 s4 => fin H4 _ (by rw [c5, Bool.true_and]) (Same.trans s3 s4)⟩
          have : (left : Int) - 1 = ((left - 1 : Nat) : Int) := by omega
          show [p.2, V.int ((left : Int) - 1)] = _
          rw [this]
        · exact fin H3 _ (by rw [Bool.eq_false_iff.mpr c5, Bool.false_and]) s3
      · refine ⟨D, kvs.map fun e => plain (min (left - 1) 6) e.1 && plain (left - 1) e.2, rfl, SqL.of ?_, ?_⟩
        · rw [hp.1, List.take_of_length_le (by omega), List.map_map]
          rfl
        · rw [List.all_map]
          exact q H' hp.2
    · rw [decide_eq_false (by have : ¬ (0 : Int) < left := of_decide_eq_false (Bool.eq_false_iff.mpr c4); omega), Bool.false_and] at q
      refine ⟨_, rfl, _, _, _, _, rfl, a, kit_tuple _, _, rfl, ?_⟩
      refine ite2 (fun c => ?_) (fun c => ?_)
      · simp [tyOf] at c
      · exact q H fun _ _ h => h
  refine ⟨_, rfl, x, d, _, _, rfl, a, kit_tuple d, _, rfl, ?_⟩
  refine ite2 (fun c4 => ?_) (fun c4 => ?_)
  · obtain ⟨xs, rfl⟩ : ∃ xs, d = .tuple xs := by
      cases d <;> first | exact ⟨_, rfl⟩ | simp [tyOf] at c4
    have hb := txt_tup_len xs
    have ep : plain left (.tuple xs) = (decide (0 < left) && plains (left - 1) xs) := by simp only [plain]
    rw [ep] at q
    refine ⟨_, rfl, _, _, rfl, rfl, _, rfl, ?_⟩
    refine ite2 (fun c5 => ?_) (fun c5 => ?_)
    · have h0 : 0 < left := by have : (0 : Int) < left := of_decide_eq_true c5; omega
      rw [decide_eq_true h0, Bool.true_and, plains_all] at q
      obtain ⟨p, vs, rfl, hp, hv⟩ := a.inv_tup
      refine ⟨_, rfl, p, rfl, ⟨vs, SqT.of hp⟩, fun D hD => ?_⟩
      refine lc_tup (xs := vs) (fun i H' => H' D = some (.lst ((xs.take i).map fun e => V.bl (plain (left - 1) e))) ∧ Same H H') ⟨upd_same, Same.new hD⟩ (fun i H' _ h' => SqT.of (h'.2 _ _ hp)) (fun i y H1 hy hq => ?_) (fun H' hq => ?_)
      · obtain ⟨e, he, a1⟩ := hv.get hy
        have b := hb.2 e (List.mem_of_getElem? he)
        have hi : i < vs.length := (List.getElem?_eq_some_iff.mp hy).1
        have hlen := hv.length
        refine ⟨rfl, ?_⟩
        refine tYes_if ?_
        refine ⟨_, rfl, _, rfl, _, _, rfl, rfl, y, e, left - 1, ?_, by omega, by omega, a1.keep (Same.keep hq.2), Nat.lt_trans b hz, fun H3 s3 => ?_⟩
        · have : (left : Int) - 1 = ((left - 1 : Nat) : Int) := by omega
          show [y, V.int ((left : Int) - 1)] = _
          rw [this]
        · refine ⟨_, s3 _ _ hq.1, ?_, ?_, same_upd hD (Same.trans hq.2 s3)⟩
          · rw [List.length_map, List.length_take, sizeLine_eq]
            unfold big at hz
            omega
          · rw [upd_same, List.take_succ, he]
            simp
      · have hlen := hv.length
        refine ⟨D, xs.map fun e => plain (left - 1) e, rfl, SqL.of ?_, ?_⟩
        · rw [hq.1, List.take_of_length_le (by omega), List.map_map]
          rfl
        · rw [List.all_map]
          exact q H' hq.2
    · rw [decide_eq_false (by have : ¬ (0 : Int) < left := of_decide_eq_false (Bool.eq_false_iff.mpr c5); omega), Bool.false_and] at q
      exact q H fun _ _ h => h
  · have e : plain left d = false := by
      cases d <;> first | rfl | (simp [tyOf] at c2; done) | (simp [tyOf] at c3; done) | (simp [tyOf] at c4; done) | (simp [shortInt] at c1; simp [plain, c1]; done) | skip
      all_goals first | exact absurd (by cases a; rfl) hx | simp [plain]
    rw [e] at q
    exact q H fun _ _ h => h
theorem ok_plain (D : Df K mg "is_plain_in" sPlain ["value", "left"] f fd) (R : Df K mg "is_short_whole" sShort ["value"] g gd) (B : Bn mg) (gS : Gv mg "SIGNS" (.str "abcdefghijklmnopqrstuvwxyz ")) (gK : Gv mg "MOST_KEY" (.int 6)) (gM : Gv mg "MOST_TEXT" (.int 4000))
    (GR : FnOk P w K mg base CX0 2 g gd ["value"] (spShort w)) : ∀ n : Nat, FnOk P w K mg base CX0 (n + 2) f fd ["value", "left"] (spPlain w n)
  | 0 => none_at fun vs H Q E h => by
    obtain ⟨_, _, _, _, z, _⟩ := h
    omega
  | n + 1 => ok_plain1 D R B gS gK gM GR (ok_plain D R B gS gK gM GR n)
end
end K15
end

section
set_option Elab.async false
set_option linter.all false
set_option maxRecDepth 100000
set_option pp.maxSteps 900
namespace K15
open PySem PySem.Spec PyProof.Rows L2 TL

section
variable {X : Cx}
/-- str(i), a number of at most 4,300 digits -/
theorem call_str_big (hc : X.calm = true) (hnd : X.base.NoDigits) : CallR X (.type "str") (fun xs H Q => ∃ i, xs = [.int i] ∧ leafInt i = true ∧ Q (.str (toString i)) H) := by
  intro pins s σ H xs us Q I r h
  obtain ⟨i, rfl, hz, q⟩ := h
  obtain ⟨u, rfl, t, rfl⟩ := vals1 r
  refine str_of_int_or (I.ok.hd hc) (hnd.keeps I.bk) (fun _ => ⟨.str _, H, I.tok _, ⟨_, rfl⟩, q⟩) (fun z => absurd (small43 hz) (Nat.not_lt.mpr z))
end
theorem depthAll_mem : ∀ {xs : List PyData} {x : PyData}, x ∈ xs → x.depth ≤ PyData.depthAll xs
  | y :: r, x, h => by
    simp only [PyData.depthAll]
    rcases List.mem_cons.mp h with e | h
    · rw [e]; omega
    · have := depthAll_mem h
      omega
theorem txt_pair_len (kvs : List (PyData × PyData)) : ∀ e ∈ kvs, (txt e.1).length + (txt e.2).length + 1 < (txt (.dict kvs)).length := fun x hx => by
  have e : (txt (.dict kvs)).length = (joinL [32] ((byT kvs).map prT)).length + 2 := by
    rw [txt_dict]
    simp only [List.length_cons, List.length_append, List.length_nil]
  have g := joinL_ge ((byT kvs).map prT)
  have p : (byT kvs).Perm kvs := srtE_perm _ kvs
  rw [List.length_map, p.length_eq] at g
  have h1 := sum_mem (l := ((byT kvs).map prT).map List.length) (n := (prT x).length) (List.mem_map.mpr ⟨_, List.mem_map.mpr ⟨x, p.mem_iff.mpr hx, rfl⟩, rfl⟩)
  have h2 : (prT x).length = (txt x.1).length + ((txt x.2).length + 1) := by
    show (txt x.1 ++ 32 :: txt x.2).length = _
    rw [List.length_append, List.length_cons]
  have : 0 < kvs.length := List.length_pos_of_mem hx
  omega
/-! ### joined texts -/
theorem join_fact {ys : List Str} {ts : List Tx} (e : ys.map tl = ts) : tl (Txt.join (Str.ofString " ") ys) = joinL [32] ts ∧ (Txt.join (Str.ofString " ") ys).length = (joinL [32] ts).length ∧ (ys.map (·.length)).sum + ys.length * (Str.ofString " ").length ≤ (joinL [32] ts).length + 1 := by
  have h1 : tl (Txt.join (Str.ofString " ") ys) = joinL [32] ts := by
    rw [TL.join_eq, TL.tl_join, e]
    rfl
  refine ⟨h1, by rw [TL.len_tl, h1], ?_⟩
  have g := joinL_ge ts
  subst e
  have e1 : (ys.map tl).map List.length = ys.map (·.length) := by
    rw [List.map_map]
    exact List.map_congr_left fun y _ => (TL.len_tl y).symm
  rw [e1, List.length_map] at g
  have e2 : (Str.ofString " ").length = 1 := by decide +kernel
  rw [e2, Nat.mul_one]
  exact g
theorem PairsT.keep {H H' : Hp} {ts : List Addr} (k : ∀ t ∈ ts, ∀ xs, H t = some (.tup xs) → H' t = some (.tup xs)) (p : PairsT H ts) : PairsT H' ts ∧ ts.map (pairT H') = ts.map (pairT H) := by
  refine ⟨fun t ht => ?_, List.map_congr_left fun t ht => ?_⟩
  · obtain ⟨a, b, h⟩ := p t ht
    exact ⟨a, b, k t ht _ h⟩
  · obtain ⟨a, b, h⟩ := p t ht
    rw [pairT_of h, pairT_of (k t ht _ h)]
/-- the two texts of a pair -/
abbrev tl2 (p : Str × Str) : Tx × Tx := (tl p.1, tl p.2)
theorem sorted_txt {kvs : List (PyData × PyData)} {ps : List (Str × Str)} (e : ps.map tl2 = kvs.map fun e => (txt e.1, txt e.2)) :
    joinL [32] ((srtE fstT ps).map fun p => tl p.1 ++ 32 :: tl p.2) = joinL [32] ((srtE Prod.fst (txtKv kvs)).map fun p => p.1 ++ 32 :: p.2) := by
  rw [txtKv_map, ← e, srtE_map, List.map_map]
  rfl
theorem fst_nodup {kvs : List (PyData × PyData)} {ps : List (Str × Str)} (e : ps.map tl2 = kvs.map fun e => (txt e.1, txt e.2)) (h : ((txtKv kvs).map (·.1)).Nodup) : (ps.map fstT).Nodup := by
  rw [txtKv_map, ← e, List.map_map] at h
  exact h
/-! ### text_in -/
abbrev sTextIn : Stmt := topS 17
abbrev sPlainText : Stmt := topS 28
theorem scTextIn : FnScope ["value", "pairs", "key", "member"] ["value"] (defScope sTextIn) := ⟨rfl, rfl, rfl, by decide +kernel, rfl, by decide +kernel, by decide +kernel⟩
def spText (w : World) (n : Nat) : Sp := fun vs H Q _ => ∃ (x : V) (d : PyData), vs = [x] ∧ d.depth < n ∧ At w H x d ∧ okD d = true ∧ (txt d).length < big ∧ ∀ H' z, Same H H' → tl z = txt d → Q (.str z) H'
section
variable {P : Program} {w : World} {K : PySem.W.Frag} {mg : Str → Option Value} {base : Heap} {f g : Addr} {fd gd : FuncData}
theorem ok_textIn1 {n : Nat} (D : Df K mg "text_in" sTextIn ["value"] f fd) (B : Bn mg) (hnd : base.NoDigits) (gN : Gv mg "NONE" (.str "none")) (gQ : Gv mg "QUOTE" (.str "\""))
    (G : FnOk P w K mg base CX0 n f fd ["value"] (spText w n)) :
    FnOk P w K mg base CX0 (n + 1) f fd ["value"] (spText w (n + 1)) := by
  refine D.F.ok scTextIn (fun vs H Q E h => ?_) (fun cdv A outer s H vs Q E hr h => ?_)
  · obtain ⟨x, d, rfl, _⟩ := h
    rfl
  obtain ⟨x, d, rfl, hl, a, hk, hz, q⟩ := h
  have nd := scTextIn.nd
  refine ⟨_, pss_cons (ps_if (pt_cmpR op_isN (pv 0) pe_non (nomark _)) (pss_one (ps_ret (pe_gv gN (by rfl)))) pss_nil)
    (pss_cons (ps_if (pt_val (pe_callB call_isiA (by rfl) B.isinstance bt_isinstance (pa_cons (pv 0) (pa_cons (pe_bltn (v := .ty "str") (by rfl) B.str bt_str rfl) pa_nil))))
      (pss_one (ps_ret (pe_op op_add_str (pe_op op_add_str (pe_gv gQ (by rfl)) (pv 0)) (pe_gv gQ (by rfl))))) pss_nil)
    (pss_cons (ps_if (pt_val (pe_callB call_isiA (by rfl) B.isinstance bt_isinstance (pa_cons (pv 0) (pa_cons (pe_bltn (v := .ty "tuple") (by rfl) B.tuple bt_tuple rfl) pa_nil))))
      (pss_one (ps_ret (pe_op op_add_str (pe_op op_add_str pe_str (pe_join pe_str (pe_lc (own := [("member", 3)]) (g := gName 3) (tt := tYes) rfl nd (pi_tup (pv 0)) (blkOk_by (N := ["value", "pairs", "key", "member"]) (sc := defScope sTextIn) (by decide +kernel))
          (fun _ _ _ _ _ => pg_name (i := 3) nd rfl (Or.inl rfl)) (fun _ _ _ _ _ => pts_nil) (fun _ _ _ _ _ => pe_call G hr (by rfl) D.m D.F.kp D.b .nil pass0 (pa_cons (pv 3) pa_nil))))) pe_str))) pss_nil)
    (pss_cons (ps_if (pt_val (pe_callB call_isiA (by rfl) B.isinstance bt_isinstance (pa_cons (pv 0) (pa_cons (pe_bltn (v := .ty "dict") (by rfl) B.dict bt_dict rfl) pa_nil))))
      (pss_cons (ps_set (i := 1) nd rfl (.inl rfl) (pe_callB cr_sortedTT (by rfl) B.sorted bt_sorted (pa_cons (pe_lc (own := [("key", 2), ("member", 3)]) (g := gTup K 2 (gCons (gName 2) (gCons (gName 3) gNil))) (tt := tYes) rfl nd (pi_itemr (pv 0)) (blkOk_by (N := ["value", "pairs", "key", "member"]) (sc := defScope sTextIn) (by decide +kernel))
          (fun _ _ _ _ _ => pg_tup (by rfl) (pgs_cons (pg_name (i := 2) nd rfl (Or.inl rfl)) (pgs_cons (pg_name (i := 3) nd rfl (Or.inl rfl)) pgs_nil))) (fun _ _ _ _ _ => pts_nil)
          (fun _ _ _ _ _ => pe_tup (pa_cons (pe_call G hr (by rfl) D.m D.F.kp D.b .nil pass0 (pa_cons (pv 2) pa_nil)) (pa_cons (pe_call G hr (by rfl) D.m D.F.kp D.b .nil pass0 (pa_cons (pv 3) pa_nil)) pa_nil)))) pa_nil)))
      (pss_one (ps_ret (pe_op op_add_str (pe_op op_add_str pe_str (pe_join pe_str (pe_lc (own := [("key", 2), ("member", 3)]) (g := gTup K 2 (gCons (gName 2) (gCons (gName 3) gNil))) (tt := tYes) rfl nd (pi_list (pv 1)) (blkOk_by (N := ["value", "pairs", "key", "member"]) (sc := defScope sTextIn) (by decide +kernel))
          (fun _ _ _ _ _ => pg_tup (by rfl) (pgs_cons (pg_name (i := 2) nd rfl (Or.inl rfl)) (pgs_cons (pg_name (i := 3) nd rfl (Or.inl rfl)) pgs_nil))) (fun _ _ _ _ _ => pts_nil)
          (fun _ _ _ _ _ => pe_op op_add_str (pe_op op_add_str (pv 2) pe_str) (pv 3))))) pe_str)))) pss_nil)
    (pss_one (ps_ret (pe_callTy (call_str_big (by rfl) hnd) (by rfl) B.str bt_str (pa_cons (pv 0) pa_nil))))))), ?_⟩
  refine ⟨_, rfl, rfl, _, rfl, ?_⟩
  refine ite2 (fun c => ?_) (fun c => ?_)
  · have e : x = .non := of_decide_eq_true c
    subst e
    cases a
    exact q H _ (fun _ _ h => h) (by decide +kernel)
  refine ⟨_, rfl, x, d, _, _, rfl, a, kit_str d, _, rfl, ?_⟩
  refine ite2 (fun c1 => ?_) (fun c1 => ?_)
  · obtain ⟨z, rfl⟩ : ∃ z, d = .str z := by
      cases d <;> first | exact ⟨_, rfl⟩ | simp [tyOf] at c1
    cases a
    have ez : (txt (.str z)).length = z.length + 2 := by simp only [txt, List.length_cons, List.length_append, List.length_nil, ← TL.len_tl]
    have e1 : (Str.ofString "\"").length = 1 := by decide +kernel
    rw [ez] at hz
    unfold big at hz
    refine ⟨_, rfl, _, _, rfl, rfl, ?_, _, _, rfl, rfl, ?_, ?_⟩
    · rw [e1, sizeLine_eq]; omega
    · rw [TL.len_tl, TL.tl_append, List.length_append, ← TL.len_tl, ← TL.len_tl, e1, sizeLine_eq]; omega
    · refine q H _ (fun _ _ h => h) ?_
      rw [TL.tl_append, TL.tl_append]
      rfl
  refine ⟨_, rfl, x, d, _, _, rfl, a, kit_tuple d, _, rfl, ?_⟩
  refine ite2 (fun c2 => ?_) (fun c2 => ?_)
  · obtain ⟨xs, rfl⟩ : ∃ xs, d = .tuple xs := by
      cases d <;> first | exact ⟨_, rfl⟩ | simp [tyOf] at c2
    have hb := txt_tup_len xs
    have hks : okDs xs = true := by simpa only [okD] using hk
    obtain ⟨p, vs, rfl, hp, hv⟩ := a.inv_tup
    have hlen := hv.length
    have et : txt (.tuple xs) = 40 :: (joinL [32] (xs.map txt) ++ [41]) := by simp only [txt, txts_map]
    have hz0 := hz
    rw [et] at hz
    simp only [List.length_cons, List.length_append, List.length_nil] at hz
    unfold big at hz
    refine ⟨⟨_, rfl⟩, _, rfl, p, rfl, ⟨vs, SqT.of hp⟩, fun D hD => ?_⟩
    refine lc_tup (xs := vs) (fun i H' => ∃ ys : List Str, H' D = some (.lst (ys.map V.str)) ∧ ys.map tl = (xs.take i).map txt ∧ Same H H') ⟨[], upd_same, rfl, Same.new hD⟩ (fun i H' _ h' => SqT.of (h'.choose_spec.2.2 _ _ hp)) (fun i y H1 hy hq => ?_) (fun H' hq => ?_)
    · obtain ⟨ys, h1, h2, h3⟩ := hq
      obtain ⟨e, he, a1⟩ := hv.get hy
      have b := hb.2 e (List.mem_of_getElem? he)
      have hi : i < vs.length := (List.getElem?_eq_some_iff.mp hy).1
      refine ⟨rfl, ?_⟩
      refine tYes_if ?_
      refine ⟨_, rfl, y, e, rfl, ?_, a1.keep (Same.keep h3), okDs_mem hks e (List.mem_of_getElem? he), Nat.lt_trans b hz0, fun H3 z s3 hzz => ?_⟩
      · have := depthAll_mem (List.mem_of_getElem? he)
        simp only [PyData.depth] at hl
        omega
      · refine ⟨_, s3 _ _ h1, ?_, ys ++ [z], ?_, ?_, same_upd hD (Same.trans h3 s3)⟩
        · have := congrArg List.length h2
          rw [List.length_map, List.length_map, List.length_take] at this
          rw [List.length_map, sizeLine_eq]
          unfold big at hz0
          omega
        · rw [upd_same, List.map_append]; rfl
        · rw [List.map_append, h2, List.take_succ, he, List.map_append, List.map_singleton, hzz]; rfl
    · obtain ⟨ys, h1, h2, h3⟩ := hq
      rw [List.take_of_length_le (by omega)] at h2
      obtain ⟨j1, j2, j3⟩ := join_fact h2
      refine ⟨_, D, ys, rfl, rfl, .inl (SqL.of h1), by omega, _, _, rfl, rfl, ?_, _, _, rfl, rfl, ?_, ?_⟩
      · rw [j2, sizeLine_eq]
        show 1 + _ ≤ _
        omega
      · rw [TL.len_tl, TL.tl_append, List.length_append, ← TL.len_tl, ← TL.len_tl, j2, sizeLine_eq]
        show 1 + _ + 1 ≤ _
        omega
      · refine q H' _ h3 ?_
        rw [TL.tl_append, TL.tl_append, j1, et]
        rfl
  refine ⟨_, rfl, x, d, _, _, rfl, a, kit_dict d, _, rfl, ?_⟩
  refine ite2 (fun c3 => ?_) (fun c3 => ?_)
  · obtain ⟨kvs, rfl⟩ : ∃ kvs, d = .dict kvs := by
      cases d <;> first | exact ⟨_, rfl⟩ | simp [tyOf] at c3
    have hb := txt_dict_len kvs
    obtain ⟨hkk, hnn⟩ := okD_dict hk
    obtain ⟨dd, o, ps, rfl, hlen, hse, hps⟩ := a.sealed
    have et : txt (.dict kvs) = 123 :: (joinL [32] ((srtE Prod.fst (txtKv kvs)).map fun p => p.1 ++ 32 :: p.2) ++ [125]) := by simp only [txt]
    have hz0 := hz
    rw [et] at hz
    simp only [List.length_cons, List.length_append, List.length_nil] at hz
    unfold big at hz
    refine ⟨_, rfl, dd, o, ps, rfl, hse H (Keep.refl H), fun D hD => ?_⟩
    refine lc_it walk_itemr (fun i H' => ∃ ts : List Addr, H' D = some (.lst (ts.map V.ref)) ∧ PairsT H' ts ∧ (ts.map (pairT H')).map tl2 = (kvs.take i).map (fun e => (txt e.1, txt e.2)) ∧ Same H H') ⟨[], upd_same, fun _ z => (nomatch z), rfl, Same.new hD⟩ (fun i H' _ hp => hse H' (Same.keep hp.choose_spec.2.2.2)) (fun i y H1 H2 hi hp hy => ?_) (fun H' hp => ?_)
    · obtain ⟨ts, h1, h2, h3, h4⟩ := hp
      obtain ⟨T, p, hp1, hT, rfl, rfl⟩ := hy
      obtain ⟨e, he, a1, a2⟩ := hps i p hp1
      have hm := List.mem_of_getElem? he
      have b := hb.2 e hm
      have hd1 : e.1.depth < n ∧ e.2.depth < n := by
        have x1 := PyData.depthAll_keys_le kvs
        have x2 : e.1.depth ≤ PyData.depthAll (kvs.map (·.1)) := depthAll_mem (List.mem_map_of_mem hm)
        have x3 := depthKv_mem hm
        simp only [PyData.depth] at hl
        constructor <;> omega
      have s1 : Same H1 (upd H1 T (.tup [p.1, p.2])) := Same.new hT
      refine ⟨T, _, rfl, SqT.of upd_same, rfl, _, _, rfl, _, _, rfl, rfl, rfl, ?_⟩
      refine tYes_if ?_
      refine ⟨_, rfl, p.1, e.1, rfl, hd1.1, a1.keep (Same.keep (Same.trans h4 s1)), (okKv_mem hkk e hm).1, Nat.lt_trans b.1 hz0, fun H3 z1 s3 hz1 => ?_⟩
      refine ⟨_, rfl, p.2, e.2, rfl, hd1.2, a2.keep (Same.keep (Same.trans (Same.trans h4 s1) s3)), (okKv_mem hkk e hm).2.2, Nat.lt_trans b.2 hz0, fun H4 z2 s4 hz2 => ?_⟩
      refine ⟨(by show 2 ≤ sizeLine; decide), fun t ht => ?_⟩
      have s5 : Same H1 (upd H4 t (.tup [.str z1, .str z2])) := Same.trans (Same.trans (Same.trans s1 s3) s4) (Same.new ht)
      have hD5 := s5 _ _ h1
      have htD : t ≠ D := fun z => by
        have := (Same.trans (Same.trans s1 s3) s4) _ _ h1
        rw [← z, ht] at this
        cases this
      have k : ∀ t' ∈ ts, ∀ xs, H1 t' = some (.tup xs) → upd (upd H4 t (.tup [.str z1, .str z2])) D (.lst (ts.map V.ref ++ [.ref t])) t' = some (.tup xs) := fun t' _ xs q => by
        have hn : t' ≠ D := fun z => by rw [z, h1] at q; cases q
        rw [upd_ne hn]
        exact s5 _ _ q
      have ht5 : upd (upd H4 t (.tup [.str z1, .str z2])) D (.lst (ts.map V.ref ++ [.ref t])) t = some (.tup [.str z1, .str z2]) := by rw [upd_ne htD, upd_same]
      obtain ⟨k1, k2⟩ := h2.keep k
      refine ⟨_, hD5, ?_, ts ++ [t], ?_, ?_, ?_, same_upd hD (Same.trans h4 s5)⟩
      · have := congrArg List.length h3
        rw [List.length_map, List.length_map, List.length_map, List.length_take] at this
        rw [List.length_map, sizeLine_eq]
        unfold big at hz0
        omega
      · rw [upd_same, List.map_append]; rfl
      · intro t' ht'
        rcases List.mem_append.mp ht' with z | z
        · exact k1 t' z
        · rw [List.mem_singleton.mp z]
          exact ⟨z1, z2, ht5⟩
      · rw [List.map_append, List.map_append, k2, h3, List.take_succ, he, List.map_append, List.map_singleton, pairT_of ht5]
        show _ ++ [(tl z1, tl z2)] = _
        rw [hz1, hz2]
        rfl
    · obtain ⟨ts, h1, h2, h3, h4⟩ := hp
      rw [List.take_of_length_le (by omega)] at h3
      refine ⟨D, ts, rfl, SqL.of h1, h2, fst_nodup h3 hnn, fun us p hus hsr hpn => ?_⟩
      have hsp : Same H' (upd H' p (.lst (us.map V.ref))) := Same.new hpn
      have ku : PairsT H' us := fun t ht => h2 t (hus.mem_iff.mp ht)
      refine ⟨⟨_, rfl⟩, _, rfl, p, rfl, ⟨us.map V.ref, SqL.of upd_same⟩, fun D2 hD2 => ?_⟩
      refine lc_list (xs := us.map V.ref) (fun i H2 => ∃ ys : List Str, H2 D2 = some (.lst (ys.map V.str)) ∧ ys.map tl = ((us.take i).map (pairT H')).map (fun p => tl p.1 ++ 32 :: tl p.2) ∧ Same (upd H' p (.lst (us.map V.ref))) H2) ⟨[], upd_same, rfl, Same.new hD2⟩ (fun i H2 _ hq => SqL.of (hq.choose_spec.2.2 _ _ upd_same)) (fun i y H2 hy hq => ?_) (fun H2 hq => ?_)
      · obtain ⟨ys, g1, g2, g3⟩ := hq
        obtain ⟨t, ht, rfl⟩ : ∃ t, us[i]? = some t ∧ V.ref t = y := by simpa using hy
        have htm := hus.mem_iff.mp (List.mem_of_getElem? ht)
        obtain ⟨a0, b0, hab⟩ := h2 t htm
        have hpr : (tl a0, tl b0) ∈ (ts.map (pairT H')).map tl2 := List.mem_map.mpr ⟨(a0, b0), List.mem_map.mpr ⟨t, htm, pairT_of hab⟩, rfl⟩
        rw [h3] at hpr
        obtain ⟨e, hem, hee⟩ := List.mem_map.mp hpr
        have l1 := txt_pair_len kvs e hem
        have e1 : (txt e.1).length = a0.length := by rw [TL.len_tl, (Prod.mk.inj hee).1]
        have e2 : (txt e.2).length = b0.length := by rw [TL.len_tl, (Prod.mk.inj hee).2]
        rw [e1, e2] at l1
        have es : (Str.ofString " ").length = 1 := by decide +kernel
        refine ⟨t, _, rfl, SqT.of (g3 _ _ (hsp _ _ hab)), rfl, _, _, rfl, _, _, rfl, rfl, rfl, ?_⟩
        refine tYes_if ?_
        unfold big at hz0
        refine ⟨_, rfl, _, _, rfl, rfl, ?_, _, rfl, _, _, rfl, rfl, ?_, _, g1, ?_, ys ++ [a0 ++ Str.ofString " " ++ b0], ?_, ?_, same_upd hD2 g3⟩
        · rw [es, sizeLine_eq]; omega
        · rw [TL.len_tl, TL.tl_append, List.length_append, ← TL.len_tl, ← TL.len_tl, es, sizeLine_eq]; omega
        · have x1 := congrArg List.length g2
          have x2 := congrArg List.length h3
          have x3 := hus.length_eq
          have x4 : i < us.length := (List.getElem?_eq_some_iff.mp ht).1
          rw [List.length_map, List.length_map, List.length_map, List.length_take] at x1
          rw [List.length_map, List.length_map, List.length_map] at x2
          rw [List.length_map, sizeLine_eq]
          omega
        · rw [upd_same, List.map_append]; rfl
        · rw [List.map_append, g2, List.take_succ, ht, List.map_append (f := pairT H'), List.map_append]
          show _ ++ [tl (a0 ++ Str.ofString " " ++ b0)] = _ ++ [tl (pairT H' t).1 ++ 32 :: tl (pairT H' t).2]
          rw [pairT_of hab, TL.tl_append, TL.tl_append, List.append_assoc]
          rfl
      · obtain ⟨ys, g1, g2, g3⟩ := hq
        rw [List.take_of_length_le (by rw [List.length_map]; exact Nat.le_refl _), hsr] at g2
        obtain ⟨j1, j2, j3⟩ := join_fact g2
        have es := sorted_txt h3
        rw [es] at j1 j2 j3
        refine ⟨_, D2, ys, rfl, rfl, .inl (SqL.of g1), by omega, _, _, rfl, rfl, ?_, _, _, rfl, rfl, ?_, ?_⟩
        · rw [j2, sizeLine_eq]
          show 1 + _ ≤ _
          omega
        · rw [TL.len_tl, TL.tl_append, List.length_append, ← TL.len_tl, ← TL.len_tl, j2, sizeLine_eq]
          show 1 + _ + 1 ≤ _
          omega
        · refine q H2 _ (Same.trans (Same.trans h4 hsp) g3) ?_
          rw [TL.tl_append, TL.tl_append, j1, et]
          rfl
  · obtain ⟨i, rfl⟩ : ∃ i, d = .int i := by
      cases d <;> first | exact ⟨_, rfl⟩ | (simp [tyOf] at c1; done) | (simp [tyOf] at c2; done) | (simp [tyOf] at c3; done) | (simp [okD] at hk; done) | skip
      cases a
      exact absurd (decide_eq_true rfl) c
    cases a
    refine ⟨_, rfl, i, rfl, by simpa only [okD] using hk, ?_⟩
    refine q H _ (fun _ _ h => h) ?_
    rw [intT_eq]
    simp only [txt]
end
end K15
end

section
set_option Elab.async false
set_option linter.all false
set_option maxRecDepth 100000
set_option pp.maxSteps 900
namespace K15
open PySem PySem.Spec PyProof.Rows L2 TL

/-! the keys of its dicts are not deep -/
mutual
def k8 : PyData → Bool
  | .tuple xs => k8s xs
  | .dict kvs => k8Kv kvs
  | .none | .bool _ | .int _ | .str _ | .list _ => true
def k8s : List PyData → Bool
  | [] => true
  | x :: xs => k8 x && k8s xs
def k8Kv : List (PyData × PyData) → Bool
  | [] => true
  | (k, v) :: r => k8 k && decide (k.depth ≤ 8) && k8 v && k8Kv r
end
theorem k8s_mem : ∀ {xs : List PyData} {x : PyData}, k8s xs = true → x ∈ xs → k8 x = true
  | y :: r, x, h, hm => by
    simp only [k8s, Bool.and_eq_true] at h
    rcases List.mem_cons.mp hm with e | hm
    · rw [e]; exact h.1
    · exact k8s_mem h.2 hm
theorem k8Kv_mem : ∀ {kvs : List (PyData × PyData)} {e : PyData × PyData}, k8Kv kvs = true → e ∈ kvs → k8 e.1 = true ∧ e.1.depth ≤ 8 ∧ k8 e.2 = true
  | (k, v) :: r, e, h, hm => by
    simp only [k8Kv, Bool.and_eq_true, decide_eq_true_eq] at h
    rcases List.mem_cons.mp hm with q | hm
    · rw [q]; exact ⟨h.1.1.1, h.1.1.2, h.1.2⟩
    · exact k8Kv_mem h.2 hm
mutual
theorem k8_plain : ∀ (d : PyData) (n : Nat), plain n d = true → k8 d = true
  | .none, _, _ | .int _, _, _ | .str _, _, _ | .bool _, _, _ | .list _, _, _ => by simp only [k8]
  | .tuple xs, n, h => by
    simp only [plain, Bool.and_eq_true] at h
    simp only [k8]
    exact k8s_plain xs _ h.2
  | .dict kvs, n, h => by
    simp only [plain, Bool.and_eq_true] at h
    simp only [k8]
    exact k8Kv_plain kvs _ h.2
theorem k8s_plain : ∀ (xs : List PyData) (n : Nat), plains n xs = true → k8s xs = true
  | [], _, _ => by simp only [k8s]
  | x :: xs, n, h => by
    simp only [plains, Bool.and_eq_true] at h
    simp only [k8s, k8_plain x n h.1, k8s_plain xs n h.2, Bool.and_self]
theorem k8Kv_plain : ∀ (kvs : List (PyData × PyData)) (n : Nat), plainKv n kvs = true → k8Kv kvs = true
  | [], _, _ => by simp only [k8Kv]
  | (k, v) :: r, n, h => by
    have h8 := key8 h (k, v) List.mem_cons_self
    simp only [plainKv, Bool.and_eq_true] at h
    have h8 : k.depth ≤ 8 := h8
    simp only [k8Kv, k8_plain k _ h.1.1, k8_plain v n h.1.2, k8Kv_plain r n h.2, decide_eq_true h8, Bool.and_self]
end
theorem keysOk_of {kvs : List (PyData × PyData)} (hk : okD (.dict kvs) = true) (h8 : k8Kv kvs = true) : KeysOk kvs := by
  obtain ⟨h1, h2⟩ := okD_dict hk
  refine ⟨fun e he => hsh_of _ (okKv_mem h1 e he).1 (okKv_mem h1 e he).2.1, fun e he => (k8Kv_mem h8 he).2.1, ?_⟩
  have nd := nodup_keys h2
  have : (kvs.map fun e => keyOf e.1) = (kvs.map (·.1)).map keyOf := by rw [List.map_map]; rfl
  rw [this]
  unfold List.Nodup
  rw [List.pairwise_map]
  refine nd.imp_of_mem fun {a b} ha hb hne e => hne ?_
  obtain ⟨x, hx, rfl⟩ := List.mem_map.mp ha
  obtain ⟨y, hy, rfl⟩ := List.mem_map.mp hb
  exact key_inj (okKv_mem h1 x hx).1 (okKv_mem h1 y hy).1 (okKv_mem h1 x hx).2.1 (okKv_mem h1 y hy).2.1 e
/-- within a comprehension's block -/
theorem pe_getRw {X : Cx} {pos : Pos} {o i : Expr} {td ty : TE} {w : World} (hw : X.w = w) (hu : X.A.units + 64 < cLine) (ho : PE X o td) (hi : PE X i ty) (hs : PlainIx i) : PE X (.Subscript o i pos) (tGetR w td ty) := by
  subst hw
  exact pe_getR hu ho hi hs
theorem scPlainText : FnScope ["value", "parts", "one", "key", "text"] ["value"] (defScope sPlainText) := ⟨rfl, rfl, rfl, by decide +kernel, rfl, by decide +kernel, by decide +kernel⟩
def spPText (w : World) (n : Nat) : Sp := fun vs H Q _ => ∃ (x : V) (d : PyData), vs = [x] ∧ d.depth < n ∧ At w H x d ∧ okD d = true ∧ k8 d = true ∧ (txt d).length < big ∧ ∀ H' z, Same H H' → tl z = txt d → Q (.str z) H'
section
variable {P : Program} {w : World} {K : PySem.W.Frag} {mg : Str → Option Value} {base : Heap} {f g : Addr} {fd gd : FuncData}
theorem ok_textIn (D : Df K mg "text_in" sTextIn ["value"] f fd) (B : Bn mg) (hnd : base.NoDigits) (gN : Gv mg "NONE" (.str "none")) (gQ : Gv mg "QUOTE" (.str "\"")) : ∀ n : Nat, FnOk P w K mg base CX0 n f fd ["value"] (spText w n)
  | 0 => none_at fun vs H Q E h => by
    obtain ⟨_, _, _, z, _⟩ := h
    omega
  | n + 1 => ok_textIn1 D B hnd gN gQ (ok_textIn D B hnd gN gQ n)
theorem ok_plainText1 {n : Nat} (D : Df K mg "_law_plain_text" sPlainText ["value"] f fd) (B : Bn mg) (hnd : base.NoDigits)
    (G : FnOk P w K mg base CX0 n f fd ["value"] (spPText w n)) :
    FnOk P w K mg base CX0 (n + 1) f fd ["value"] (spPText w (n + 1)) := by
  refine D.F.ok scPlainText (fun vs H Q E h => ?_) (fun cdv A outer s H vs Q E hr h => ?_)
  · obtain ⟨x, d, rfl, _⟩ := h
    rfl
  obtain ⟨x, d, rfl, hl, a, hk, hk8, hz, q⟩ := h
  have nd := scPlainText.nd
  refine ⟨_, pss_cons (ps_if (pt_cmpR op_isN (pv 0) pe_non (nomark _)) (pss_one (ps_ret pe_str)) pss_nil)
    (pss_cons (ps_if (pt_val (pe_callB call_isiA (by rfl) B.isinstance bt_isinstance (pa_cons (pv 0) (pa_cons (pe_bltn (v := .ty "str") (by rfl) B.str bt_str rfl) pa_nil))))
      (pss_one (ps_ret (pe_op op_add_str (pe_op op_add_str pe_str (pv 0)) pe_str))) pss_nil)
    (pss_cons (ps_if (pt_val (pe_callB call_isiA (by rfl) B.isinstance bt_isinstance (pa_cons (pv 0) (pa_cons (pe_bltn (v := .ty "tuple") (by rfl) B.tuple bt_tuple rfl) pa_nil))))
      (pss_one (ps_ret (pe_op op_add_str (pe_op op_add_str pe_str (pe_join pe_str (pe_lc (own := [("one", 2)]) (g := gName 2) (tt := tYes) rfl nd (pi_tup (pv 0)) (blkOk_by (N := ["value", "parts", "one", "key", "text"]) (sc := defScope sPlainText) (by decide +kernel))
          (fun _ _ _ _ _ => pg_name (i := 2) nd rfl (Or.inl rfl)) (fun _ _ _ _ _ => pts_nil) (fun _ _ _ _ _ => pe_call G hr (by rfl) D.m D.F.kp D.b .nil pass0 (pa_cons (pv 2) pa_nil))))) pe_str))) pss_nil)
    (pss_cons (ps_if (pt_val (pe_callB call_isiA (by rfl) B.isinstance bt_isinstance (pa_cons (pv 0) (pa_cons (pe_bltn (v := .ty "dict") (by rfl) B.dict bt_dict rfl) pa_nil))))
      (pss_cons (ps_set (i := 1) nd rfl (.inl rfl) (pe_callB cr_sortedTT (by rfl) B.sorted bt_sorted (pa_cons (pe_lc (own := [("key", 3)]) (g := gName 3) (tt := tYes) rfl nd (pi_keyr (pv 0)) (blkOk_by (N := ["value", "parts", "one", "key", "text"]) (sc := defScope sPlainText) (by decide +kernel))
          (fun _ _ _ _ _ => pg_name (i := 3) nd rfl (Or.inl rfl)) (fun _ _ _ _ _ => pts_nil)
          (fun _ _ _ _ _ => pe_tup (pa_cons (pe_call G hr (by rfl) D.m D.F.kp D.b .nil pass0 (pa_cons (pv 3) pa_nil)) (pa_cons (pe_call G hr (by rfl) D.m D.F.kp D.b .nil pass0 (pa_cons (pe_getRw (w := w) rfl hr.units (pv 0) (pv 3) (fun _ _ => rfl)) pa_nil)) pa_nil)))) pa_nil)))
      (pss_one (ps_ret (pe_op op_add_str (pe_op op_add_str pe_str (pe_join pe_str (pe_lc (own := [("key", 3), ("text", 4)]) (g := gTup K 2 (gCons (gName 3) (gCons (gName 4) gNil))) (tt := tYes) rfl nd (pi_list (pv 1)) (blkOk_by (N := ["value", "parts", "one", "key", "text"]) (sc := defScope sPlainText) (by decide +kernel))
          (fun _ _ _ _ _ => pg_tup (by rfl) (pgs_cons (pg_name (i := 3) nd rfl (Or.inl rfl)) (pgs_cons (pg_name (i := 4) nd rfl (Or.inl rfl)) pgs_nil))) (fun _ _ _ _ _ => pts_nil)
          (fun _ _ _ _ _ => pe_op op_add_str (pe_op op_add_str (pv 3) pe_str) (pv 4))))) pe_str)))) pss_nil)
    (pss_one (ps_ret (pe_callTy (call_str_big (by rfl) hnd) (by rfl) B.str bt_str (pa_cons (pv 0) pa_nil))))))), ?_⟩
  refine ⟨_, rfl, rfl, _, rfl, ?_⟩
  refine ite2 (fun c => ?_) (fun c => ?_)
  · have e : x = .non := of_decide_eq_true c
    subst e
    cases a
    exact q H _ (fun _ _ h => h) (by decide +kernel)
  refine ⟨_, rfl, x, d, _, _, rfl, a, kit_str d, _, rfl, ?_⟩
  refine ite2 (fun c1 => ?_) (fun c1 => ?_)
  · obtain ⟨z, rfl⟩ : ∃ z, d = .str z := by
      cases d <;> first | exact ⟨_, rfl⟩ | simp [tyOf] at c1
    cases a
    have ez : (txt (.str z)).length = z.length + 2 := by simp only [txt, List.length_cons, List.length_append, List.length_nil, ← TL.len_tl]
    have e1 : (Str.ofString "\"").length = 1 := by decide +kernel
    rw [ez] at hz
    unfold big at hz
    refine ⟨_, rfl, _, _, rfl, rfl, ?_, _, _, rfl, rfl, ?_, ?_⟩
    · rw [e1, sizeLine_eq]; omega
    · rw [TL.len_tl, TL.tl_append, List.length_append, ← TL.len_tl, ← TL.len_tl, e1, sizeLine_eq]; omega
    · refine q H _ (fun _ _ h => h) ?_
      rw [TL.tl_append, TL.tl_append]
      rfl
  refine ⟨_, rfl, x, d, _, _, rfl, a, kit_tuple d, _, rfl, ?_⟩
  refine ite2 (fun c2 => ?_) (fun c2 => ?_)
  · obtain ⟨xs, rfl⟩ : ∃ xs, d = .tuple xs := by
      cases d <;> first | exact ⟨_, rfl⟩ | simp [tyOf] at c2
    have hb := txt_tup_len xs
    have hks : okDs xs = true := by simpa only [okD] using hk
    have h8s : k8s xs = true := by simpa only [k8] using hk8
    obtain ⟨p, vs, rfl, hp, hv⟩ := a.inv_tup
    have hlen := hv.length
    have et : txt (.tuple xs) = 40 :: (joinL [32] (xs.map txt) ++ [41]) := by simp only [txt, txts_map]
    have hz0 := hz
    rw [et] at hz
    simp only [List.length_cons, List.length_append, List.length_nil] at hz
    unfold big at hz
    refine ⟨⟨_, rfl⟩, _, rfl, p, rfl, ⟨vs, SqT.of hp⟩, fun D hD => ?_⟩
    refine lc_tup (xs := vs) (fun i H' => ∃ ys : List Str, H' D = some (.lst (ys.map V.str)) ∧ ys.map tl = (xs.take i).map txt ∧ Same H H') ⟨[], upd_same, rfl, Same.new hD⟩ (fun i H' _ h' => SqT.of (h'.choose_spec.2.2 _ _ hp)) (fun i y H1 hy hq => ?_) (fun H' hq => ?_)
    · obtain ⟨ys, h1, h2, h3⟩ := hq
      obtain ⟨e, he, a1⟩ := hv.get hy
      have b := hb.2 e (List.mem_of_getElem? he)
      have hi : i < vs.length := (List.getElem?_eq_some_iff.mp hy).1
      refine ⟨rfl, ?_⟩
      refine tYes_if ?_
      refine ⟨_, rfl, y, e, rfl, ?_, a1.keep (Same.keep h3), okDs_mem hks e (List.mem_of_getElem? he), k8s_mem h8s (List.mem_of_getElem? he), Nat.lt_trans b hz0, fun H3 z s3 hzz => ?_⟩
      · have := depthAll_mem (List.mem_of_getElem? he)
        simp only [PyData.depth] at hl
        omega
      · refine ⟨_, s3 _ _ h1, ?_, ys ++ [z], ?_, ?_, same_upd hD (Same.trans h3 s3)⟩
        · have := congrArg List.length h2
          rw [List.length_map, List.length_map, List.length_take] at this
          rw [List.length_map, sizeLine_eq]
          unfold big at hz0
          omega
        · rw [upd_same, List.map_append]; rfl
        · rw [List.map_append, h2, List.take_succ, he, List.map_append, List.map_singleton, hzz]; rfl
    · obtain ⟨ys, h1, h2, h3⟩ := hq
      rw [List.take_of_length_le (by omega)] at h2
      obtain ⟨j1, j2, j3⟩ := join_fact h2
      refine ⟨_, D, ys, rfl, rfl, .inl (SqL.of h1), by omega, _, _, rfl, rfl, ?_, _, _, rfl, rfl, ?_, ?_⟩
      · rw [j2, sizeLine_eq]
        show 1 + _ ≤ _
        omega
      · rw [TL.len_tl, TL.tl_append, List.length_append, ← TL.len_tl, ← TL.len_tl, j2, sizeLine_eq]
        show 1 + _ + 1 ≤ _
        omega
      · refine q H' _ h3 ?_
        rw [TL.tl_append, TL.tl_append, j1, et]
        rfl
  refine ⟨_, rfl, x, d, _, _, rfl, a, kit_dict d, _, rfl, ?_⟩
  refine ite2 (fun c3 => ?_) (fun c3 => ?_)
  · obtain ⟨kvs, rfl⟩ : ∃ kvs, d = .dict kvs := by
      cases d <;> first | exact ⟨_, rfl⟩ | simp [tyOf] at c3
    have hb := txt_dict_len kvs
    obtain ⟨hkk, hnn⟩ := okD_dict hk
    have h8s : k8Kv kvs = true := by simpa only [k8] using hk8
    have hok := keysOk_of hk h8s
    have a00 := a
    obtain ⟨dd, o, ps, rfl, hlen, hse, hps⟩ := a.sealed
    have et : txt (.dict kvs) = 123 :: (joinL [32] ((srtE Prod.fst (txtKv kvs)).map fun p => p.1 ++ 32 :: p.2) ++ [125]) := by simp only [txt]
    have hz0 := hz
    rw [et] at hz
    simp only [List.length_cons, List.length_append, List.length_nil] at hz
    unfold big at hz
    refine ⟨_, rfl, dd, o, ps, rfl, hse H (Keep.refl H), fun D hD => ?_⟩
    refine lc_it walk_keyr (fun i H' => ∃ ts : List Addr, H' D = some (.lst (ts.map V.ref)) ∧ PairsT H' ts ∧ (ts.map (pairT H')).map tl2 = (kvs.take i).map (fun e => (txt e.1, txt e.2)) ∧ Same H H') ⟨[], upd_same, fun _ z => (nomatch z), rfl, Same.new hD⟩ (fun i H' _ hp => hse H' (Same.keep hp.choose_spec.2.2.2)) (fun i y H1 H2 hi hp hy => ?_) (fun H' hp => ?_)
    · obtain ⟨ts, h1, h2, h3, h4⟩ := hp
      obtain ⟨rfl, p, hp1, rfl⟩ := hy
      obtain ⟨e, he, a1, a2⟩ := hps i p hp1
      have hm := List.mem_of_getElem? he
      have b := hb.2 e hm
      have hd1 : e.1.depth < n ∧ e.2.depth < n := by
        have x1 := PyData.depthAll_keys_le kvs
        have x2 : e.1.depth ≤ PyData.depthAll (kvs.map (·.1)) := depthAll_mem (List.mem_map_of_mem hm)
        have x3 := depthKv_mem hm
        simp only [PyData.depth] at hl
        constructor <;> omega
      have s1 : Same H2 H2 := fun _ _ h => h
      refine ⟨rfl, ?_⟩
      refine tYes_if ?_
      refine ⟨_, rfl, p.1, e.1, rfl, hd1.1, a1.keep (Same.keep (Same.trans h4 s1)), (okKv_mem hkk e hm).1, (k8Kv_mem h8s hm).1, Nat.lt_trans b.1 hz0, fun H3 z1 s3 hz1 => ?_⟩
      refine ⟨_, rfl, _, rfl, kvs, e.1, e.2, a00.keep (Same.keep (Same.trans h4 s3)), hok, hm, a1.keep (Same.keep (Same.trans h4 s3)), fun zz hzz => ?_⟩
      refine ⟨zz, e.2, rfl, hd1.2, hzz, (okKv_mem hkk e hm).2.2, (k8Kv_mem h8s hm).2.2, Nat.lt_trans b.2 hz0, fun H4 z2 s4 hz2 => ?_⟩
      refine ⟨(by show 2 ≤ sizeLine; decide), fun t ht => ?_⟩
      have s5 : Same H2 (upd H4 t (.tup [.str z1, .str z2])) := Same.trans (Same.trans (Same.trans s1 s3) s4) (Same.new ht)
      have hD5 := s5 _ _ h1
      have htD : t ≠ D := fun z => by
        have := (Same.trans (Same.trans s1 s3) s4) _ _ h1
        rw [← z, ht] at this
        cases this
      have k : ∀ t' ∈ ts, ∀ xs, H2 t' = some (.tup xs) → upd (upd H4 t (.tup [.str z1, .str z2])) D (.lst (ts.map V.ref ++ [.ref t])) t' = some (.tup xs) := fun t' _ xs q => by
        have hn : t' ≠ D := fun z => by rw [z, h1] at q; cases q
        rw [upd_ne hn]
        exact s5 _ _ q
      have ht5 : upd (upd H4 t (.tup [.str z1, .str z2])) D (.lst (ts.map V.ref ++ [.ref t])) t = some (.tup [.str z1, .str z2]) := by rw [upd_ne htD, upd_same]
      obtain ⟨k1, k2⟩ := h2.keep k
      refine ⟨_, hD5, ?_, ts ++ [t], ?_, ?_, ?_, same_upd hD (Same.trans h4 s5)⟩
      · have := congrArg List.length h3
        rw [List.length_map, List.length_map, List.length_map, List.length_take] at this
        rw [List.length_map, sizeLine_eq]
        unfold big at hz0
        omega
      · rw [upd_same, List.map_append]; rfl
      · intro t' ht'
        rcases List.mem_append.mp ht' with z | z
        · exact k1 t' z
        · rw [List.mem_singleton.mp z]
          exact ⟨z1, z2, ht5⟩
      · rw [List.map_append, List.map_append, k2, h3, List.take_succ, he, List.map_append, List.map_singleton, pairT_of ht5]
        show _ ++ [(tl z1, tl z2)] = _
        rw [hz1, hz2]
        rfl
    · obtain ⟨ts, h1, h2, h3, h4⟩ := hp
      rw [List.take_of_length_le (by omega)] at h3
      refine ⟨D, ts, rfl, SqL.of h1, h2, fst_nodup h3 hnn, fun us p hus hsr hpn => ?_⟩
      have hsp : Same H' (upd H' p (.lst (us.map V.ref))) := Same.new hpn
      have ku : PairsT H' us := fun t ht => h2 t (hus.mem_iff.mp ht)
      refine ⟨⟨_, rfl⟩, _, rfl, p, rfl, ⟨us.map V.ref, SqL.of upd_same⟩, fun D2 hD2 => ?_⟩
      refine lc_list (xs := us.map V.ref) (fun i H2 => ∃ ys : List Str, H2 D2 = some (.lst (ys.map V.str)) ∧ ys.map tl = ((us.take i).map (pairT H')).map (fun p => tl p.1 ++ 32 :: tl p.2) ∧ Same (upd H' p (.lst (us.map V.ref))) H2) ⟨[], upd_same, rfl, Same.new hD2⟩ (fun i H2 _ hq => SqL.of (hq.choose_spec.2.2 _ _ upd_same)) (fun i y H2 hy hq => ?_) (fun H2 hq => ?_)
      · obtain ⟨ys, g1, g2, g3⟩ := hq
        obtain ⟨t, ht, rfl⟩ : ∃ t, us[i]? = some t ∧ V.ref t = y := by simpa using hy
        have htm := hus.mem_iff.mp (List.mem_of_getElem? ht)
        obtain ⟨a0, b0, hab⟩ := h2 t htm
        have hpr : (tl a0, tl b0) ∈ (ts.map (pairT H')).map tl2 := List.mem_map.mpr ⟨(a0, b0), List.mem_map.mpr ⟨t, htm, pairT_of hab⟩, rfl⟩
        rw [h3] at hpr
        obtain ⟨e, hem, hee⟩ := List.mem_map.mp hpr
        have l1 := txt_pair_len kvs e hem
        have e1 : (txt e.1).length = a0.length := by rw [TL.len_tl, (Prod.mk.inj hee).1]
        have e2 : (txt e.2).length = b0.length := by rw [TL.len_tl, (Prod.mk.inj hee).2]
        rw [e1, e2] at l1
        have es : (Str.ofString " ").length = 1 := by decide +kernel
        refine ⟨t, _, rfl, SqT.of (g3 _ _ (hsp _ _ hab)), rfl, _, _, rfl, _, _, rfl, rfl, rfl, ?_⟩
        refine tYes_if ?_
        unfold big at hz0
        refine ⟨_, rfl, _, _, rfl, rfl, ?_, _, rfl, _, _, rfl, rfl, ?_, _, g1, ?_, ys ++ [a0 ++ Str.ofString " " ++ b0], ?_, ?_, same_upd hD2 g3⟩
        · rw [es, sizeLine_eq]; omega
        · rw [TL.len_tl, TL.tl_append, List.length_append, ← TL.len_tl, ← TL.len_tl, es, sizeLine_eq]; omega
        · have x1 := congrArg List.length g2
          have x2 := congrArg List.length h3
          have x3 := hus.length_eq
          have x4 : i < us.length := (List.getElem?_eq_some_iff.mp ht).1
          rw [List.length_map, List.length_map, List.length_map, List.length_take] at x1
          rw [List.length_map, List.length_map, List.length_map] at x2
          rw [List.length_map, sizeLine_eq]
          omega
        · rw [upd_same, List.map_append]; rfl
        · rw [List.map_append, g2, List.take_succ, ht, List.map_append (f := pairT H'), List.map_append]
          show _ ++ [tl (a0 ++ Str.ofString " " ++ b0)] = _ ++ [tl (pairT H' t).1 ++ 32 :: tl (pairT H' t).2]
          rw [pairT_of hab, TL.tl_append, TL.tl_append, List.append_assoc]
          rfl
      · obtain ⟨ys, g1, g2, g3⟩ := hq
        rw [List.take_of_length_le (by rw [List.length_map]; exact Nat.le_refl _), hsr] at g2
        obtain ⟨j1, j2, j3⟩ := join_fact g2
        have es := sorted_txt h3
        rw [es] at j1 j2 j3
        refine ⟨_, D2, ys, rfl, rfl, .inl (SqL.of g1), by omega, _, _, rfl, rfl, ?_, _, _, rfl, rfl, ?_, ?_⟩
        · rw [j2, sizeLine_eq]
          show 1 + _ ≤ _
          omega
        · rw [TL.len_tl, TL.tl_append, List.length_append, ← TL.len_tl, ← TL.len_tl, j2, sizeLine_eq]
          show 1 + _ + 1 ≤ _
          omega
        · refine q H2 _ (Same.trans (Same.trans h4 hsp) g3) ?_
          rw [TL.tl_append, TL.tl_append, j1, et]
          rfl
  · obtain ⟨i, rfl⟩ : ∃ i, d = .int i := by
      cases d <;> first | exact ⟨_, rfl⟩ | (simp [tyOf] at c1; done) | (simp [tyOf] at c2; done) | (simp [tyOf] at c3; done) | (simp [okD] at hk; done) | skip
      cases a
      exact absurd (decide_eq_true rfl) c
    cases a
    refine ⟨_, rfl, i, rfl, by simpa only [okD] using hk, ?_⟩
    refine q H _ (fun _ _ h => h) ?_
    rw [intT_eq]
    simp only [txt]
theorem ok_plainText (D : Df K mg "_law_plain_text" sPlainText ["value"] f fd) (B : Bn mg) (hnd : base.NoDigits) : ∀ n : Nat, FnOk P w K mg base CX0 n f fd ["value"] (spPText w n)
  | 0 => none_at fun vs H Q E h => by
    obtain ⟨_, _, _, z, _⟩ := h
    omega
  | n + 1 => ok_plainText1 D B hnd (ok_plainText D B hnd n)
end
end K15
end

section
set_option Elab.async false
set_option linter.all false
set_option maxRecDepth 100000
set_option pp.maxSteps 900
namespace K15
open PySem PySem.Spec PyProof.Rows L2 TL

theorem wts_mem : ∀ {xs : List PyData} {x : PyData}, x ∈ xs → wt x ≤ wts xs
  | y :: r, x, h => by
    simp only [wts]
    rcases List.mem_cons.mp h with e | h
    · rw [e]; omega
    · have := wts_mem h
      omega
theorem wts_len : ∀ xs : List PyData, xs.length ≤ wts xs
  | [] => Nat.zero_le _
  | x :: xs => by
    have := wts_len xs
    simp only [wts, List.length_cons]
    omega
abbrev sHas : Stmt := topS 18
abbrev sLHas : Stmt := topS 36
theorem scHas : FnScope ["value", "member"] ["value"] (defScope sHas) := ⟨rfl, rfl, rfl, by decide +kernel, rfl, by decide +kernel, by decide +kernel⟩
theorem scLHas : FnScope ["value", "one"] ["value"] (defScope sLHas) := ⟨rfl, rfl, rfl, by decide +kernel, rfl, by decide +kernel, by decide +kernel⟩
def spHas (w : World) (n : Nat) : Sp := fun vs H Q _ => ∃ (x : V) (d : PyData), vs = [x] ∧ d.depth < n ∧ At w H x d ∧ wt d < big ∧ ∀ H', Same H H' → Q (.bl (hasD d)) H'
section
variable {P : Program} {w : World} {K : PySem.W.Frag} {mg : Str → Option Value} {base : Heap} {f g : Addr} {fd gd : FuncData}
theorem ok_has1 {n : Nat} (D : Df K mg "has_dict" sHas ["value"] f fd) (B : Bn mg) (G : FnOk P w K mg base CX0 n f fd ["value"] (spHas w n)) :
    FnOk P w K mg base CX0 (n + 1) f fd ["value"] (spHas w (n + 1)) := by
  refine D.F.ok scHas (fun vs H Q E h => ?_) (fun cdv A outer s H vs Q E hr h => ?_)
  · obtain ⟨x, d, rfl, _⟩ := h
    rfl
  obtain ⟨x, d, rfl, hl, a, hz, q⟩ := h
  have nd := scHas.nd
  refine ⟨_, pss_one (ps_ret (pe_or (pe_callB call_isiA (by rfl) B.isinstance bt_isinstance (pa_cons (pv 0) (pa_cons (pe_bltn (v := .ty "dict") (by rfl) B.dict bt_dict rfl) pa_nil)))
    (pe_one (pe_and (pe_callB call_isiA (by rfl) B.isinstance bt_isinstance (pa_cons (pv 0) (pa_cons (pe_bltn (v := .ty "tuple") (by rfl) B.tuple bt_tuple rfl) pa_nil)))
      (pe_one (pe_callB (cr_any (by rfl)) (by rfl) B.any bt_any (pa_cons (pe_lc (own := [("member", 1)]) (g := gName 1) (tt := tYes) rfl nd (pi_tup (pv 0)) (blkOk_by (N := ["value", "member"]) (sc := defScope sHas) (by decide +kernel))
          (fun _ _ _ _ _ => pg_name (i := 1) nd rfl (Or.inl rfl)) (fun _ _ _ _ _ => pts_nil) (fun _ _ _ _ _ => pe_call G hr (by rfl) D.m D.F.kp D.b .nil pass0 (pa_cons (pv 1) pa_nil))) pa_nil))))))), ?_⟩
  refine ⟨_, rfl, x, d, _, _, rfl, a, kit_dict d, _, rfl, ?_⟩
  refine ite2 (fun c => ?_) (fun c => ?_)
  · have e : hasD d = true := by
      cases d <;> first | (simp [tyOf] at c; done) | simp only [hasD]
    rw [e] at q
    exact q H fun _ _ h => h
  refine ⟨_, rfl, x, d, _, _, rfl, a, kit_tuple d, _, rfl, ?_⟩
  refine ite2 (fun c1 => ?_) (fun c1 => ?_)
  · obtain ⟨xs, rfl⟩ : ∃ xs, d = .tuple xs := by
      cases d <;> first | exact ⟨_, rfl⟩ | simp [tyOf] at c1
    obtain ⟨p, vs, rfl, hp, hv⟩ := a.inv_tup
    have hlen := hv.length
    have ew : wt (.tuple xs) = 3 + wts xs := by simp only [wt]
    have hw := wts_len xs
    have eh : hasD (.tuple xs) = xs.any hasD := by rw [← hasDs_any]; simp only [hasD]
    rw [eh] at q
    refine ⟨_, rfl, p, rfl, ⟨vs, SqT.of hp⟩, fun D hD => ?_⟩
    refine lc_tup (xs := vs) (fun i H' => H' D = some (.lst ((xs.take i).map fun e => V.bl (hasD e))) ∧ Same H H') ⟨upd_same, Same.new hD⟩ (fun i H' _ h' => SqT.of (h'.2 _ _ hp)) (fun i y H1 hy hq => ?_) (fun H' hq => ?_)
    · obtain ⟨e, he, a1⟩ := hv.get hy
      have hi : i < vs.length := (List.getElem?_eq_some_iff.mp hy).1
      have hm := List.mem_of_getElem? he
      have b := wts_mem hm
      refine ⟨rfl, ?_⟩
      refine tYes_if ?_
      refine ⟨_, rfl, y, e, rfl, ?_, a1.keep (Same.keep hq.2), by omega, fun H3 s3 => ?_⟩
      · have := depthAll_mem hm
        simp only [PyData.depth] at hl
        omega
      · refine ⟨_, s3 _ _ hq.1, ?_, ?_, same_upd hD (Same.trans hq.2 s3)⟩
        · rw [List.length_map, List.length_take, sizeLine_eq]
          unfold big at hz
          omega
        · rw [upd_same, List.take_succ, he]
          simp
    · refine ⟨D, xs.map hasD, rfl, SqL.of ?_, ?_⟩
      · rw [hq.1, List.take_of_length_le (by omega), List.map_map]
        rfl
      · rw [List.any_map]
        exact q H' hq.2
  · have e : hasD d = false := by
      cases d <;> first | (simp [tyOf] at c; done) | (simp [tyOf] at c1; done) | simp only [hasD]
    rw [e] at q
    exact q H fun _ _ h => h
theorem ok_has (D : Df K mg "has_dict" sHas ["value"] f fd) (B : Bn mg) : ∀ n : Nat, FnOk P w K mg base CX0 n f fd ["value"] (spHas w n)
  | 0 => none_at fun vs H Q E h => by
    obtain ⟨_, _, _, z, _⟩ := h
    omega
  | n + 1 => ok_has1 D B (ok_has D B n)
theorem ok_lhas1 {n : Nat} (D : Df K mg "_law_has_dict" sLHas ["value"] f fd) (B : Bn mg) (G : FnOk P w K mg base CX0 n f fd ["value"] (spHas w n)) :
    FnOk P w K mg base CX0 (n + 1) f fd ["value"] (spHas w (n + 1)) := by
  refine D.F.ok scLHas (fun vs H Q E h => ?_) (fun cdv A outer s H vs Q E hr h => ?_)
  · obtain ⟨x, d, rfl, _⟩ := h
    rfl
  obtain ⟨x, d, rfl, hl, a, hz, q⟩ := h
  have nd := scLHas.nd
  refine ⟨_, pss_one (ps_ret (pe_or (pe_callB call_isiA (by rfl) B.isinstance bt_isinstance (pa_cons (pv 0) (pa_cons (pe_bltn (v := .ty "dict") (by rfl) B.dict bt_dict rfl) pa_nil)))
    (pe_one (pe_and (pe_callB call_isiA (by rfl) B.isinstance bt_isinstance (pa_cons (pv 0) (pa_cons (pe_bltn (v := .ty "tuple") (by rfl) B.tuple bt_tuple rfl) pa_nil)))
      (pe_one (pe_cmpR (op_ne_nil (by exact hr.units)) (pe_lc (own := [("one", 1)]) (g := gName 1) (tt := tB (tCall (spHas w n) [] E0 (tCons (tVar 1) tNil))) rfl nd (pi_tup (pv 0)) (blkOk_by (N := ["value", "one"]) (sc := defScope sLHas) (by decide +kernel))
          (fun _ _ _ _ _ => pg_name (i := 1) nd rfl (Or.inl rfl)) (fun _ _ _ _ _ => pts_one (pt_val (pe_call G hr (by rfl) D.m D.F.kp D.b .nil pass0 (pa_cons (pv 1) pa_nil)))) (fun _ _ _ _ _ => pv 1)) (pe_lst pa_nil) (nomark _))))))), ?_⟩
  refine ⟨_, rfl, x, d, _, _, rfl, a, kit_dict d, _, rfl, ?_⟩
  refine ite2 (fun c => ?_) (fun c => ?_)
  · have e : hasD d = true := by
      cases d <;> first | (simp [tyOf] at c; done) | simp only [hasD]
    rw [e] at q
    exact q H fun _ _ h => h
  refine ⟨_, rfl, x, d, _, _, rfl, a, kit_tuple d, _, rfl, ?_⟩
  refine ite2 (fun c1 => ?_) (fun c1 => ?_)
  · obtain ⟨xs, rfl⟩ : ∃ xs, d = .tuple xs := by
      cases d <;> first | exact ⟨_, rfl⟩ | simp [tyOf] at c1
    obtain ⟨p, vs, rfl, hp, hv⟩ := a.inv_tup
    have hlen := hv.length
    have ew : wt (.tuple xs) = 3 + wts xs := by simp only [wt]
    have hw := wts_len xs
    have eh : hasD (.tuple xs) = xs.any hasD := by rw [← hasDs_any]; simp only [hasD]
    rw [eh] at q
    refine ⟨_, rfl, p, rfl, ⟨vs, SqT.of hp⟩, fun D hD => ?_⟩
    refine lc_tup (xs := vs) (fun i H' => (∃ ys : List V, H' D = some (.lst ys) ∧ ys.length ≤ i ∧ (!ys.isEmpty) = (xs.take i).any hasD) ∧ Same H H') ⟨⟨[], upd_same, Nat.le_refl _, rfl⟩, Same.new hD⟩ (fun i H' _ h' => SqT.of (h'.2 _ _ hp)) (fun i y H1 hy hq => ?_) (fun H' hq => ?_)
    · obtain ⟨e, he, a1⟩ := hv.get hy
      have hi : i < vs.length := (List.getElem?_eq_some_iff.mp hy).1
      have hm := List.mem_of_getElem? he
      have b := wts_mem hm
      obtain ⟨⟨ys, h1, h2, h3⟩, h4⟩ := hq
      refine ⟨rfl, ?_⟩
      refine ⟨_, rfl, y, e, rfl, ?_, a1.keep (Same.keep h4), by omega, fun H3 s3 => ⟨_, rfl, ?_⟩⟩
      · have := depthAll_mem hm
        simp only [PyData.depth] at hl
        omega
      · have et : (xs.take (i + 1)).any hasD = ((xs.take i).any hasD || hasD e) := by rw [List.take_succ, he, List.any_append]; simp
        refine ite2 (fun c5 => ?_) (fun c5 => ?_)
        · refine ⟨_, rfl, _, s3 _ _ h1, ?_, ⟨ys ++ [y], upd_same, by simp; omega, ?_⟩, same_upd hD (Same.trans h4 s3)⟩
          · rw [sizeLine_eq]
            unfold big at hz
            omega
          · rw [et, c5, Bool.or_true]
            cases ys <;> rfl
        · refine ⟨⟨ys, s3 _ _ h1, by omega, ?_⟩, Same.trans h4 s3⟩
          rw [et, Bool.eq_false_iff.mpr c5, Bool.or_false]
          exact h3
    · obtain ⟨⟨ys, h1, h2, h3⟩, h4⟩ := hq
      rw [List.take_of_length_le (by omega)] at h3
      refine ⟨(by show 0 ≤ sizeLine; decide), fun l hl => ?_⟩
      refine ⟨D, l, ys, rfl, rfl, SqL.of (by rw [upd_ne (ne_of_none h1 hl)]; exact h1), SqL.of upd_same, ?_⟩
      show Q (.bl (!ys.isEmpty)) _
      rw [h3]
      exact q _ (Same.trans h4 (Same.new hl))
  · have e : hasD d = false := by
      cases d <;> first | (simp [tyOf] at c; done) | (simp [tyOf] at c1; done) | simp only [hasD]
    rw [e] at q
    exact q H fun _ _ h => h
theorem ok_lhas (D : Df K mg "_law_has_dict" sLHas ["value"] f fd) (B : Bn mg) : ∀ n : Nat, FnOk P w K mg base CX0 n f fd ["value"] (spHas w n)
  | 0 => none_at fun vs H Q E h => by
    obtain ⟨_, _, _, z, _⟩ := h
    omega
  | n + 1 => ok_lhas1 D B (ok_lhas D B n)
end
end K15
end

section
set_option Elab.async false
set_option linter.all false
set_option maxRecDepth 100000
set_option pp.maxSteps 900
namespace K15
open PySem PySem.Spec PyProof.Rows L2 TL

abbrev sLeaf : Stmt := topS 30
abbrev sGreat : Stmt := topS 31
theorem scGreat : FnScope ["dice", "many", "found", "turn"] ["dice", "many"] (defScope sGreat) := ⟨rfl, rfl, rfl, by decide +kernel, rfl, by decide +kernel, by decide +kernel⟩
theorem scLeaf : FnScope ["dice", "way"] ["dice"] (defScope sLeaf) := ⟨rfl, rfl, rfl, by decide +kernel, rfl, by decide +kernel, by decide +kernel⟩
def spGreat : Sp := fun vs H Q _ => ∃ (da : Addr) (n : Nat), vs = [.ref da, .int n] ∧ Dice H da ∧ 0 < n ∧ n ≤ 300 ∧ ∀ H' (r : Nat), Kp da H H' → Dice H' da → r < 10 ^ n → Q (.int r) H'
section
variable {P : Program} {w : World} {K : PySem.W.Frag} {mg : Str → Option Value} {base : Heap} {f g : Addr} {fd gd : FuncData}
theorem ok_great (D : Df K mg "_law_great" sGreat ["dice", "many"] f fd) (R : Df K mg "_law_roll" sRoll ["dice", "total"] g gd) (B : Bn mg) (GR : FnOk P w K mg base CX0 1 g gd ["dice", "total"] spRoll) :
    FnOk P w K mg base CX0 2 f fd ["dice", "many"] spGreat := by
  refine D.F.ok scGreat (fun vs H Q E h => ?_) (fun cdv A outer s H vs Q E hr h => ?_)
  · obtain ⟨da, n, rfl, _⟩ := h
    rfl
  obtain ⟨da, n, rfl, hd, h0, h1, q⟩ := h
  have nd := scGreat.nd
  refine ⟨_, pss_cons (ps_set (i := 2) nd rfl (.inl rfl) (pe_op op_add pe_int (pe_call GR hr (by rfl) R.m R.F.kp R.b .nil pass0 (pa_cons (pv 0) (pa_cons pe_int pa_nil)))))
    (pss_cons (ps_for PassesOwn.never rfl (pi_range1 (by rfl) B.range (pa_cons (pe_op op_sub (pv 1) pe_int) pa_nil)) (pg_name (i := 3) nd rfl (Or.inl rfl))
      (pss_one (ps_set (i := 2) nd rfl (.inl rfl) (pe_op op_add (pe_op op_mul pe_int (pv 2)) (pe_call GR hr (by rfl) R.m R.F.kp R.b .nil pass0 (pa_cons (pv 0) (pa_cons pe_int pa_nil)))))))
    (pss_one (ps_ret (pv 2)))), ?_⟩
  refine ⟨_, rfl, da, 9, rfl, hd, by decide, by decide, fun H1 r k1 d1 _ _ r0 r1 => ⟨_, _, rfl, rfl, ?_⟩⟩
  obtain ⟨m, rfl⟩ : ∃ m : Nat, n = m + 1 := ⟨n - 1, by omega⟩
  refine ⟨_, rfl, _, _, rfl, rfl, ((m : Nat) : Int), ?_, by omega, by omega, ?_⟩
  · show [V.int (((m + 1 : Nat) : Int) - 1)] = _
    rw [show ((m + 1 : Nat) : Int) - 1 = (m : Int) by omega]
  refine for_range (lo := 0) (n := m) (fun i σ H' => ∃ (v : Nat) (t : Option V), σ = [some (.ref da), some (.int ((m + 1 : Nat) : Int)), some (.int v), t] ∧ v < 10 ^ (i + 1) ∧ Kp da H H' ∧ Dice H' da) ?_ (fun i σ H2 hi hp => ?_) (fun σ H2 hp => ?_)
  · refine ⟨(1 + r).toNat, none, ?_, by omega, k1, d1⟩
    rw [Int.toNat_of_nonneg (by omega)]
    rfl
  · obtain ⟨v, t, rfl, h2, h3, h4⟩ := hp
    refine ⟨_, rfl, _, _, rfl, rfl, .inl ⟨by decide, by decide⟩, _, rfl, da, 10, rfl, h4, by decide, by decide, fun H3 r k d e _ r0 r1 => ⟨_, _, rfl, rfl, ?_⟩⟩
    refine ⟨(10 * (v : Int) + r).toNat, some (.int (0 + i)), ?_, ?_, h3.trans k, d⟩
    · rw [Int.toNat_of_nonneg (by omega)]
      rfl
    · have : 10 ^ (i + 1 + 1) = 10 * 10 ^ (i + 1) := by rw [Nat.pow_succ]; omega
      omega
  · obtain ⟨v, t, rfl, h2, h3, h4⟩ := hp
    exact ⟨_, rfl, q _ _ h3 h4 h2⟩
structure LeafD (d : PyData) : Prop where
  ok : okD d = true
  nd : hasD d = false
  dp : d.depth = 0
  ln : (txt d).length ≤ 302
def spLeaf (w : World) : Sp := fun vs H Q _ => ∃ (da : Addr), vs = [.ref da] ∧ Dice H da ∧ ∀ H' x d, Kp da H H' → Dice H' da → At w H' x d → LeafD d → Q x H'
theorem leaf_non : LeafD .none := ⟨rfl, rfl, rfl, by decide⟩
theorem leaf_int {i : Int} (h : i.natAbs < 10 ^ 300) : LeafD (.int i) := by
  refine ⟨?_, rfl, rfl, ?_⟩
  · simp only [okD, leafInt]
    exact decide_eq_true (Nat.lt_of_lt_of_le h (Nat.pow_le_pow_right (by decide) (by decide)))
  · have := numL_len (k := 300) (by decide) h
    simp only [txt, intT]
    split
    · rw [List.length_cons]; omega
    · omega
theorem leaf_str {z : Str} (h : z.length ≤ 9) (hs : ∀ c ∈ tl z, isSig c = true) : LeafD (.str z) := by
  refine ⟨?_, rfl, rfl, ?_⟩
  · simp only [okD, leafStr]
    rw [decide_eq_true (by omega), Bool.true_and]
    exact List.all_eq_true.mpr hs
  · simp only [txt, List.length_cons, List.length_append, List.length_nil, ← TL.len_tl]
    omega
theorem ok_leaf {r p l r1 : Addr} {rd pd ld : FuncData} (D : Df K mg "_law_leaf" sLeaf ["dice"] f fd) (R : Df K mg "_law_roll" sRoll ["dice", "total"] r rd) (Pk : Df K mg "_law_pick" sPick ["dice", "items"] p pd) (L : Df K mg "_law_letters" sLetters ["dice", "many"] l ld) (G : Df K mg "_law_great" sGreat ["dice", "many"] g gd)
    (GR : FnOk P w K mg base CX0 1 r rd ["dice", "total"] spRoll) (GP : FnOk P w K mg base CX0 2 p pd ["dice", "items"] (spPick K)) (GL : FnOk P w K mg base CX0 3 l ld ["dice", "many"] spLetters) (GG : FnOk P w K mg base CX0 2 g gd ["dice", "many"] spGreat) :
    FnOk P w K mg base CX0 4 f fd ["dice"] (spLeaf w) := by
  refine D.F.ok scLeaf (fun vs H Q E h => ?_) (fun cdv A outer s H vs Q E hr h => ?_)
  · obtain ⟨da, rfl, _⟩ := h
    rfl
  obtain ⟨da, rfl, hd, q⟩ := h
  have nd := scLeaf.nd
  refine ⟨_, pss_cons (ps_set (i := 1) nd rfl (.inl rfl) (pe_call GR (hr.mono (by decide)) (by rfl) R.m R.F.kp R.b .nil pass0 (pa_cons (pv 0) (pa_cons pe_int pa_nil))))
    (pss_cons (ps_if (pt_cmpR op_eq (pv 1) pe_int (nomark _)) (pss_one (ps_ret pe_non)) pss_nil)
    (pss_cons (ps_if (pt_cmpR op_lt (pv 1) pe_int (nomark _)) (pss_one (ps_ret (pe_call GL hr (by rfl) L.m L.F.kp L.b .nil pass0 (pa_cons (pv 0) (pa_cons (pe_call GP (hr.mono (by decide)) (by rfl) Pk.m Pk.F.kp Pk.b .nil pass0 (pa_cons (pv 0) (pa_cons (pe_lst (pa_cons pe_int (pa_cons pe_int (pa_cons pe_int (pa_cons pe_int (pa_cons pe_int pa_nil)))))) pa_nil))) pa_nil))))) pss_nil)
    (pss_cons (ps_if (pt_cmpR op_eq (pv 1) pe_int (nomark _)) (pss_one (ps_ret (pe_op op_mul (pe_op op_sub pe_int (pe_op op_mul pe_int (pe_call GR (hr.mono (by decide)) (by rfl) R.m R.F.kp R.b .nil pass0 (pa_cons (pv 0) (pa_cons pe_int pa_nil))))) (pe_call GG (hr.mono (by decide)) (by rfl) G.m G.F.kp G.b .nil pass0 (pa_cons (pv 0) (pa_cons (pe_call GP (hr.mono (by decide)) (by rfl) Pk.m Pk.F.kp Pk.b .nil pass0 (pa_cons (pv 0) (pa_cons (pe_lst (pa_cons pe_int (pa_cons pe_int (pa_cons pe_int (pa_cons pe_int pa_nil))))) pa_nil))) pa_nil)))))) pss_nil)
    (pss_one (ps_ret (pe_call GP (hr.mono (by decide)) (by rfl) Pk.m Pk.F.kp Pk.b .nil pass0 (pa_cons (pv 0) (pa_cons (pe_lst (pa_cons pe_int (pa_cons pe_int (pa_cons (pe_un un_neg pe_int) (pa_cons pe_int (pa_cons pe_int (pa_cons pe_int (pa_cons pe_int (pa_cons (pe_un un_neg pe_int) (pa_cons pe_int (pa_cons (pe_op op_sub (pe_call GR (hr.mono (by decide)) (by rfl) R.m R.F.kp R.b .nil pass0 (pa_cons (pv 0) (pa_cons pe_int pa_nil))) pe_int) pa_nil))))))))))) pa_nil)))))))), ?_⟩
  refine ⟨_, rfl, da, 8, rfl, hd, by decide, by decide, fun H1 x k1 d1 _ _ x0 x1 => ?_⟩
  refine ⟨_, rfl, rfl, _, rfl, ?_⟩
  refine ite2 (fun c => ?_) (fun c => ?_)
  · exact q H1 _ _ k1 d1 .non leaf_non
  refine ⟨_, rfl, _, _, rfl, rfl, _, rfl, ?_⟩
  refine ite2 (fun c => ?_) (fun c => ?_)
  · refine ⟨_, rfl, _, rfl, (by show 5 ≤ sizeLine; decide), fun a ha => ?_⟩
    refine ⟨da, .ref a, rfl, d1.new ha, .inl ⟨a, _, rfl, d1.ne ha, SqL.of upd_same, by decide, by decide, fun H2 v k2 d2 e2 hv => ?_⟩⟩
    obtain ⟨n, rfl, hn⟩ : ∃ n : Nat, v = .int n ∧ n ≤ 9 := by
      simp only [List.mem_cons, List.not_mem_nil, or_false] at hv
      rcases hv with rfl | rfl | rfl | rfl | rfl
      · exact ⟨0, rfl, by decide⟩
      · exact ⟨1, rfl, by decide⟩
      · exact ⟨2, rfl, by decide⟩
      · exact ⟨4, rfl, by decide⟩
      · exact ⟨9, rfl, by decide⟩
    exact ⟨da, n, rfl, d2, hn, fun H3 z k3 d3 hz hs => q H3 _ _ (((k1.trans (Kp.new ha)).trans k2).trans k3) d3 (.str z) (leaf_str (by omega) hs)⟩
  refine ⟨_, rfl, rfl, _, rfl, ?_⟩
  refine ite2 (fun c => ?_) (fun c => ?_)
  · refine ⟨_, rfl, da, 2, rfl, d1, by decide, by decide, fun H2 y k2 d2 _ _ y0 y1 => ?_⟩
    refine ⟨_, _, rfl, rfl, .inl ⟨by decide, by decide⟩, _, _, rfl, rfl, ?_⟩
    refine ⟨_, rfl, _, rfl, (by show 4 ≤ sizeLine; decide), fun a ha => ?_⟩
    refine ⟨da, .ref a, rfl, d2.new ha, .inl ⟨a, _, rfl, d2.ne ha, SqL.of upd_same, by decide, by decide, fun H3 v k3 d3 e3 hv => ?_⟩⟩
    obtain ⟨n, rfl, hn0, hn⟩ : ∃ n : Nat, v = .int n ∧ 0 < n ∧ n ≤ 300 := by
      simp only [List.mem_cons, List.not_mem_nil, or_false] at hv
      rcases hv with rfl | rfl | rfl | rfl
      · exact ⟨20, rfl, by decide, by decide⟩
      · exact ⟨61, rfl, by decide, by decide⟩
      · exact ⟨200, rfl, by decide, by decide⟩
      · exact ⟨300, rfl, by decide, by decide⟩
    refine ⟨da, n, rfl, d3, hn0, hn, fun H4 z k4 d4 hz => ?_⟩
    refine ⟨_, _, rfl, rfl, .inl ⟨by show -(2 ^ 64) < 1 - 2 * y; omega, by show 1 - 2 * y < 2 ^ 64; omega⟩, ?_⟩
    refine q H4 _ _ ((((k1.trans k2).trans (Kp.new ha)).trans k3).trans k4) d4 (.int _) (leaf_int ?_)
    have hz : z < 10 ^ 300 := Nat.lt_of_lt_of_le hz (Nat.pow_le_pow_right (by decide) hn)
    rw [Int.natAbs_mul, Int.natAbs_natCast]
    have : (1 - 2 * y).natAbs = 1 := by omega
    rw [this, Nat.one_mul]
    exact hz
  refine ⟨_, rfl, _, rfl, _, rfl, _, rfl, da, 5000, rfl, d1, by decide, by decide, fun H2 y k2 d2 _ _ y0 y1 => ?_⟩
  refine ⟨_, _, rfl, rfl, (by show 10 ≤ sizeLine; decide), fun a ha => ?_⟩
  refine ⟨da, .ref a, rfl, d2.new ha, .inl ⟨a, _, rfl, d2.ne ha, SqL.of upd_same, (by show 0 < 10; decide), (by show 10 < 2 ^ 20; decide), fun H3 v k3 d3 e3 hv => ?_⟩⟩
  obtain ⟨n, rfl, hn⟩ : ∃ n : Int, v = .int n ∧ n.natAbs ≤ 5000 := by
    simp only [List.mem_cons, List.not_mem_nil, or_false, List.append_nil, List.singleton_append] at hv
    rcases hv with rfl | rfl | rfl | rfl | rfl | rfl | rfl | rfl | rfl | rfl
    · exact ⟨0, rfl, by decide⟩
    · exact ⟨1, rfl, by decide⟩
    · exact ⟨-1, rfl, by decide⟩
    · exact ⟨2, rfl, by decide⟩
    · exact ⟨10, rfl, by decide⟩
    · exact ⟨9, rfl, by decide⟩
    · exact ⟨100, rfl, by decide⟩
    · exact ⟨-10, rfl, by decide⟩
    · exact ⟨12, rfl, by decide⟩
    · exact ⟨y - 2500, rfl, by omega⟩
  exact q H3 _ _ ((k1.trans k2).trans ((Kp.new ha).trans k3)) d3 (.int n) (leaf_int (Nat.lt_of_le_of_lt hn (by decide +kernel)))
end
end K15
end

section
set_option Elab.async false
set_option linter.all false
set_option maxRecDepth 100000
set_option pp.maxSteps 900
namespace K15
open PySem PySem.Spec PyProof.Rows L2 TL

theorem joinL_le : ∀ ts : List Tx, (joinL [32] ts).length ≤ (ts.map List.length).sum + ts.length
  | [] => by simp [joinL]
  | [a] => by simp [joinL]
  | a :: b :: r => by
    have := joinL_le (b :: r)
    show (a ++ ([32] ++ joinL [32] (b :: r))).length ≤ ((a :: b :: r).map List.length).sum + (a :: b :: r).length
    rw [List.length_append, List.length_append]
    simp only [List.map_cons, List.sum_cons, List.length_cons, List.length_nil] at this ⊢
    omega
theorem sum_le {α : Type} {f : α → Nat} {k : Nat} : ∀ {l : List α}, (∀ x ∈ l, f x ≤ k) → (l.map f).sum ≤ l.length * k
  | [], _ => by simp
  | a :: r, h => by
    have h1 := h a List.mem_cons_self
    have h2 := sum_le fun x hx => h x (List.mem_cons_of_mem a hx)
    rw [List.map_cons, List.sum_cons, List.length_cons, Nat.succ_mul]
    omega
theorem txt_tup_le {xs : List PyData} {k : Nat} (h : ∀ x ∈ xs, (txt x).length ≤ k) : (txt (.tuple xs)).length ≤ xs.length * (k + 1) + 2 := by
  have e : (txt (.tuple xs)).length = (joinL [32] (txts xs)).length + 2 := by
    simp only [txt, List.length_cons, List.length_append, List.length_nil]
  have g := joinL_le (txts xs)
  rw [txts_map, List.map_map, List.length_map] at g
  have s := sum_le (f := List.length ∘ txt) h
  rw [e, txts_map, Nat.mul_add, Nat.mul_one]
  omega
theorem okDs_all_mem {xs : List PyData} (h : ∀ x ∈ xs, okD x = true) : okDs xs = true := by
  rw [okDs_all]
  exact List.all_eq_true.mpr h
theorem hasDs_all_mem {xs : List PyData} (h : ∀ x ∈ xs, hasD x = false) : hasDs xs = false := by
  rw [hasDs_any]
  exact List.any_eq_false.mpr fun x hx => by rw [h x hx]; exact Bool.false_ne_true
theorem depthAll_le {k : Nat} : ∀ {xs : List PyData}, (∀ x ∈ xs, x.depth ≤ k) → PyData.depthAll xs ≤ k
  | [], _ => by simp only [PyData.depthAll]; exact Nat.zero_le _
  | x :: r, h => by
    have h1 := h x List.mem_cons_self
    have h2 := depthAll_le fun y hy => h y (List.mem_cons_of_mem x hy)
    simp only [PyData.depthAll]
    omega
abbrev sKey : Stmt := topS 32
theorem scKey : FnScope ["dice", "deep", "turn"] ["dice", "deep"] (defScope sKey) := ⟨rfl, rfl, rfl, by decide +kernel, rfl, by decide +kernel, by decide +kernel⟩
def kb : Nat → Nat
  | 0 => 302
  | n + 1 => 3 * (kb n + 1) + 2
theorem kb_ge : ∀ n, 302 ≤ kb n
  | 0 => Nat.le_refl _
  | n + 1 => by
    have := kb_ge n
    show 302 ≤ 3 * (kb n + 1) + 2
    omega
structure KeyD (n : Nat) (d : PyData) : Prop where
  ok : okD d = true
  nd : hasD d = false
  dp : d.depth ≤ n
  ln : (txt d).length ≤ kb n
theorem LeafD.key {d : PyData} (l : LeafD d) (n : Nat) : KeyD n d := ⟨l.ok, l.nd, by rw [l.dp]; exact Nat.zero_le _, Nat.le_trans l.ln (kb_ge n)⟩
theorem key_tup {n : Nat} {xs : List PyData} (h : ∀ x ∈ xs, KeyD n x) (hl : xs.length ≤ 3) : KeyD (n + 1) (.tuple xs) := by
  refine ⟨?_, ?_, ?_, ?_⟩
  · simp only [okD]; exact okDs_all_mem fun x hx => (h x hx).ok
  · simp only [hasD]; exact hasDs_all_mem fun x hx => (h x hx).nd
  · have := depthAll_le fun x hx => (h x hx).dp
    simp only [PyData.depth]
    omega
  · have := txt_tup_le fun x hx => (h x hx).ln
    have m := Nat.mul_le_mul_right (kb n + 1) hl
    show _ ≤ 3 * (kb n + 1) + 2
    omega
def spKey (w : World) (n : Nat) : Sp := fun vs H Q _ => ∃ (da : Addr) (deep : Nat), vs = [.ref da, .int deep] ∧ deep < n ∧ Dice H da ∧ ∀ H' x d, Kp da H H' → Dice H' da → At w H' x d → KeyD deep d → Q x H'
theorem Ats.mem {w : World} {H : Hp} : ∀ {xs : List V} {ds : List PyData}, Ats w H xs ds → xs.length = ds.length := Ats.length
section
variable {P : Program} {w : World} {K : PySem.W.Frag} {mg : Str → Option Value} {base : Heap} {f g : Addr} {fd gd : FuncData}
theorem ok_key1 {n : Nat} {r p l : Addr} {rd pd ld : FuncData} (D : Df K mg "_law_key" sKey ["dice", "deep"] f fd) (R : Df K mg "_law_roll" sRoll ["dice", "total"] r rd) (Pk : Df K mg "_law_pick" sPick ["dice", "items"] p pd) (L : Df K mg "_law_leaf" sLeaf ["dice"] l ld) (B : Bn mg)
    (GR : FnOk P w K mg base CX0 1 r rd ["dice", "total"] spRoll) (GP : FnOk P w K mg base CX0 2 p pd ["dice", "items"] (spPick K)) (GL : FnOk P w K mg base CX0 4 l ld ["dice"] (spLeaf w)) (G : FnOk P w K mg base CX0 (n + 4) f fd ["dice", "deep"] (spKey w n)) :
    FnOk P w K mg base CX0 (n + 5) f fd ["dice", "deep"] (spKey w (n + 1)) := by
  refine D.F.ok scKey (fun vs H Q E h => ?_) (fun cdv A outer s H vs Q E hr h => ?_)
  · obtain ⟨da, deep, rfl, _⟩ := h
    rfl
  obtain ⟨da, deep, rfl, hl, hd, q⟩ := h
  have nd := scKey.nd
  refine ⟨_, pss_cons (ps_if (pw_or (pt_cmpR op_lt (pv 1) pe_int (nomark _)) (pw_or1 (pt_cmpR op_eq (pe_call GR (hr.mono (by omega)) (by rfl) R.m R.F.kp R.b .nil pass0 (pa_cons (pv 0) (pa_cons pe_int pa_nil))) pe_int (nomark _)))).pt
      (pss_one (ps_ret (pe_call GL (hr.mono (by omega)) (by rfl) L.m L.F.kp L.b .nil pass0 (pa_cons (pv 0) pa_nil)))) pss_nil)
    (pss_one (ps_ret (pe_callTy call_tuple_of (by rfl) B.tuple bt_tuple (pa_cons (pe_lc (own := [("turn", 2)]) (g := gName 2) (tt := tYes) rfl nd (pi_range1 (by rfl) B.range (pa_cons (pe_call GP (hr.mono (by omega)) (by rfl) Pk.m Pk.F.kp Pk.b .nil pass0 (pa_cons (pv 0) (pa_cons (pe_lst (pa_cons pe_int (pa_cons pe_int (pa_cons pe_int (pa_cons pe_int (pa_cons pe_int pa_nil)))))) pa_nil))) pa_nil)) (blkOk_by (N := ["dice", "deep", "turn"]) (sc := defScope sKey) (by decide +kernel))
      (fun _ _ _ _ _ => pg_name (i := 2) nd rfl (Or.inl rfl)) (fun _ _ _ _ _ => pts_nil) (fun _ _ _ _ _ => pe_call G hr (by rfl) D.m D.F.kp D.b .nil pass0 (pa_cons (pv 0) (pa_cons (pe_op op_sub (pv 1) pe_int) pa_nil)))) pa_nil)))), ?_⟩
  refine ⟨_, rfl, _, _, rfl, rfl, _, rfl, ?_⟩
  have leaf : ∀ H1, Kp da H H1 → Dice H1 da → spLeaf w [.ref da] H1 Q E0 := fun H1 k1 d1 => ⟨da, rfl, d1, fun H2 x d k2 d2 a hL => q H2 x d (k1.trans k2) d2 a (hL.key deep)⟩
  refine ite2 (fun c => ?_) (fun c => ?_)
  · exact ⟨_, rfl, leaf H (Kp.refl _ _) hd⟩
  have h0 : 0 < deep := by
    have : ¬ (deep : Int) < 1 := of_decide_eq_false (Bool.eq_false_iff.mpr c)
    omega
  refine ⟨_, rfl, da, 2, rfl, hd, by decide, by decide, fun H1 y k1 d1 _ _ y0 y1 => ⟨rfl, _, rfl, ?_⟩⟩
  refine ite2 (fun c2 => ?_) (fun c2 => ?_)
  · exact ⟨_, rfl, leaf H1 k1 d1⟩
  refine ⟨_, rfl, (by show 5 ≤ sizeLine; decide), fun a ha => ?_⟩
  refine ⟨da, .ref a, rfl, d1.new ha, .inl ⟨a, _, rfl, d1.ne ha, SqL.of upd_same, by decide, by decide, fun H2 v k2 d2 e2 hv => ?_⟩⟩
  obtain ⟨m, rfl, hm⟩ : ∃ m : Nat, v = .int m ∧ m ≤ 3 := by
    simp only [List.mem_cons, List.not_mem_nil, or_false] at hv
    rcases hv with rfl | rfl | rfl | rfl | rfl
    · exact ⟨0, rfl, by decide⟩
    · exact ⟨1, rfl, by decide⟩
    · exact ⟨1, rfl, by decide⟩
    · exact ⟨2, rfl, by decide⟩
    · exact ⟨3, rfl, by decide⟩
  have k02 : Kp da H H2 := k1.trans ((Kp.new ha).trans k2)
  refine ⟨(m : Int), rfl, by omega, by omega, fun Da hDa => ?_⟩
  refine lc_range (lo := 0) (n := m) (fun i H' => ∃ (xs : List V) (ds : List PyData), H' Da = some (.lst xs) ∧ Ats w H' xs ds ∧ xs.length = i ∧ (∀ d ∈ ds, KeyD (deep - 1) d) ∧ Dice H' da ∧ Kp da H H') ⟨[], [], upd_same, .nil, rfl, fun _ z => (nomatch z), d2.new hDa, k02.trans (Kp.new hDa)⟩ (fun i H3 hi hp => ?_) (fun H3 hp => ?_)
  · obtain ⟨xs, ds, h1, h2, h3, h4, h5, h6⟩ := hp
    refine ⟨rfl, ?_⟩
    refine tYes_if ?_
    refine ⟨_, rfl, _, rfl, _, _, rfl, rfl, da, deep - 1, ?_, by omega, h5, fun H4 x d k4 d4 ax kd => ?_⟩
    · have : (deep : Int) - 1 = ((deep - 1 : Nat) : Int) := by omega
      show [V.ref da, V.int ((deep : Int) - 1)] = _
      rw [this]
    · have hne : Da ≠ da := d2.ne hDa
      have hD4 := k4 _ _ hne h1
      have km : Keep H4 (upd H4 Da (.lst (xs ++ [x]))) := Keep.mut (by rw [hD4]; trivial)
      refine ⟨_, hD4, ?_, xs ++ [x], ds ++ [d], upd_same, ?_, by simp [h3], ?_, ?_, ?_⟩
      · rw [sizeLine_eq]; omega
      · exact ((h2.keep (k4.keep h5)).snoc ax).keep km
      · intro e he
        rcases List.mem_append.mp he with z | z
        · exact h4 e z
        · rw [List.mem_singleton.mp z]; exact kd
      · obtain ⟨g', t', q', r'⟩ := d4
        exact ⟨g', t', by rw [upd_ne (Ne.symm hne)]; exact q', r'⟩
      · intro b o hb ho
        have hb2 : b ≠ Da := fun z => by
          have := k02 b o hb ho
          rw [z, hDa] at this
          cases this
        rw [upd_ne hb2]
        exact k4 b o hb (h6 b o hb ho)
  · obtain ⟨xs, ds, h1, h2, h3, h4, h5, h6⟩ := hp
    refine ⟨Da, xs, rfl, .inl ⟨SqL.of h1, fun t ht => ?_⟩⟩
    have kd : KeyD deep (.tuple ds) := by
      obtain ⟨n', rfl⟩ : ∃ n', deep = n' + 1 := ⟨deep - 1, by omega⟩
      exact key_tup h4 (by rw [← h2.length]; omega)
    refine q _ _ (.tuple ds) (h6.trans (Kp.new ht)) (h5.new ht) (.tup upd_same (h2.keep (Keep.new ht))) kd
theorem ok_key {r p l : Addr} {rd pd ld : FuncData} (D : Df K mg "_law_key" sKey ["dice", "deep"] f fd) (R : Df K mg "_law_roll" sRoll ["dice", "total"] r rd) (Pk : Df K mg "_law_pick" sPick ["dice", "items"] p pd) (L : Df K mg "_law_leaf" sLeaf ["dice"] l ld) (B : Bn mg)
    (GR : FnOk P w K mg base CX0 1 r rd ["dice", "total"] spRoll) (GP : FnOk P w K mg base CX0 2 p pd ["dice", "items"] (spPick K)) (GL : FnOk P w K mg base CX0 4 l ld ["dice"] (spLeaf w)) : ∀ n : Nat, FnOk P w K mg base CX0 (n + 4) f fd ["dice", "deep"] (spKey w n)
  | 0 => none_at fun vs H Q E h => by
    obtain ⟨_, _, _, z, _⟩ := h
    omega
  | n + 1 => ok_key1 D R Pk L B GR GP GL (ok_key D R Pk L B GR GP GL n)
end
end K15
end

section
set_option Elab.async false
set_option linter.all false
set_option maxRecDepth 100000
set_option pp.maxSteps 900
namespace K15
open PySem PySem.Spec PyProof.Rows L2 TL

mutual
theorem plain_mono : ∀ (d : PyData) {n m : Nat}, n ≤ m → plain n d = true → plain m d = true
  | .none, _, _, _, _ => by simp only [plain]
  | .bool _, _, _, _, h => by simp [plain] at h
  | .int _, _, _, _, h => by simpa only [plain] using h
  | .str _, _, _, _, h => by simpa only [plain] using h
  | .list _, _, _, _, h => by simp [plain] at h
  | .tuple xs, n, m, hm, h => by
    simp only [plain, Bool.and_eq_true, decide_eq_true_eq] at h ⊢
    exact ⟨by omega, plains_mono xs (by omega) h.2⟩
  | .dict kvs, n, m, hm, h => by
    simp only [plain, Bool.and_eq_true, decide_eq_true_eq] at h ⊢
    exact ⟨by omega, plainKv_mono kvs (by omega) h.2⟩
theorem plains_mono : ∀ (xs : List PyData) {n m : Nat}, n ≤ m → plains n xs = true → plains m xs = true
  | [], _, _, _, _ => by simp only [plains]
  | x :: xs, n, m, hm, h => by
    simp only [plains, Bool.and_eq_true] at h ⊢
    exact ⟨plain_mono x hm h.1, plains_mono xs hm h.2⟩
theorem plainKv_mono : ∀ (kvs : List (PyData × PyData)) {n m : Nat}, n ≤ m → plainKv n kvs = true → plainKv m kvs = true
  | [], _, _, _, _ => by simp only [plainKv]
  | (k, v) :: r, n, m, hm, h => by
    simp only [plainKv, Bool.and_eq_true] at h ⊢
    exact ⟨⟨plain_mono k (by omega) h.1.1, plain_mono v hm h.1.2⟩, plainKv_mono r hm h.2⟩
end
/-! bounds on the text of a drawn value -/
def vb (n : Nat) : Nat := [302, 3032, 6077, 17942, 48392, 145202, 425342, 1276682, 1590317, 2553062].getD n 0
def tS (n : Nat) : Nat → Nat
  | 0 => 0
  | i + 1 => tS n i + (vb (n - 1 - 3 * i) + 1)
def dS (n : Nat) : Nat → Nat
  | 0 => 0
  | i + 1 => dS n i + (kb (min 6 (n - 1)) + vb (n - 2 - 2 * i) + 2)
theorem tS_le : ∀ n < 10, ∀ i < 5, 1 ≤ n → tS n i + 2 ≤ vb n := by decide +kernel
theorem dS_le : ∀ n < 10, ∀ i < 6, 1 ≤ n → dS n i + 2 ≤ vb n := by decide +kernel
theorem vb_ge : ∀ n < 10, 302 ≤ vb n := by decide +kernel
theorem vb_big : ∀ n < 10, vb n < 2 ^ 22 := by decide +kernel
theorem perm_sum {l m : List Nat} (p : l.Perm m) : l.sum = m.sum := by
  induction p with
  | nil => rfl
  | cons x _ ih => rw [List.sum_cons, List.sum_cons, ih]
  | swap x y l => rw [List.sum_cons, List.sum_cons, List.sum_cons, List.sum_cons]; omega
  | trans _ _ h1 h2 => rw [h1, h2]
def lnE (e : PyData × PyData) : Nat := (txt e.1).length + (txt e.2).length + 2
theorem txt_tup_sum (xs : List PyData) : (txt (.tuple xs)).length ≤ (xs.map fun x => (txt x).length + 1).sum + 2 := by
  have e : (txt (.tuple xs)).length = (joinL [32] (txts xs)).length + 2 := by
    simp only [txt, List.length_cons, List.length_append, List.length_nil]
  have g := joinL_le (txts xs)
  rw [txts_map, List.map_map, List.length_map] at g
  have s : ∀ xs : List PyData, (xs.map fun x => (txt x).length + 1).sum = (xs.map (List.length ∘ txt)).sum + xs.length := by
    intro xs
    induction xs with
    | nil => rfl
    | cons x r ih => rw [List.map_cons, List.sum_cons, ih, List.map_cons, List.sum_cons, List.length_cons]; show _ = (txt x).length + _ + _; omega
  rw [e, txts_map, s]
  omega
theorem txt_dict_sum (kvs : List (PyData × PyData)) : (txt (.dict kvs)).length ≤ (kvs.map lnE).sum + 2 := by
  have e : (txt (.dict kvs)).length = (joinL [32] ((byT kvs).map prT)).length + 2 := by
    rw [txt_dict]
    simp only [List.length_cons, List.length_append, List.length_nil]
  have g := joinL_le ((byT kvs).map prT)
  have p : (byT kvs).Perm kvs := srtE_perm _ kvs
  rw [List.map_map, List.length_map] at g
  have s : ∀ l : List (PyData × PyData), (l.map lnE).sum = (l.map (List.length ∘ prT)).sum + l.length := by
    intro l
    induction l with
    | nil => rfl
    | cons x r ih =>
      rw [List.map_cons, List.sum_cons, ih, List.map_cons, List.sum_cons, List.length_cons]
      have : (prT x).length = (txt x.1).length + ((txt x.2).length + 1) := by
        show (txt x.1 ++ 32 :: txt x.2).length = _
        rw [List.length_append, List.length_cons]
      show (txt x.1).length + (txt x.2).length + 2 + _ = (prT x).length + _ + _
      omega
  rw [e, ← perm_sum (p.map lnE), s]
  omega
theorem putD_sum (k v : PyData) : ∀ kvs : List (PyData × PyData), ((putD k v kvs).map lnE).sum ≤ (kvs.map lnE).sum + lnE (k, v)
  | [] => by simp [putD]
  | x :: r => by
    have := putD_sum k v r
    unfold putD
    split
    · rw [List.map_cons, List.sum_cons, List.map_cons, List.sum_cons]
      show (txt x.1).length + (txt v).length + 2 + _ ≤ (txt x.1).length + (txt x.2).length + 2 + _ + ((txt k).length + (txt v).length + 2)
      omega
    · rw [List.map_cons, List.sum_cons, List.map_cons, List.sum_cons]
      omega
theorem putD_okKv {k v : PyData} {kvs : List (PyData × PyData)} (h : okKv kvs = true) (hk : okD k = true) (hn : hasD k = false) (hv : okD v = true) : okKv (putD k v kvs) = true := by
  have hm := okKv_mem h
  rw [okKv_all]
  refine List.all_eq_true.mpr fun e he => ?_
  rcases putD_mem he with rfl | h1 | ⟨e', h1, rfl⟩
  · simp [hk, hn, hv]
  · have := hm e h1
    simp [this.1, this.2.1, this.2.2]
  · have := hm e' h1
    simp [this.1, this.2.1, hv]
theorem putD_plainKv {n : Nat} {k v : PyData} {kvs : List (PyData × PyData)} (h : plainKv n kvs = true) (hk : plain (min n 6) k = true) (hv : plain n v = true) : plainKv n (putD k v kvs) = true := by
  have hm := plainKv_mem h
  rw [plainKv_all]
  refine List.all_eq_true.mpr fun e he => ?_
  rcases putD_mem he with rfl | h1 | ⟨e', h1, rfl⟩
  · simp [hk, hv]
  · have := hm e h1
    simp [this.1, this.2]
  · have := hm e' h1
    simp [this.1, hv]
theorem okD_of_keys {kvs : List (PyData × PyData)} (h : okKv kvs = true) (q : KeysOk kvs) : okD (.dict kvs) = true := by
  have nd : (kvs.map (·.1)).Nodup := by
    have := q.nd
    unfold List.Nodup at this ⊢
    rw [List.pairwise_map] at this ⊢
    exact this.imp fun h e => h (by rw [e])
  simp only [okD, h, Bool.true_and]
  exact decide_eq_true (nodup_txt h nd)
structure ValD (n : Nat) (d : PyData) : Prop where
  ok : okD d = true
  pl : plain n d = true
  ln : (txt d).length ≤ vb n
theorem LeafD.val {d : PyData} (l : LeafD d) {n : Nat} (hn : n < 10) : ValD n d := ⟨l.ok, plain_of_depth d n l.ok l.nd (by rw [l.dp]; exact Nat.zero_le _), Nat.le_trans l.ln (vb_ge n hn)⟩
abbrev sValue : Stmt := topS 33
theorem scValue : FnScope ["dice", "deep", "way", "found", "turn", "at"] ["dice", "deep"] (defScope sValue) := ⟨rfl, rfl, rfl, by decide +kernel, rfl, by decide +kernel, by decide +kernel⟩
def spVal (w : World) (n : Nat) : Sp := fun vs H Q _ => ∃ (da : Addr) (deep : Int), vs = [.ref da, .int deep] ∧ deep.toNat < n ∧ deep < 10 ∧ Dice H da ∧ ∀ H' x d, Kp da H H' → Dice H' da → At w H' x d → ValD deep.toNat d → Q x H'
section
variable {P : Program} {w : World} {K : PySem.W.Frag} {mg : Str → Option Value} {base : Heap} {f g : Addr} {fd gd : FuncData}
theorem ok_value1 {n : Nat} {r p l k : Addr} {rd pd ld kd : FuncData} (D : Df K mg "_law_value" sValue ["dice", "deep"] f fd) (R : Df K mg "_law_roll" sRoll ["dice", "total"] r rd) (Pk : Df K mg "_law_pick" sPick ["dice", "items"] p pd) (L : Df K mg "_law_leaf" sLeaf ["dice"] l ld) (Ky : Df K mg "_law_key" sKey ["dice", "deep"] k kd) (B : Bn mg)
    (GR : FnOk P w K mg base CX0 1 r rd ["dice", "total"] spRoll) (GP : FnOk P w K mg base CX0 2 p pd ["dice", "items"] (spPick K)) (GL : FnOk P w K mg base CX0 4 l ld ["dice"] (spLeaf w)) (GK : FnOk P w K mg base CX0 11 k kd ["dice", "deep"] (spKey w 7)) (G : FnOk P w K mg base CX0 (n + 11) f fd ["dice", "deep"] (spVal w n)) :
    FnOk P w K mg base CX0 (n + 12) f fd ["dice", "deep"] (spVal w (n + 1)) := by
  refine D.F.ok scValue (fun vs H Q E h => ?_) (fun cdv A outer s H vs Q E hr h => ?_)
  · obtain ⟨da, deep, rfl, _⟩ := h
    rfl
  obtain ⟨da, deep, rfl, hl, h10, hd, q⟩ := h
  have nd := scValue.nd
  refine ⟨_, pss_cons (ps_set (i := 2) nd rfl (.inl rfl) (pe_call GR (hr.mono (by omega)) (by rfl) R.m R.F.kp R.b .nil pass0 (pa_cons (pv 0) (pa_cons pe_int pa_nil))))
    (pss_cons (ps_if (pw_or (pt_cmpR op_lt (pv 1) pe_int (nomark _)) (pw_or1 (pt_cmpR op_lt (pv 2) pe_int (nomark _)))).pt
      (pss_one (ps_ret (pe_call GL (hr.mono (by omega)) (by rfl) L.m L.F.kp L.b .nil pass0 (pa_cons (pv 0) pa_nil)))) pss_nil)
    (pss_cons (ps_if (pt_cmpR op_lt (pv 2) pe_int (nomark _))
      (pss_one (ps_ret (pe_callTy call_tuple_of (by rfl) B.tuple bt_tuple (pa_cons (pe_lc (own := [("at", 5)]) (g := gName 5) (tt := tYes) rfl nd (pi_range1 (by rfl) B.range (pa_cons (pe_call GP (hr.mono (by omega)) (by rfl) Pk.m Pk.F.kp Pk.b .nil pass0 (pa_cons (pv 0) (pa_cons (pe_lst (pa_cons pe_int (pa_cons pe_int (pa_cons pe_int (pa_cons pe_int (pa_cons pe_int (pa_cons pe_int pa_nil))))))) pa_nil))) pa_nil)) (blkOk_by (N := ["dice", "deep", "way", "found", "turn", "at"]) (sc := defScope sValue) (by decide +kernel))
        (fun _ _ _ _ _ => pg_name (i := 5) nd rfl (Or.inl rfl)) (fun _ _ _ _ _ => pts_nil) (fun _ _ _ _ _ => pe_call G hr (by rfl) D.m D.F.kp D.b .nil pass0 (pa_cons (pv 0) (pa_cons (pe_op op_sub (pe_op op_sub (pv 1) pe_int) (pe_op op_mul pe_int (pv 5))) pa_nil)))) pa_nil)))) pss_nil)
    (pss_cons (ps_set (i := 3) nd rfl (.inl rfl) pe_dnewR)
    (pss_cons (ps_for PassesOwn.never rfl (pi_range1 (by rfl) B.range (pa_cons (pe_call GP (hr.mono (by omega)) (by rfl) Pk.m Pk.F.kp Pk.b .nil pass0 (pa_cons (pv 0) (pa_cons (pe_lst (pa_cons pe_int (pa_cons pe_int (pa_cons pe_int (pa_cons pe_int (pa_cons pe_int pa_nil)))))) pa_nil))) pa_nil)) (pg_name (i := 4) nd rfl (Or.inl rfl))
      (pss_one (ps_asg (pe_call G hr (by rfl) D.m D.F.kp D.b .nil pass0 (pa_cons (pv 0) (pa_cons (pe_op op_sub (pe_op op_sub (pv 1) pe_int) (pe_op op_mul pe_int (pv 4))) pa_nil)))
        (pg_sub (pv 3) (pe_call GK (hr.mono (by omega)) (by rfl) Ky.m Ky.F.kp Ky.b .nil pass0 (pa_cons (pv 0) (pa_cons (pe_callB (call_min2 (by rfl)) (by rfl) B.min bt_min (pa_cons pe_int (pa_cons (pe_op op_sub (pv 1) pe_int) pa_nil))) pa_nil))) (set_putR (by exact hr.units))))))
    (pss_one (ps_ret (pe_seal (pv 3)))))))), ?_⟩
  refine ⟨_, rfl, da, 7, rfl, hd, by decide, by decide, fun H1 y k1 d1 _ _ y0 y1 => ?_⟩
  have leaf : ∀ H1, Kp da H H1 → Dice H1 da → spLeaf w [.ref da] H1 Q E0 := fun H1 k1 d1 => ⟨da, rfl, d1, fun H2 x d k2 d2 a hL => q H2 x d (k1.trans k2) d2 a (hL.val (by omega))⟩
  refine ⟨_, rfl, _, _, rfl, rfl, _, rfl, ?_⟩
  refine ite2 (fun c => ?_) (fun c => ?_)
  · exact ⟨_, rfl, leaf H1 k1 d1⟩
  have h0 : 0 < deep := by
    have : ¬ deep < 1 := of_decide_eq_false (Bool.eq_false_iff.mpr c)
    omega
  refine ⟨_, rfl, _, _, rfl, rfl, _, rfl, ?_⟩
  refine ite2 (fun c => ?_) (fun c => ?_)
  · exact ⟨_, rfl, leaf H1 k1 d1⟩
  refine ⟨_, rfl, _, _, rfl, rfl, _, rfl, ?_⟩
  refine ite2 (fun c2 => ?_) (fun c2 => ?_)
  · refine ⟨_, rfl, (by show 6 ≤ sizeLine; decide), fun a ha => ?_⟩
    refine ⟨da, .ref a, rfl, d1.new ha, .inl ⟨a, _, rfl, d1.ne ha, SqL.of upd_same, by decide, by decide, fun H2 v k2 d2 e2 hv => ?_⟩⟩
    obtain ⟨m, rfl, hm⟩ : ∃ m : Nat, v = .int m ∧ m ≤ 4 := by
      simp only [List.mem_cons, List.not_mem_nil, or_false] at hv
      rcases hv with rfl | rfl | rfl | rfl | rfl | rfl
      · exact ⟨0, rfl, by decide⟩
      · exact ⟨1, rfl, by decide⟩
      · exact ⟨1, rfl, by decide⟩
      · exact ⟨2, rfl, by decide⟩
      · exact ⟨3, rfl, by decide⟩
      · exact ⟨4, rfl, by decide⟩
    have k02 : Kp da H H2 := k1.trans ((Kp.new ha).trans k2)
    refine ⟨(m : Int), rfl, by omega, by omega, fun Da hDa => ?_⟩
    refine lc_range (lo := 0) (n := m) (fun i H' => ∃ (xs : List V) (ds : List PyData), H' Da = some (.lst xs) ∧ Ats w H' xs ds ∧ xs.length = i ∧ (∀ d ∈ ds, okD d = true ∧ plain (deep.toNat - 1) d = true) ∧ (ds.map fun x => (txt x).length + 1).sum ≤ tS deep.toNat i ∧ Dice H' da ∧ Kp da H H') ⟨[], [], upd_same, .nil, rfl, fun _ z => (nomatch z), Nat.le_refl _, d2.new hDa, k02.trans (Kp.new hDa)⟩ (fun i H3 hi hp => ?_) (fun H3 hp => ?_)
    · obtain ⟨xs, ds, h1, h2, h3, h4, h4b, h5, h6⟩ := hp
      refine ⟨rfl, ?_⟩
      refine tYes_if ?_
      refine ⟨_, rfl, _, rfl, _, _, rfl, rfl, _, rfl, _, _, rfl, rfl, .inl ⟨by decide, by decide⟩, _, _, rfl, rfl, da, _, rfl, ?_, ?_, h5, fun H4 x d k4 d4 ax kd => ?_⟩
      · show (deep - 1 - 3 * (0 + (i : Int))).toNat < _
        omega
      · show deep - 1 - 3 * (0 + (i : Int)) < _
        omega
      · have hne : Da ≠ da := d2.ne hDa
        have hD4 := k4 _ _ hne h1
        have km : Keep H4 (upd H4 Da (.lst (xs ++ [x]))) := Keep.mut (by rw [hD4]; trivial)
        have en : (deep - 1 - 3 * (0 + (i : Int))).toNat = deep.toNat - 1 - 3 * i := by omega
        have kd : ValD (deep.toNat - 1 - 3 * i) d := by rw [← en]; exact kd
        refine ⟨_, hD4, ?_, xs ++ [x], ds ++ [d], upd_same, ?_, by simp [h3], ?_, ?_, ?_, ?_⟩
        · rw [sizeLine_eq]; omega
        · exact ((h2.keep (k4.keep h5)).snoc ax).keep km
        · intro e he
          rcases List.mem_append.mp he with z | z
          · exact h4 e z
          · rw [List.mem_singleton.mp z]; exact ⟨kd.ok, plain_mono d (by omega) kd.pl⟩
        · rw [List.map_append, List.sum_append]
          have := kd.ln
          show _ ≤ tS deep.toNat i + (vb (deep.toNat - 1 - 3 * i) + 1)
          simp only [List.map_cons, List.map_nil, List.sum_cons, List.sum_nil]
          omega
        · obtain ⟨g', t', q', r'⟩ := d4
          exact ⟨g', t', by rw [upd_ne (Ne.symm hne)]; exact q', r'⟩
        · intro b o hb ho
          have hb2 : b ≠ Da := fun z => by
            have := k02 b o hb ho
            rw [z, hDa] at this
            cases this
          rw [upd_ne hb2]
          exact k4 b o hb (h6 b o hb ho)
    · obtain ⟨xs, ds, h1, h2, h3, h4, h4b, h5, h6⟩ := hp
      refine ⟨Da, xs, rfl, .inl ⟨SqL.of h1, fun t ht => ?_⟩⟩
      have kd : ValD deep.toNat (.tuple ds) := by
        refine ⟨?_, ?_, ?_⟩
        · simp only [okD]; exact okDs_all_mem fun x hx => (h4 x hx).1
        · simp only [plain, plains_all, Bool.and_eq_true, decide_eq_true_eq]
          exact ⟨by omega, List.all_eq_true.mpr fun x hx => (h4 x hx).2⟩
        · have x1 := txt_tup_sum ds
          have x2 := tS_le deep.toNat (by omega) m (by omega) (by omega)
          omega
      refine q _ _ (.tuple ds) (h6.trans (Kp.new ht)) (h5.new ht) (.tup upd_same (h2.keep (Keep.new ht))) kd
  · refine fun F hF hsys => ?_
    have hFd : F ≠ da := d1.ne hF
    refine ⟨_, rfl, (by show 5 ≤ sizeLine; decide), fun a ha => ?_⟩
    refine ⟨da, .ref a, rfl, (d1.new hF).new ha, .inl ⟨a, _, rfl, (d1.new hF).ne ha, SqL.of upd_same, by decide, by decide, fun H2 v k2 d2 e2 hv => ?_⟩⟩
    obtain ⟨m, rfl, hm⟩ : ∃ m : Nat, v = .int m ∧ m ≤ 5 := by
      simp only [List.mem_cons, List.not_mem_nil, or_false] at hv
      rcases hv with rfl | rfl | rfl | rfl | rfl
      · exact ⟨0, rfl, by decide⟩
      · exact ⟨1, rfl, by decide⟩
      · exact ⟨2, rfl, by decide⟩
      · exact ⟨3, rfl, by decide⟩
      · exact ⟨5, rfl, by decide⟩
    have kF2 : Kp da (upd H1 F (Bld w F [])) H2 := (Kp.new ha).trans k2
    have k02 : Kp da H H2 := k1.trans ((Kp.new hF).trans kF2)
    have hF2 : H2 F = some (Bld w F []) := kF2 _ _ hFd upd_same
    have hold : ∀ b o, b ≠ da → H b = some o → b ≠ F := fun b o hb ho z => by
      have := k1 b o hb ho
      rw [z, hF] at this
      cases this
    refine ⟨(m : Int), rfl, by omega, by omega, ?_⟩
    refine for_range (lo := 0) (n := m) (fun i σ H' => ∃ (es : List En) (kvs : List (PyData × PyData)) (t : Option V), σ = [some (.ref da), some (.int deep), some (.int y), some (.ref F), t, none] ∧ H' F = some (Bld w F es) ∧ AtKv w H' es kvs ∧ KeysOk kvs ∧ kvs.length ≤ i ∧ okKv kvs = true ∧ plainKv (deep.toNat - 1) kvs = true ∧ (kvs.map lnE).sum ≤ dS deep.toNat i ∧ Dice H' da ∧ Kp da H H')
      ⟨[], [], none, rfl, hF2, .nil, keysOk_nil, Nat.le_refl _, by simp only [okKv], by simp only [plainKv], Nat.le_refl _, d2, k02⟩ (fun i σ H3 hi hp => ?_) (fun σ H3 hp => ?_)
    · obtain ⟨es, kvs, t, rfl, h1, h2, h3, h4, h5, h6, h7, h8, h9⟩ := hp
      refine ⟨_, rfl, _, rfl, _, _, rfl, rfl, _, rfl, _, _, rfl, rfl, .inl ⟨by decide, by decide⟩, _, _, rfl, rfl, da, _, rfl, ?_, ?_, h8, fun H4 vx vd k4 d4 va vk => ?_⟩
      · show (deep - 2 - 2 * (0 + (i : Int))).toNat < _
        omega
      · show deep - 2 - 2 * (0 + (i : Int)) < _
        omega
      have en : (deep - 2 - 2 * (0 + (i : Int))).toNat = deep.toNat - 2 - 2 * i := by omega
      have vk : ValD (deep.toNat - 2 - 2 * i) vd := by rw [← en]; exact vk
      have ek : (if deep - 1 < 6 then deep - 1 else 6) = ((min 6 (deep.toNat - 1) : Nat) : Int) := by split <;> omega
      refine ⟨_, rfl, _, rfl, _, rfl, _, _, rfl, rfl, _, _, rfl, da, min 6 (deep.toNat - 1), ?_, by omega, d4, fun H5 kx kd k5 d5 ka kk => ?_⟩
      · show [V.ref da, V.int (if deep - 1 < 6 then deep - 1 else 6)] = _
        rw [ek]
      have hF5 : H5 F = some (Bld w F es) := k5 _ _ hFd (k4 _ _ hFd h1)
      have kp : Keep H3 H5 := (k4.keep h8).trans (k5.keep d4)
      refine ⟨F, es, kvs, kd, rfl, hF5, h2.keep kp, h3, by rw [h2.length, sizeLine_eq]; omega, ka, hsh_of kd kk.ok kk.nd, by have := kk.dp; omega, fun ku vu rk rv => ?_⟩
      have km : Keep H5 (upd H5 F (Bld w F (putE (keyOf kd) ku vu es))) := Keep.mut (by rw [hF5]; trivial)
      refine ⟨_, putD kd vd kvs, some (.int (0 + (i : Int))), rfl, upd_same, (((h2.keep kp).put rk ka rv (va.keep (k5.keep d4))).keep km), h3.put (hsh_of kd kk.ok kk.nd) (by have := kk.dp; omega), ?_, putD_okKv h5 kk.ok kk.nd vk.ok, putD_plainKv h6 (plain_of_depth kd _ kk.ok kk.nd (by have := kk.dp; omega)) (plain_mono vd (by omega) vk.pl), ?_, ?_, ?_⟩
      · have := putD_length (k := kd) (v := vd) kvs
        omega
      · have x1 := putD_sum kd vd kvs
        have x2 := kk.ln
        have x3 := vk.ln
        show _ ≤ dS deep.toNat i + (kb (min 6 (deep.toNat - 1)) + vb (deep.toNat - 2 - 2 * i) + 2)
        have x4 : lnE (kd, vd) = (txt kd).length + (txt vd).length + 2 := rfl
        omega
      · obtain ⟨g', t', q', r'⟩ := d5
        exact ⟨g', t', by rw [upd_ne (Ne.symm hFd)]; exact q', r'⟩
      · intro b o hb ho
        rw [upd_ne (hold b o hb ho)]
        exact k5 b o hb (k4 b o hb (h9 b o hb ho))
    · obtain ⟨es, kvs, t, rfl, h1, h2, h3, h4, h5, h6, h7, h8, h9⟩ := hp
      have ok := okD_of_keys h5 h3
      refine ⟨_, rfl, F, es, rfl, h1, fun o u ho => ?_⟩
      have km : Keep H3 (upd H3 F (.frz o u)) := Keep.mut (by rw [h1]; trivial)
      refine q _ _ (.dict kvs) (fun b o' hb ho' => ?_) ?_ (.dic upd_same ho hsys (h2.keep km)) ⟨ok, ?_, ?_⟩
      · rw [upd_ne (hold b o' hb ho')]
        exact h9 b o' hb ho'
      · obtain ⟨g', t', q', r'⟩ := h8
        exact ⟨g', t', by rw [upd_ne (Ne.symm hFd)]; exact q', r'⟩
      · simp only [plain, Bool.and_eq_true, decide_eq_true_eq]
        exact ⟨by omega, h6⟩
      · have x1 := txt_dict_sum kvs
        have x2 := dS_le deep.toNat (by omega) m (by omega) (by omega)
        omega
theorem ok_value {r p l k : Addr} {rd pd ld kd : FuncData} (D : Df K mg "_law_value" sValue ["dice", "deep"] f fd) (R : Df K mg "_law_roll" sRoll ["dice", "total"] r rd) (Pk : Df K mg "_law_pick" sPick ["dice", "items"] p pd) (L : Df K mg "_law_leaf" sLeaf ["dice"] l ld) (Ky : Df K mg "_law_key" sKey ["dice", "deep"] k kd) (B : Bn mg)
    (GR : FnOk P w K mg base CX0 1 r rd ["dice", "total"] spRoll) (GP : FnOk P w K mg base CX0 2 p pd ["dice", "items"] (spPick K)) (GL : FnOk P w K mg base CX0 4 l ld ["dice"] (spLeaf w)) (GK : FnOk P w K mg base CX0 11 k kd ["dice", "deep"] (spKey w 7)) : ∀ n : Nat, FnOk P w K mg base CX0 (n + 11) f fd ["dice", "deep"] (spVal w n)
  | 0 => none_at fun vs H Q E h => by
    obtain ⟨_, _, _, z, _⟩ := h
    omega
  | n + 1 => ok_value1 D R Pk L Ky B GR GP GL GK (ok_value D R Pk L Ky B GR GP GL GK n)
end
end K15
end

section
set_option Elab.async false
set_option linter.all false
set_option maxRecDepth 100000
set_option pp.maxSteps 900
namespace K15
open PySem PySem.Spec PyProof.Rows L2 TL

theorem _root_.L2.PE.cast {X : Cx} {e : Expr} {t t' : TE} (h : PE X e t) (q : t = t') : PE X e t' := q ▸ h
abbrev rLenS (K : PySem.W.Frag) : List V → Hp → VK → Prop := fun xs H Q => ∃ p ys, xs = [.ref p] ∧ (SqL K H p ys ∨ SqT K H p ys) ∧ Q (.int ys.length) H
theorem erase_perm {α : Type} : ∀ (l : List α) (k : Nat) (h : k < l.length), (l[k] :: l.eraseIdx k).Perm l
  | x :: r, 0, _ => List.Perm.refl _
  | x :: r, k + 1, h => by
    have := erase_perm r k (by simpa using h)
    exact (List.Perm.swap x (r[k]'(by simpa using h)) (r.eraseIdx k)).trans (this.cons x)
abbrev sShaken : Stmt := topS 27
theorem scShaken : FnScope ["dice", "items", "left", "turn"] ["dice", "items"] (defScope sShaken) := ⟨rfl, rfl, rfl, by decide +kernel, rfl, by decide +kernel, by decide +kernel⟩
def spShaken (K : PySem.W.Frag) : Sp := fun vs H Q _ => ∃ (da a : Addr) (xs : List V), vs = [.ref da, .ref a] ∧ a ≠ da ∧ SqL K H a xs ∧ xs.length < 2 ^ 22 ∧ Dice H da ∧ ∀ H' b ys, Kp da H H' → Dice H' da → ys.Perm xs → H' b = some (.lst ys) → H b = none → Q (.ref b) H'
section
variable {P : Program} {w : World} {K : PySem.W.Frag} {mg : Str → Option Value} {base : Heap} {f g : Addr} {fd gd : FuncData}
theorem ok_shaken {r : Addr} {rd : FuncData} (D : Df K mg "_law_shaken" sShaken ["dice", "items"] f fd) (R : Df K mg "_law_roll" sRoll ["dice", "total"] r rd) (B : Bn mg)
    (GR : FnOk P w K mg base CX0 1 r rd ["dice", "total"] spRoll) : FnOk P w K mg base CX0 2 f fd ["dice", "items"] (spShaken K) := by
  refine D.F.ok scShaken (fun vs H Q E h => ?_) (fun cdv A outer s H vs Q E hr h => ?_)
  · obtain ⟨da, a, xs, rfl, _⟩ := h
    rfl
  obtain ⟨da, a, xs, rfl, hne, hs, hl, hd, q⟩ := h
  have nd := scShaken.nd
  refine ⟨_, pss_cons (ps_set (i := 2) nd rfl (.inr rfl) (pe_callTy call_list_of (by rfl) B.list bt_list (pa_cons (pv 1) pa_nil)))
    (pss_one (ps_ret (pe_lc (own := [("turn", 3)]) (g := gName 3) (tt := tYes) rfl nd (pi_range1 (by rfl) B.range (pa_cons (pe_callB call_len (by rfl) B.len bt_len (pa_cons (pv 1) pa_nil)) pa_nil)) (blkOk_by (N := ["dice", "items", "left", "turn"]) (sc := defScope sShaken) (by decide +kernel))
      (fun _ _ _ _ _ => pg_name (i := 3) nd rfl (Or.inl rfl)) (fun _ _ _ _ _ => pts_nil)
      (fun _ _ _ _ _ => PE.cast (t' := tBM K "list" rPopAt (tVar 2) (tCons (tCall spRoll [] E0 (tCons (tVar 0) (tCons (tCB (rLenS K) (tCons (tVar 2) tNil)) tNil))) tNil)) (pe_bm PySem.F.plainAttrs_list PySem.F.slot_list_pop PySem.F.type_list_pop mt_popAt (pv 2) (pa_cons (pe_call GR hr (by rfl) R.m R.F.kp R.b .nil pass0 (pa_cons (pv 0) (pa_cons (pe_callB call_len_seq (by rfl) B.len bt_len (pa_cons (pv 2) pa_nil)) pa_nil))) pa_nil)) rfl)))), ?_⟩
  refine ⟨_, rfl, a, xs, rfl, .inl hs, fun L hL => ?_⟩
  have hLd : L ≠ da := hd.ne hL
  have haL : a ≠ L ∨ True := .inr trivial
  have hs2 : SqL K (upd H L (.lst xs)) a xs := by
    rcases hs with (h | ⟨o, h⟩) | h
    · exact .inl (.inl (by rw [upd_ne (ne_of_none h hL)]; exact h))
    · exact .inl (.inr ⟨o, by rw [upd_ne (ne_of_none h hL)]; exact h⟩)
    · exact .inr h
  refine ⟨_, rfl, _, xs.length, rfl, .inl ⟨xs, hs2, rfl⟩, (xs.length : Int), rfl, by omega, by omega, fun Da hDa => ?_⟩
  have hDL : Da ≠ L := fun z => by rw [z, upd_same] at hDa; cases hDa
  have hDa0 : H Da = none := by rw [upd_ne hDL] at hDa; exact hDa
  have hDd : Da ≠ da := hd.ne hDa0
  refine lc_range (lo := 0) (n := xs.length) (fun i H' => ∃ ys zs : List V, H' Da = some (.lst ys) ∧ H' L = some (.lst zs) ∧ (ys ++ zs).Perm xs ∧ ys.length = i ∧ Dice H' da ∧ Kp da H H') ⟨[], xs, upd_same, by rw [upd_ne (Ne.symm hDL), upd_same], List.Perm.refl _, rfl, (hd.new hL).new hDa, (Kp.new hL).trans (Kp.new hDa)⟩ (fun i H3 hi hp => ?_) (fun H3 hp => ?_)
  · obtain ⟨ys, zs, h1, h2, h3, h4, h5, h6⟩ := hp
    have hlen := h3.length_eq
    rw [List.length_append] at hlen
    refine ⟨rfl, ?_⟩
    refine tYes_if ?_
    refine ⟨_, rfl, .inl ⟨rfl, _, SqL.of h2⟩, _, rfl, _, rfl, L, zs, rfl, .inl (SqL.of h2), da, _, rfl, h5, by omega, by omega, fun H4 r k4 d4 _ e4 r0 r1 => ?_⟩
    have hr : r.toNat < zs.length := by omega
    have h24 := k4 _ _ hLd h2
    have h14 := k4 _ _ hDd h1
    refine ⟨L, zs, r, r.toNat, zs[r.toNat], rfl, rfl, h24, by omega, by omega, PySem.seqIndex_of r0 r1, List.getElem?_eq_getElem hr, ?_⟩
    refine ⟨ys, by rw [upd_ne hDL]; exact h14, by rw [sizeLine_eq]; omega, ys ++ [zs[r.toNat]], zs.eraseIdx r.toNat, upd_same, by rw [upd_ne (Ne.symm hDL), upd_same], ?_, by simp [h4], ?_, ?_⟩
    · have p := erase_perm zs r.toNat hr
      have e : (ys ++ [zs[r.toNat]]) ++ zs.eraseIdx r.toNat = ys ++ (zs[r.toNat] :: zs.eraseIdx r.toNat) := by rw [List.append_assoc]; rfl
      rw [e]
      exact (List.Perm.append_left ys p).trans h3
    · obtain ⟨g', t', q', r'⟩ := d4
      exact ⟨g', t', by rw [upd_ne (Ne.symm hDd), upd_ne (Ne.symm hLd)]; exact q', r'⟩
    · intro b o hb ho
      have hb1 : b ≠ Da := ne_of_none ho hDa0
      have hb2 : b ≠ L := ne_of_none ho hL
      rw [upd_ne hb1, upd_ne hb2]
      exact k4 b o hb (h6 b o hb ho)
  · obtain ⟨ys, zs, h1, h2, h3, h4, h5, h6⟩ := hp
    have hlen := h3.length_eq
    rw [List.length_append] at hlen
    have hz : zs = [] := List.eq_nil_of_length_eq_zero (by omega)
    rw [hz, List.append_nil] at h3
    exact q H3 Da ys h6 h5 h3 h1 hDa0
end
end K15
end

section
set_option Elab.async false
set_option linter.all false
set_option maxRecDepth 100000
set_option pp.maxSteps 900
namespace K15
open PySem PySem.Spec PyProof.Rows L2 TL

theorem perm_map_inv {α β : Type} {f : α → β} : ∀ {ys : List β} {l : List α}, ys.Perm (l.map f) → ∃ m : List α, m.Perm l ∧ ys = m.map f
  | [], l, p => by
    have : l = [] := List.map_eq_nil_iff.mp (List.nil_perm.mp p)
    subst this
    exact ⟨[], List.Perm.refl _, rfl⟩
  | y :: ys, l, p => by
    obtain ⟨x, hx, rfl⟩ := List.mem_map.mp (p.mem_iff.mp List.mem_cons_self)
    obtain ⟨s, t, rfl⟩ := List.append_of_mem hx
    have p2 : (f x :: ys).Perm (f x :: (s ++ t).map f) := by
      refine p.trans ?_
      rw [List.map_append, List.map_cons, List.map_append]
      exact List.perm_middle
    obtain ⟨m, hm, rfl⟩ := perm_map_inv ((List.perm_cons _).mp p2)
    exact ⟨x :: m, (hm.cons x).trans List.perm_middle.symm, rfl⟩
theorem WayKv.perm {l m kvs : List (PyData × PyData)} (p : l.Perm kvs) : WayKv l m → ∃ b, WayKv kvs b ∧ b.Perm m := by
  induction p generalizing m with
  | nil => exact fun h => ⟨m, h, List.Perm.refl _⟩
  | cons x _ ih =>
    intro h
    cases h with
    | cons h1 h2 =>
      obtain ⟨b, hb, hp⟩ := ih h2
      exact ⟨_ :: b, .cons h1 hb, hp.cons _⟩
  | swap x y l =>
    intro h
    cases h with
    | cons h1 h2 => cases h2 with
      | cons h3 h4 => exact ⟨_, .cons h3 (.cons h1 h4), List.Perm.swap _ _ _⟩
  | trans _ _ ih1 ih2 =>
    intro h
    obtain ⟨b, hb, hp⟩ := ih1 h
    obtain ⟨c, hc, hq⟩ := ih2 hb
    exact ⟨c, hc, hq.trans hp⟩
theorem WayKv.snoc : ∀ {a b : List (PyData × PyData)} {k v u : PyData}, WayKv a b → Way v u → WayKv (a ++ [(k, v)]) (b ++ [(k, u)])
  | _, _, _, _, _, .nil, h => .cons h .nil
  | _, _, _, _, _, .cons h1 h2, h => .cons h1 (WayKv.snoc h2 h)
theorem Ways.snoc : ∀ {a b : List PyData} {v u : PyData}, Ways a b → Way v u → Ways (a ++ [v]) (b ++ [u])
  | _, _, _, _, .nil, h => .cons h .nil
  | _, _, _, _, .cons h1 h2, h => .cons h1 (Ways.snoc h2 h)
theorem keysOk_perm {a b : List (PyData × PyData)} (p : (b.map (·.1)).Perm (a.map (·.1))) (q : KeysOk a) : KeysOk b := by
  have hm : ∀ e ∈ b, ∃ e' ∈ a, e'.1 = e.1 := fun e he => List.mem_map.mp (p.mem_iff.mp (List.mem_map.mpr ⟨e, he, rfl⟩))
  refine ⟨fun e he => ?_, fun e he => ?_, ?_⟩
  · obtain ⟨e', h, x⟩ := hm e he
    rw [← x]; exact q.hs e' h
  · obtain ⟨e', h, x⟩ := hm e he
    rw [← x]; exact q.dp e' h
  · have := (p.map keyOf).nodup_iff.mpr (by rw [List.map_map]; exact q.nd)
    rw [List.map_map] at this
    exact this
abbrev sOther : Stmt := topS 40
theorem scOther : FnScope ["dice", "value", "one", "key"] ["dice", "value"] (defScope sOther) := ⟨rfl, rfl, rfl, by decide +kernel, rfl, by decide +kernel, by decide +kernel⟩
def spOther (w : World) (n : Nat) : Sp := fun vs H Q _ => ∃ (da : Addr) (x : V) (d : PyData), vs = [.ref da, x] ∧ d.depth < n ∧ At w H x d ∧ okD d = true ∧ k8 d = true ∧ (txt d).length < 2 ^ 22 ∧ Dice H da ∧ ∀ H' y e, Kp da H H' → Dice H' da → At w H' y e → Way d e → Q y H'
section
variable {P : Program} {w : World} {K : PySem.W.Frag} {mg : Str → Option Value} {base : Heap} {f g : Addr} {fd gd : FuncData}
theorem ok_other1 {n : Nat} {r : Addr} {rd : FuncData} (D : Df K mg "_law_other_way" sOther ["dice", "value"] f fd) (R : Df K mg "_law_shaken" sShaken ["dice", "items"] r rd) (B : Bn mg)
    (GR : FnOk P w K mg base CX0 2 r rd ["dice", "items"] (spShaken K)) (G : FnOk P w K mg base CX0 (n + 2) f fd ["dice", "value"] (spOther w n)) : FnOk P w K mg base CX0 (n + 3) f fd ["dice", "value"] (spOther w (n + 1)) := by
  refine D.F.ok scOther (fun vs H Q E h => ?_) (fun cdv A outer s H vs Q E hr h => ?_)
  · obtain ⟨da, x, d, rfl, _⟩ := h
    rfl
  obtain ⟨da, x, d, rfl, hl, a, hk, hk8, hz, hd, q⟩ := h
  have nd := scOther.nd
  refine ⟨_, pss_cons (ps_if (pt_val (pe_callB call_isiA (by rfl) B.isinstance bt_isinstance (pa_cons (pv 1) (pa_cons (pe_bltn (v := .ty "tuple") (by rfl) B.tuple bt_tuple rfl) pa_nil))))
      (pss_one (ps_ret (pe_callTy call_tuple_of (by rfl) B.tuple bt_tuple (pa_cons (pe_lc (own := [("one", 2)]) (g := gName 2) (tt := tYes) rfl nd (pi_tup (pv 1)) (blkOk_by (N := ["dice", "value", "one", "key"]) (sc := defScope sOther) (by decide +kernel))
        (fun _ _ _ _ _ => pg_name (i := 2) nd rfl (Or.inl rfl)) (fun _ _ _ _ _ => pts_nil) (fun _ _ _ _ _ => pe_call G hr (by rfl) D.m D.F.kp D.b .nil pass0 (pa_cons (pv 0) (pa_cons (pv 2) pa_nil)))) pa_nil)))) pss_nil)
    (pss_cons (ps_if (pt_not (pt_val (pe_callB call_isiA (by rfl) B.isinstance bt_isinstance (pa_cons (pv 1) (pa_cons (pe_bltn (v := .ty "dict") (by rfl) B.dict bt_dict rfl) pa_nil))))) (pss_one (ps_ret (pv 1))) pss_nil)
    (pss_one (ps_ret (pe_callTy (call_dictL (by exact hr.units) (by rfl)) (by rfl) B.dict bt_dict (pa_cons (pe_lc (own := [("key", 3)]) (g := gName 3) (tt := tYes) rfl nd
      (pi_list (pe_call GR (hr.mono (by omega)) (by rfl) R.m R.F.kp R.b .nil pass0 (pa_cons (pv 0) (pa_cons (pe_callTy (call_listR (by rfl)) (by rfl) B.list bt_list (pa_cons (pv 1) pa_nil)) pa_nil)))) (blkOk_by (N := ["dice", "value", "one", "key"]) (sc := defScope sOther) (by decide +kernel))
        (fun _ _ _ _ _ => pg_name (i := 3) nd rfl (Or.inl rfl)) (fun _ _ _ _ _ => pts_nil)
        (fun _ _ _ _ _ => pe_tup (pa_cons (pv 3) (pa_cons (pe_call G hr (by rfl) D.m D.F.kp D.b .nil pass0 (pa_cons (pv 0) (pa_cons (pe_getRw (w := w) rfl hr.units (pv 1) (pv 3) (fun _ _ => rfl)) pa_nil))) pa_nil)))) pa_nil))))), ?_⟩
  refine ⟨_, rfl, x, d, _, _, rfl, a, kit_tuple d, _, rfl, ?_⟩
  refine ite2 (fun c => ?_) (fun c => ?_)
  · obtain ⟨ds, rfl⟩ : ∃ ds, d = .tuple ds := by
      cases d <;> first | exact ⟨_, rfl⟩ | simp [tyOf] at c
    have hb := txt_tup_len ds
    have hks : okDs ds = true := by simpa only [okD] using hk
    have h8s : k8s ds = true := by simpa only [k8] using hk8
    obtain ⟨p, vs, rfl, hp, hv⟩ := a.inv_tup
    have hlen := hv.length
    have hpd : p ≠ da := fun z => by obtain ⟨_, _, z2, _⟩ := hd; rw [z, z2] at hp; cases hp
    refine ⟨_, rfl, p, rfl, ⟨vs, SqT.of hp⟩, fun Da hDa => ?_⟩
    have hne : Da ≠ da := hd.ne hDa
    refine lc_tup (xs := vs) (fun i H' => ∃ (ys : List V) (es : List PyData), H' Da = some (.lst ys) ∧ Ats w H' ys es ∧ ys.length = i ∧ Ways (ds.take i) es ∧ Dice H' da ∧ Kp da H H') ⟨[], [], upd_same, .nil, rfl, .nil, hd.new hDa, Kp.new hDa⟩ (fun i H' _ h' => ?_) (fun i y H1 hy hq => ?_) (fun H' hq => ?_)
    · obtain ⟨ys, es, h1, h2, h3, h4, h5, h6⟩ := h'
      exact SqT.of (h6 _ _ hpd hp)
    · obtain ⟨ys, es, h1, h2, h3, h4, h5, h6⟩ := hq
      obtain ⟨e, he, a1⟩ := hv.get hy
      have hm := List.mem_of_getElem? he
      have hi : i < vs.length := (List.getElem?_eq_some_iff.mp hy).1
      refine ⟨rfl, ?_⟩
      refine tYes_if ?_
      refine ⟨_, rfl, _, rfl, da, y, e, rfl, ?_, a1.keep (h6.keep hd), okDs_mem hks e hm, k8s_mem h8s hm, Nat.lt_trans (hb.2 e hm) hz, h5, fun H4 u e2 k4 d4 au wu => ?_⟩
      · have := depthAll_mem hm
        simp only [PyData.depth] at hl
        omega
      · have hD4 := k4 _ _ hne h1
        have km : Keep H4 (upd H4 Da (.lst (ys ++ [u]))) := Keep.mut (by rw [hD4]; trivial)
        refine ⟨_, hD4, by rw [sizeLine_eq]; omega, ys ++ [u], es ++ [e2], upd_same, ((h2.keep (k4.keep h5)).snoc au).keep km, by simp [h3], ?_, ?_, ?_⟩
        · rw [List.take_succ, he]
          exact h4.snoc wu
        · obtain ⟨g', t', q', r'⟩ := d4
          exact ⟨g', t', by rw [upd_ne (Ne.symm hne)]; exact q', r'⟩
        · intro b o hb' ho
          rw [upd_ne (ne_of_none ho hDa)]
          exact k4 b o hb' (h6 b o hb' ho)
    · obtain ⟨ys, es, h1, h2, h3, h4, h5, h6⟩ := hq
      rw [List.take_of_length_le (by omega)] at h4
      refine ⟨Da, ys, rfl, .inl ⟨SqL.of h1, fun t ht => ?_⟩⟩
      exact q _ _ (.tuple es) (h6.trans (Kp.new ht)) (h5.new ht) (.tup upd_same (h2.keep (Keep.new ht))) (.tup h4)
  refine ⟨_, rfl, x, d, _, _, rfl, a, kit_dict d, _, rfl, ?_⟩
  refine ite2 (fun c1 => ?_) (fun c1 => ?_)
  · exact ⟨_, rfl, q H x d (Kp.refl _ _) hd a (.refl d)⟩
  obtain ⟨kvs, rfl⟩ : ∃ kvs, d = .dict kvs := by
    cases d <;> first | exact ⟨_, rfl⟩ | simp [tyOf] at c1
  have hb := txt_dict_len kvs
  obtain ⟨hkk, hnn⟩ := okD_dict hk
  have h8s : k8Kv kvs = true := by simpa only [k8] using hk8
  have hok := keysOk_of hk h8s
  have a00 := a
  have hz0 := hz
  obtain ⟨dd, o, ps, rfl, hlen, hse, hps⟩ := a.sealed
  refine ⟨_, rfl, _, rfl, dd, o, ps, rfl, hse H (Keep.refl H), by rw [sizeLine_eq]; omega, fun L hL => ?_⟩
  refine ⟨da, L, ps.map (·.1), rfl, hd.ne hL, SqL.of upd_same, by rw [List.length_map]; omega, hd.new hL, fun H1 b ys k1 d1 hperm hb1 hbn => ?_⟩
  have hbd : b ≠ da := (hd.new hL).ne hbn
  refine ⟨b, rfl, ⟨ys, SqL.of hb1⟩, fun Da hDa => ?_⟩
  have hDad : Da ≠ da := d1.ne hDa
  have hbD : b ≠ Da := ne_of_none hb1 hDa
  have k01 : Kp da H H1 := (Kp.new hL).trans k1
  -- the pairs, in the order of the keys
  have zf : (ps.zip kvs).map Prod.fst = ps := List.map_fst_zip (by omega)
  have zs : (ps.zip kvs).map Prod.snd = kvs := List.map_snd_zip (by omega)
  have zm : ∀ z ∈ ps.zip kvs, At w H z.1.1 z.2.1 ∧ At w H z.1.2 z.2.2 ∧ z.2 ∈ kvs := fun z hz => by
    obtain ⟨j, hj, ej⟩ := List.mem_iff_getElem.mp hz
    have hj1 : j < ps.length := by rw [List.length_zip] at hj; omega
    have hj2 : j < kvs.length := by omega
    have e1 : z = (ps[j], kvs[j]) := by rw [← ej, List.getElem_zip]
    obtain ⟨e, he, a1, a2⟩ := hps j ps[j] (List.getElem?_eq_getElem hj1)
    rw [List.getElem?_eq_getElem hj2] at he
    cases he
    rw [e1]
    exact ⟨a1, a2, List.getElem_mem hj2⟩
  have hp2 : ys.Perm ((ps.zip kvs).map fun z => z.1.1) := by
    have e : (ps.zip kvs).map (fun z => z.1.1) = ps.map (·.1) := by
      conv => rhs; rw [← zf]
      rw [List.map_map]
      rfl
    rw [e]
    exact hperm
  obtain ⟨m, hm, rfl⟩ := perm_map_inv hp2
  have hl2 : (m.map Prod.snd).Perm kvs := by
    have := hm.map Prod.snd
    rwa [zs] at this
  have hmlen : m.length = kvs.length := by
    have := hl2.length_eq
    rwa [List.length_map] at this
  have zm2 : ∀ z ∈ m, At w H z.1.1 z.2.1 ∧ At w H z.1.2 z.2.2 ∧ z.2 ∈ kvs := fun z hz => zm z (hm.mem_iff.mp hz)
  refine lc_list (xs := m.map fun z => z.1.1) (fun i H' => ∃ (ts : List Addr) (us : List (PyData × PyData)), H' Da = some (.lst (ts.map V.ref)) ∧ ts.length = i ∧ us.length = i ∧ WayKv ((m.take i).map Prod.snd) us ∧
      (∀ (j : Nat) (t : Addr), ts[j]? = some t → ∃ (e : PyData × PyData) (kx vx : V), us[j]? = some e ∧ H' t = some (.tup [kx, vx]) ∧ At w H' kx e.1 ∧ At w H' vx e.2) ∧ Dice H' da ∧ Kp da H1 H')
      ⟨[], [], upd_same, rfl, rfl, .nil, fun j t e => by simp at e, d1.new hDa, Kp.new hDa⟩ (fun i H' _ h' => ?_) (fun i y H2 hy hq => ?_) (fun H' hq => ?_)
  · obtain ⟨ts, us, h1, h2, h3, h4, h5, h6, h7⟩ := h'
    exact SqL.of (h7 _ _ hbd hb1)
  · obtain ⟨ts, us, h1, h2, h3, h4, h5, h6, h7⟩ := hq
    rw [List.getElem?_map] at hy
    obtain ⟨z, hz, rfl⟩ := Option.map_eq_some_iff.mp hy
    obtain ⟨a1, a2, hmem⟩ := zm2 z (List.mem_of_getElem? hz)
    have hi : i < m.length := (List.getElem?_eq_some_iff.mp hz).1
    have k02 : Kp da H H2 := k01.trans h7
    have ke := k02.keep hd
    refine ⟨rfl, ?_⟩
    refine tYes_if ?_
    refine ⟨_, rfl, _, rfl, _, rfl, _, rfl, kvs, z.2.1, z.2.2, a00.keep ke, hok, hmem, a1.keep ke, fun x0 ax => ?_⟩
    refine ⟨da, x0, z.2.2, rfl, ?_, ax, (okKv_mem hkk _ hmem).2.2, (k8Kv_mem h8s hmem).2.2, Nat.lt_trans (hb.2 _ hmem).2 hz0, h6, fun H4 u e2 k4 d4 au wu => ?_⟩
    · have := depthKv_mem hmem
      simp only [PyData.depth] at hl
      omega
    refine ⟨(by show 2 ≤ sizeLine; decide), fun t ht => ?_⟩
    have hD4 : H4 Da = some (.lst (ts.map V.ref)) := k4 _ _ hDad h1
    have htD : t ≠ Da := fun q => by rw [q, hD4] at ht; cases ht
    have htd : t ≠ da := d4.ne ht
    have hD5 : upd H4 t (.tup [z.1.1, u]) Da = some (.lst (ts.map V.ref)) := by rw [upd_ne (Ne.symm htD)]; exact hD4
    have k24 : Keep H2 H4 := k4.keep h6
    have k45 : Keep H4 (upd (upd H4 t (.tup [z.1.1, u])) Da (.lst (ts.map V.ref ++ [.ref t]))) := (Keep.new ht).trans (Keep.mut (by rw [hD5]; trivial))
    refine ⟨_, hD5, by rw [List.length_map, sizeLine_eq]; omega, ts ++ [t], us ++ [(z.2.1, e2)], by rw [upd_same, List.map_append]; rfl, by simp [h2], by simp [h3], ?_, fun j t' hj => ?_, ?_, ?_⟩
    · rw [List.take_succ, hz, List.map_append]
      exact h4.snoc wu
    · by_cases hjl : j < ts.length
      · rw [List.getElem?_append_left hjl] at hj
        obtain ⟨e, kx, vx, g1, g2, g3, g4⟩ := h5 j t' hj
        refine ⟨e, kx, vx, by rw [List.getElem?_append_left (by omega)]; exact g1, k45.tups _ _ (k24.tups _ _ g2), g3.keep (k24.trans k45), g4.keep (k24.trans k45)⟩
      · have hj2 : j = ts.length := by
          have := (List.getElem?_eq_some_iff.mp hj).1
          rw [List.length_append, List.length_singleton] at this
          omega
        subst hj2
        rw [List.getElem?_append_right (Nat.le_refl _), Nat.sub_self] at hj
        cases hj
        refine ⟨(z.2.1, e2), z.1.1, u, by rw [List.getElem?_append_right (by omega), show ts.length - us.length = 0 by omega]; rfl, by rw [upd_ne htD, upd_same], (a1.keep ke).keep (k24.trans k45), au.keep k45⟩
    · obtain ⟨g', t', q', r'⟩ := d4
      exact ⟨g', t', by rw [upd_ne (Ne.symm hDad), upd_ne (Ne.symm htd)]; exact q', r'⟩
    · intro b' o' hb' ho'
      have hbt : b' ≠ t := fun q => by
        have := k4 b' o' hb' (h7 b' o' hb' ho')
        rw [q, ht] at this
        cases this
      rw [upd_ne (ne_of_none ho' hDa), upd_ne hbt]
      exact k4 b' o' hb' (h7 b' o' hb' ho')
  · obtain ⟨ts, us, h1, h2, h3, h4, h5, h6, h7⟩ := hq
    rw [List.length_map] at h2 h3
    rw [List.length_map, List.take_of_length_le (Nat.le_refl _)] at h4
    obtain ⟨bb, w1, w2⟩ := WayKv.perm hl2 h4
    have hkeys : (us.map (·.1)).Perm (kvs.map (·.1)) := by
      have := wayKv_keys h4
      rw [this]
      exact hl2.map _
    refine ⟨Da, ts, us, rfl, SqL.of h1, keysOk_perm hkeys hok, by omega, h5, fun p ob u es hp hsys ho ak => ?_⟩
    refine q _ _ (.dict us) ((k01.trans h7).trans (Kp.new hp)) (h6.new hp) (.dic upd_same ho hsys (ak.keep (Keep.new hp))) (.dic w1 w2)
theorem ok_other {r : Addr} {rd : FuncData} (D : Df K mg "_law_other_way" sOther ["dice", "value"] f fd) (R : Df K mg "_law_shaken" sShaken ["dice", "items"] r rd) (B : Bn mg)
    (GR : FnOk P w K mg base CX0 2 r rd ["dice", "items"] (spShaken K)) : ∀ n : Nat, FnOk P w K mg base CX0 (n + 2) f fd ["dice", "value"] (spOther w n)
  | 0 => none_at fun vs H Q E h => by
    obtain ⟨_, _, _, _, z, _⟩ := h
    omega
  | n + 1 => ok_other1 D R B GR (ok_other D R B GR n)
end
end K15
end

section
set_option Elab.async false
set_option linter.all false
set_option maxRecDepth 100000
set_option pp.maxSteps 900
namespace K15
open PySem PySem.Spec PyProof.Rows L2 TL

/-! ### pieces of a text -/
theorem tl_cut (z : Str) (a b : Nat) : tl (cutS z (some (a : Int)) (some (b : Int))) = ((tl z).drop a).take (b - a) := by
  show ((z.cps.toList.drop (HT.sIx z.length 0 (some (a : Int)))).take (HT.sIx z.length z.length (some (b : Int)) - HT.sIx z.length 0 (some (a : Int)))).toArray.toList = _
  rw [HT.sIx_nat, HT.sIx_nat]
  have hl : z.length = (tl z).length := TL.len_tl z
  show ((tl z).drop (min a z.length)).take (min b z.length - min a z.length) = _
  rw [hl]
  generalize tl z = s
  by_cases h : a ≤ s.length
  · rw [Nat.min_eq_left h]
    by_cases h2 : b ≤ s.length
    · rw [Nat.min_eq_left h2]
    · rw [Nat.min_eq_right (by omega), List.take_of_length_le (by rw [List.length_drop]; exact Nat.le_refl _), List.take_of_length_le (by rw [List.length_drop]; omega)]
  · rw [Nat.min_eq_right (show s.length ≤ a by omega), List.drop_length, List.drop_eq_nil_of_le (show s.length ≤ a by omega), List.take_nil, List.take_nil]
theorem take_one {s : Tx} {c : Nat} : s.take 1 = [c] ↔ s.head? = some c := by
  cases s with
  | nil => simp
  | cons a r => simp
theorem dec_tl {x y : Str} : decide (V.str x = V.str y) = decide (tl x = tl y) := by
  refine decide_eq_decide.mpr ⟨fun h => by cases h; rfl, fun h => by rw [TL.ext_tl h]⟩
theorem dec_one (z : Str) (a : Nat) (c : Nat) (y : Str) (hy : tl y = [c]) : decide (V.str (cutS z (some (a : Int)) (some ((a : Int) + 1))) = V.str y) = decide (((tl z).drop a).head? = some c) := by
  rw [dec_tl, show ((a : Int) + 1) = ((a + 1 : Nat) : Int) by omega, tl_cut, hy, show a + 1 - a = 1 by omega]
  exact decide_eq_decide.mpr take_one
theorem one_lt {a b : Nat} : ([a] : List Nat) < [b] ↔ a < b := by rw [List.cons_lt_cons_iff]; simp
theorem dec_sig (c : Nat) : (decide (V.str ⟨#[c]⟩ = V.str (Str.ofString " ")) || (!decide (([c] : List Nat) < [97]) && !decide (([122] : List Nat) < [c]))) = isSig c := by
  have e1 : decide (V.str ⟨#[c]⟩ = V.str (Str.ofString " ")) = (c == 32) := by
    rw [dec_tl]
    show decide ([c] = [32]) = _
    rw [Bool.eq_iff_iff]; simp
  have e2 : (!decide (([c] : List Nat) < [97])) = decide (97 ≤ c) := by rw [Bool.eq_iff_iff, Bool.not_eq_true', decide_eq_false_iff_not, one_lt, decide_eq_true_iff]; omega
  have e3 : (!decide (([122] : List Nat) < [c])) = decide (c ≤ 122) := by rw [Bool.eq_iff_iff, Bool.not_eq_true', decide_eq_false_iff_not, one_lt, decide_eq_true_iff]; omega
  rw [e1, e2, e3]
  rfl
theorem dec_dig (c : Nat) : (!decide (([c] : List Nat) < [48]) && !decide (([57] : List Nat) < [c])) = isDig c := by
  have e2 : (!decide (([c] : List Nat) < [48])) = decide (48 ≤ c) := by rw [Bool.eq_iff_iff, Bool.not_eq_true', decide_eq_false_iff_not, one_lt, decide_eq_true_iff]; omega
  have e3 : (!decide (([57] : List Nat) < [c])) = decide (c ≤ 57) := by rw [Bool.eq_iff_iff, Bool.not_eq_true', decide_eq_false_iff_not, one_lt, decide_eq_true_iff]; omega
  rw [e2, e3]
  rfl
/-- where a row of such signs ends -/
structure RowTo (p : Nat → Bool) (s : Tx) (b e : Nat) : Prop where
  le : b ≤ e
  ln : e ≤ s.length
  al : ∀ c ∈ (s.drop b).take (e - b), p c = true
theorem RowTo.start {p : Nat → Bool} {s : Tx} {b : Nat} (h : b ≤ s.length) : RowTo p s b b := ⟨Nat.le_refl _, h, by simp⟩
theorem RowTo.step {p : Nat → Bool} {s : Tx} {b e c : Nat} (r : RowTo p s b e) (h : s[e]? = some c) (hp : p c = true) : RowTo p s b (e + 1) := by
  have hl : e < s.length := (List.getElem?_eq_some_iff.mp h).1
  have hle := r.le
  refine ⟨by omega, hl, fun x hx => ?_⟩
  rw [show e + 1 - b = (e - b) + 1 by omega, List.take_succ, List.getElem?_drop, show b + (e - b) = e by omega, h] at hx
  rcases List.mem_append.mp hx with z | z
  · exact r.al x z
  · have : x = c := by simpa using z
    rw [this]; exact hp
theorem RowTo.fin {p : Nat → Bool} {s : Tx} {b e : Nat} (r : RowTo p s b e) (h : s.length ≤ e ∨ ∃ c, s[e]? = some c ∧ p c = false) : (s.drop b).takeWhile p = (s.drop b).take (e - b) ∧ (s.drop b).dropWhile p = s.drop e := by
  have hle := r.le
  have hs : s.drop b = (s.drop b).take (e - b) ++ s.drop e := by
    have := (List.take_append_drop (e - b) (s.drop b)).symm
    rwa [List.drop_drop, show b + (e - b) = e by omega] at this
  have hh : ∀ c, (s.drop e).head? = some c → p c = false := fun c hc => by
    rw [List.head?_drop] at hc
    rcases h with h | ⟨c', h1, h2⟩
    · have := (List.getElem?_eq_some_iff.mp hc).1
      omega
    · rw [h1] at hc; cases hc; exact h2
  have t := tw_app ((s.drop b).take (e - b)) (s.drop e) r.al hh
  rw [← hs] at t
  exact t
theorem ite_tt' {A B : Prop} (h : A) : if true = true then A else B := by rw [if_pos rfl]; exact h
theorem ite_ff' {A B : Prop} (h : B) : if false = true then A else B := by rw [if_neg Bool.false_ne_true]; exact h
/-- the sign that stands there is such a sign -/
def now (p : Nat → Bool) (s : Tx) (e : Nat) : Bool := match s[e]? with
  | some c => p c
  | none => false
theorem row_loop {p : Nat → Bool} {s : Tx} {b : Nat} {c : TT} {tb : TS} {D : Ends} (σf : Nat → St) (Hf : Nat → Hp) (hb : b ≤ s.length) (hc : ∀ e Q, b ≤ e → e ≤ s.length → Q (now p s e) (Hf e) → c (σf e) (Hf e) Q)
    (ht : ∀ e (D' : Ends), b ≤ e → e < s.length → D'.nx (σf (e + 1)) (Hf (e + 1)) → tb D' (σf e) (Hf e))
    (hd : ∀ e, RowTo p s b e → (s.drop b).takeWhile p = (s.drop b).take (e - b) → (s.drop b).dropWhile p = s.drop e → D.nx (σf e) (Hf e)) : tWhile c tb D (σf b) (Hf b) := by
  refine ⟨fun m σ H => ∃ e, m = s.length - e ∧ RowTo p s b e ∧ σ = σf e ∧ H = Hf e, ⟨_, b, rfl, .start hb, rfl, rfl⟩, ?_⟩
  rintro m σ H ⟨e, rfl, hr, rfl, rfl⟩
  refine hc e _ hr.le hr.ln ?_
  cases h : s[e]? with
  | none =>
    have e1 : now p s e = false := by unfold now; rw [h]
    rw [e1]
    have hl : s.length ≤ e := List.getElem?_eq_none_iff.mp h
    have f := hr.fin (.inl hl)
    exact ite_ff' (hd e hr f.1 f.2)
  | some x =>
    have hl : e < s.length := (List.getElem?_eq_some_iff.mp h).1
    have e1 : now p s e = p x := by unfold now; rw [h]
    rw [e1]
    cases hp : p x with
    | false =>
      have f := hr.fin (.inr ⟨x, h, hp⟩)
      exact ite_ff' (hd e hr f.1 f.2)
    | true =>
      refine ite_tt' ⟨fun σ' H' => ∃ m', m' < s.length - e ∧ ∃ e, m' = s.length - e ∧ RowTo p s b e ∧ σ' = σf e ∧ H' = Hf e, fun _ _ h => h, ht e _ hr.le hl ?_⟩
      exact ⟨s.length - (e + 1), by omega, e + 1, rfl, hr.step h hp, rfl, rfl⟩
theorem row_loop' {p : Nat → Bool} {s : Tx} {b : Nat} {c : TT} {tb : TS} {D : Ends} (σf : Nat → St) (Hf : Nat → Hp) {σ : St} {H : Hp} (h0 : σ = σf b) (h1 : H = Hf b) (hb : b ≤ s.length) (hc : ∀ e Q, b ≤ e → e ≤ s.length → Q (now p s e) (Hf e) → c (σf e) (Hf e) Q)
    (ht : ∀ e (D' : Ends), b ≤ e → e < s.length → D'.nx (σf (e + 1)) (Hf (e + 1)) → tb D' (σf e) (Hf e))
    (hd : ∀ e, RowTo p s b e → (s.drop b).takeWhile p = (s.drop b).take (e - b) → (s.drop b).dropWhile p = s.drop e → D.nx (σf e) (Hf e)) : tWhile c tb D σ H := by
  subst h0 h1
  exact row_loop σf Hf hb hc ht hd
abbrev rLen (K : PySem.W.Frag) : List V → Hp → VK → Prop := fun xs H Q => ∃ x n, xs = [x] ∧ LenV K x H n ∧ Q (.int (n : Nat)) H
abbrev rLeS : R2 := fun x y H Q => ∃ i j, x = .str i ∧ y = .str j ∧ Q (.bl (!decide (j.cps.toList < i.cps.toList))) H
abbrev tHere (K : PySem.W.Frag) : TT := tTest (tOp (rI0 fun i j => V.bl (decide (i < j))) (tVar 2) (tCB (rLen K) (tCons (tVar 0) tNil)))
abbrev tBetw (x y : Str) : TT := tTest (tChain rLeS rLeS (tC (.str x)) (tOp rIxS (tVar 0) (tVar 2)) (tC (.str y)))
section
variable {K : PySem.W.Frag} {z : Str} {e : Nat} {σ : St} {H : Hp} {Q : Bool → Hp → Prop}
theorem here_cond {t : TT} (h0 : σ[0]? = some (some (.str z))) (h2 : σ[2]? = some (some (.int e))) (hz : z.length ≤ sizeLine) (q : if e < z.length then t σ H Q else Q false H) : tAnd (tHere K) t σ H Q := by
  refine ⟨_, h2, _, h0, _, _, rfl, ⟨hz, rfl⟩, _, _, rfl, rfl, _, rfl, ?_⟩
  by_cases h : e < z.length
  · rw [if_pos h] at q
    have : decide ((e : Int) < (z.length : Nat)) = true := decide_eq_true (by omega)
    rw [this]
    exact q
  · rw [if_neg h] at q
    have : decide ((e : Int) < (z.length : Nat)) = false := decide_eq_false (by omega)
    rw [this]
    exact q
theorem betw_cond {x y : Str} {a b c : Nat} (hx : tl x = [a]) (hy : tl y = [b]) (h0 : σ[0]? = some (some (.str z))) (h2 : σ[2]? = some (some (.int e))) (hz : z.length ≤ sizeLine) (hc : (tl z)[e]? = some c) (q : Q (!decide (([c] : List Nat) < [a]) && !decide (([b] : List Nat) < [c])) H) : tBetw x y σ H Q := by
  refine ⟨_, h0, _, h2, z, e, c, rfl, rfl, hz, atI_nat hc, x, ⟨#[c]⟩, rfl, rfl, _, rfl, ?_⟩
  show if (!decide (([c] : List Nat) < tl x)) = true then _ else _
  rw [hx]
  cases hb : (!decide (([c] : List Nat) < [a])) with
  | true =>
    rw [hb, Bool.true_and] at q
    refine ⟨⟨#[c]⟩, y, rfl, rfl, _, rfl, ?_⟩
    show Q (!decide (tl y < [c])) H
    rw [hy]
    exact q
  | false =>
    rw [hb, Bool.false_and] at q
    exact ⟨_, rfl, q⟩
theorem sig_cond (h0 : σ[0]? = some (some (.str z))) (h2 : σ[2]? = some (some (.int e))) (hz : z.length ≤ sizeLine) (q : Q (now isSig (tl z) e) H) :
    tAnd (tHere K) (tOr (tTest (tOp rEq (tOp rIxS (tVar 0) (tVar 2)) (tC (.str " ")))) (tBetw "a" "z")) σ H Q := by
  refine here_cond h0 h2 hz ?_
  cases hc : (tl z)[e]? with
  | none =>
    have : ¬ e < z.length := by
      have := List.getElem?_eq_none_iff.mp hc
      rw [TL.len_tl]; omega
    rw [if_neg this]
    unfold now at q
    rwa [hc] at q
  | some c =>
    have : e < z.length := by rw [TL.len_tl]; exact (List.getElem?_eq_some_iff.mp hc).1
    rw [if_pos this]
    unfold now at q
    rw [hc] at q
    have q : Q (isSig c) H := q
    rw [← dec_sig c] at q
    refine ⟨_, h0, _, h2, z, e, c, rfl, rfl, hz, atI_nat hc, rfl, _, rfl, ?_⟩
    cases hb : decide (V.str ⟨#[c]⟩ = V.str (Str.ofString " ")) with
    | true => rw [hb, Bool.true_or] at q; exact q
    | false =>
      rw [hb, Bool.false_or] at q
      exact betw_cond (by decide +kernel) (by decide +kernel) h0 h2 hz hc q
theorem dig_cond (h0 : σ[0]? = some (some (.str z))) (h2 : σ[2]? = some (some (.int e))) (hz : z.length ≤ sizeLine) (q : Q (now isDig (tl z) e) H) :
    tAnd (tHere K) (tBetw "0" "9") σ H Q := by
  refine here_cond h0 h2 hz ?_
  cases hc : (tl z)[e]? with
  | none =>
    have : ¬ e < z.length := by
      have := List.getElem?_eq_none_iff.mp hc
      rw [TL.len_tl]; omega
    rw [if_neg this]
    unfold now at q
    rwa [hc] at q
  | some c =>
    have : e < z.length := by rw [TL.len_tl]; exact (List.getElem?_eq_some_iff.mp hc).1
    rw [if_pos this]
    unfold now at q
    rw [hc] at q
    have q : Q (isDig c) H := q
    rw [← dec_dig c] at q
    exact betw_cond (by decide +kernel) (by decide +kernel) h0 h2 hz hc q
end
/-- a word (no bracket) -/
def rdW (t : Tx) : Option (PyData × Tx) := if t.take 4 = [110, 111, 110, 101] then some (.none, t.drop 4) else if t.head? = some 34 then rdStr (t.drop 1) else rdInt t
/-- what the law's reader hands back -/
def ToldAt (w : World) (H : Hp) (n : Nat) (v : V) : Option (PyData × Tx) → Prop
  | none => v = .non
  | some (d, rest) => ∃ (t u : Addr) (x : V), v = .ref t ∧ H t = some (.tup [.ref u, .int ((n - rest.length : Nat) : Int)]) ∧ H u = some (.tup [x]) ∧ At w H x d ∧ rest.length ≤ n
theorem told_ret {w : World} {H : Hp} {n : Nat} {x : V} {d : PyData} {rest : Tx} {E : Int} {Q : VK} (a : At w H x d) (hr : rest.length ≤ n) (he : E = ((n - rest.length : Nat) : Int)) (q : ∀ H' v, Same H H' → ToldAt w H' n v (some (d, rest)) → Q v H')
    {u : Addr} (hu : H u = none) {t : Addr} (ht : upd H u (.tup [x]) t = none) : Q (.ref t) (upd (upd H u (.tup [x])) t (.tup [.ref u, .int E])) := by
  subst he
  have s1 : Same H (upd (upd H u (.tup [x])) t (.tup [.ref u, .int ((n - rest.length : Nat) : Int)])) := Same.trans (Same.new hu) (Same.new ht)
  have hut : u ≠ t := fun z => by rw [← z, upd_same] at ht; cases ht
  exact q _ _ s1 ⟨t, u, x, rfl, upd_same, by rw [upd_ne hut, upd_same], a.keep (Same.keep s1), hr⟩
theorem dec_cut (z : Str) (a k : Nat) (y : Str) : decide (V.str (cutS z (some (a : Int)) (some ((a : Int) + (k : Int)))) = V.str y) = decide (((tl z).drop a).take k = tl y) := by
  rw [dec_tl, show ((a : Int) + (k : Int)) = ((a + k : Nat) : Int) by omega, tl_cut, show a + k - a = k by omega]
theorem bad_cons (neg : Bool) (c : Nat) (r : Tx) : badDigits neg (c :: r) = (decide (4000 < (c :: r).length) || (decide (c = 48) && (neg || decide (1 < (c :: r).length)))) := by
  unfold badDigits
  by_cases h : c = 48
  · subst h; rfl
  · have e : ((c :: r).head? == some 48) = false := by
      rw [Bool.eq_false_iff]
      intro q
      have := eq_of_beq q
      cases this
      exact h rfl
    rw [e, decide_eq_false h]
    rfl
abbrev sWord : Stmt := topS 34
theorem scWord : FnScope ["text", "at", "end", "begin", "digits", "number"] ["text", "at"] (defScope sWord) := ⟨rfl, rfl, rfl, by decide +kernel, rfl, by decide +kernel, by decide +kernel⟩
def spWord (w : World) : Sp := fun vs H Q _ => ∃ (z : Str) (at_ : Nat), vs = [.str z, .int at_] ∧ at_ ≤ z.length ∧ z.length < 2 ^ 22 ∧ ∀ H' v, Same H H' → ToldAt w H' z.length v (rdW ((tl z).drop at_)) → Q v H'
section
variable {P : Program} {w : World} {K : PySem.W.Frag} {mg : Str → Option Value} {base : Heap} {f g : Addr} {fd gd : FuncData}
theorem ok_word (D : Df K mg "_law_word" sWord ["text", "at"] f fd) (B : Bn mg) (hnd : base.NoDigits) : FnOk P w K mg base CX0 1 f fd ["text", "at"] (spWord w) := by
  refine D.F.ok scWord (fun vs H Q E h => ?_) (fun cdv A outer s H vs Q E hr h => ?_)
  · obtain ⟨z, a, rfl, _⟩ := h
    rfl
  obtain ⟨z, a, rfl, ha, hz, q⟩ := h
  have nd := scWord.nd
  refine ⟨_, pss_cons (ps_if (pt_cmpR op_eq (pe_slice sl_str (pv 0) (po_some (pv 1)) (po_some (pe_op op_add (pv 1) pe_int))) pe_str (nomark _))
      (pss_one (ps_ret (pe_tup (pa_cons (pe_tup (pa_cons pe_non pa_nil)) (pa_cons (pe_op op_add (pv 1) pe_int) pa_nil))))) pss_nil)
    (pss_cons (ps_set (i := 2) nd rfl (.inl rfl) (pe_op op_add (pv 1) pe_int))
    (pss_cons (ps_if (pt_cmpR op_eq (pe_slice sl_str (pv 0) (po_some (pv 1)) (po_some (pv 2))) pe_str (nomark _))
      (pss_cons (ps_while PassesOwn.never (pw_and (pt_cmpR op_lt (pv 2) (pe_callB call_len (by rfl) B.len bt_len (pa_cons (pv 0) pa_nil)) (nomark _))
          (pw_and1 (pw_or (pt_cmpR op_eq (pe_ix ix_str (pv 0) (pv 2) (fun _ _ => rfl)) pe_str (nomark _)) (pw_or1 (pt_chain op_le_str op_le_str pe_str (pe_ix ix_str (pv 0) (pv 2) (fun _ _ => rfl)) pe_str))).pt)).pt
          (pss_one (ps_set (i := 2) nd rfl (.inl rfl) (pe_op op_add (pv 2) pe_int))))
      (pss_one (ps_ret (pe_ifExp (pw_and (pt_cmpR op_eq (pe_slice sl_str (pv 0) (po_some (pv 2)) (po_some (pe_op op_add (pv 2) pe_int))) pe_str (nomark _)) (pw_and1 (pt_cmpR op_le (pe_op op_sub (pv 2) (pv 1)) pe_int (nomark _)))).pt
        (pe_tup (pa_cons (pe_tup (pa_cons (pe_slice sl_str (pv 0) (po_some (pe_op op_add (pv 1) pe_int)) (po_some (pv 2))) pa_nil)) (pa_cons (pe_op op_add (pv 2) pe_int) pa_nil))) pe_non))) ) pss_nil)
    (pss_cons (ps_set (i := 3) nd rfl (.inl rfl) (pe_op op_add (pv 1) (pe_callTy call_int1 (by rfl) B.int bt_int (pa_cons (pe_cmpR op_eq (pe_slice sl_str (pv 0) (po_some (pv 1)) (po_some (pv 2))) pe_str (nomark _)) pa_nil))))
    (pss_cons (ps_set (i := 2) nd rfl (.inl rfl) (pv 3))
    (pss_cons (ps_while PassesOwn.never (pw_and (pt_cmpR op_lt (pv 2) (pe_callB call_len (by rfl) B.len bt_len (pa_cons (pv 0) pa_nil)) (nomark _))
          (pw_and1 (pt_chain op_le_str op_le_str pe_str (pe_ix ix_str (pv 0) (pv 2) (fun _ _ => rfl)) pe_str))).pt
          (pss_one (ps_set (i := 2) nd rfl (.inl rfl) (pe_op op_add (pv 2) pe_int))))
    (pss_cons (ps_set (i := 4) nd rfl (.inl rfl) (pe_slice sl_str (pv 0) (po_some (pv 3)) (po_some (pv 2))))
    (pss_cons (ps_if (pw_or (pt_not (pt_chain op_le op_le pe_int (pe_callB call_len (by rfl) B.len bt_len (pa_cons (pv 4) pa_nil)) pe_int))
        (pw_or1 (pw_and (pt_cmpR op_eq (pe_ix ix_str (pv 4) pe_int (fun _ _ => rfl)) pe_str (nomark _)) (pw_and1 (pw_or (pt_cmpR op_gt (pv 3) (pv 1) (nomark _)) (pw_or1 (pt_cmpR op_gt (pe_callB call_len (by rfl) B.len bt_len (pa_cons (pv 4) pa_nil)) pe_int (nomark _)))).pt)).pt)).pt
        (pss_one (ps_ret pe_non)) pss_nil)
    (pss_cons (ps_set (i := 5) nd rfl (.inl rfl) (pe_callTy (call_int_big hnd) (by rfl) B.int bt_int (pa_cons (pv 4) pa_nil)))
    (pss_one (ps_ret (pe_tup (pa_cons (pe_tup (pa_cons (pe_ifExp (pt_cmpR op_gt (pv 3) (pv 1) (nomark _)) (pe_op op_sub pe_int (pv 5)) (pv 5)) pa_nil)) (pa_cons (pv 2) pa_nil))))))))))))), ?_⟩
  have hl := TL.len_tl z
  have hzs : z.length ≤ sizeLine := by rw [sizeLine_eq]; omega
  have e4 : decide (V.str (cutS z (some (a : Int)) (some ((a : Int) + 4))) = V.str "none") = decide (((tl z).drop a).take 4 = [110, 111, 110, 101]) := dec_cut z a 4 "none"
  have e34 : decide (V.str (cutS z (some (a : Int)) (some ((a : Int) + 1))) = V.str "\"") = decide (((tl z).drop a).head? = some 34) := dec_one z a 34 "\"" (by decide +kernel)
  have e45 : decide (V.str (cutS z (some (a : Int)) (some ((a : Int) + 1))) = V.str "-") = decide (((tl z).drop a).head? = some 45) := dec_one z a 45 "-" (by decide +kernel)
  refine ⟨_, rfl, _, rfl, _, rfl, _, rfl, _, _, rfl, rfl, _, rfl, z, rfl, hzs, rfl, _, rfl, ?_⟩
  refine ite2 (fun c => ?_) (fun c => ?_)
  · have c4 : ((tl z).drop a).take 4 = [110, 111, 110, 101] := of_decide_eq_true (e4 ▸ c)
    have er : rdW ((tl z).drop a) = some (.none, ((tl z).drop a).drop 4) := if_pos c4
    rw [er] at q
    have hd : 4 ≤ z.length - a := by
      have := congrArg List.length c4
      rw [List.length_take, List.length_drop, ← hl] at this
      simp only [List.length_cons, List.length_nil] at this
      omega
    refine ⟨(by show 1 ≤ sizeLine; decide), fun u hu => ⟨_, rfl, _, _, rfl, rfl, (by show 2 ≤ sizeLine; decide), fun t ht => ?_⟩⟩
    refine told_ret .non ?_ ?_ q hu ht
    · rw [List.length_drop, List.length_drop, ← hl]; omega
    · rw [List.length_drop, List.length_drop, ← hl]; omega
  have c4 : ¬ ((tl z).drop a).take 4 = [110, 111, 110, 101] := of_decide_eq_false (by rw [← e4]; exact Bool.eq_false_iff.mpr c)
  have er : rdW ((tl z).drop a) = if ((tl z).drop a).head? = some 34 then rdStr (((tl z).drop a).drop 1) else rdInt ((tl z).drop a) := if_neg c4
  rw [er] at q
  refine ⟨_, rfl, _, _, rfl, rfl, ?_⟩
  refine ⟨_, rfl, _, rfl, _, rfl, _, rfl, _, rfl, z, rfl, hzs, rfl, _, rfl, ?_⟩
  refine ite2 (fun c => ?_) (fun c => ?_)
  · have ch : ((tl z).drop a).head? = some 34 := of_decide_eq_true (e34 ▸ c)
    rw [if_pos ch] at q
    have ha1 : a + 1 ≤ (tl z).length := by
      rw [List.head?_drop] at ch
      exact (List.getElem?_eq_some_iff.mp ch).1
    refine row_loop (p := isSig) (s := tl z) (b := a + 1) (fun e => [some (.str z), some (.int a), some (.int e), none, none, none]) (fun _ => H) ha1 (fun e Q h1 h2 q => sig_cond rfl rfl hzs q) (fun e D' h1 h2 q => ⟨_, rfl, _, _, rfl, rfl, q⟩) (fun e hr hw hdw => ?_)
    have hle := hr.le
    have hln := hr.ln
    have ed : ((tl z).drop a).drop 1 = (tl z).drop (a + 1) := by rw [List.drop_drop]
    rw [ed] at q
    have ee : decide (V.str (cutS z (some (e : Int)) (some ((e : Int) + 1))) = V.str "\"") = decide (((tl z).drop e).head? = some 34) := dec_one z e 34 "\"" (by decide +kernel)
    have wl : ((tl z).drop (a + 1)).takeWhile isSig = ((tl z).drop (a + 1)).take (e - (a + 1)) := hw
    have wlen : (((tl z).drop (a + 1)).takeWhile isSig).length = e - (a + 1) := by rw [wl, List.length_take, List.length_drop]; omega
    refine ⟨_, rfl, _, rfl, _, rfl, _, rfl, _, _, rfl, rfl, _, rfl, z, rfl, hzs, rfl, _, rfl, ?_⟩
    refine ite2 (fun c1 => ?_) (fun c1 => ?_)
    · have c1 : ((tl z).drop e).head? = some 34 := of_decide_eq_true (ee ▸ c1)
      obtain ⟨rest, hrest⟩ : ∃ rest, (tl z).drop e = 34 :: rest := by
        cases h : (tl z).drop e with
        | nil => rw [h] at c1; cases c1
        | cons x r => rw [h] at c1; cases c1; exact ⟨r, rfl⟩
      have hrl : rest.length + 1 = (tl z).length - e := by
        have := congrArg List.length hrest
        rw [List.length_drop, List.length_cons] at this
        omega
      refine ⟨_, rfl, _, rfl, _, _, rfl, rfl, _, _, rfl, rfl, _, rfl, ?_⟩
      refine ite2 (fun c2 => ?_) (fun c2 => ?_)
      · have c2 : (e : Int) - (a : Int) ≤ 4001 := of_decide_eq_true c2
        have ez : cutS z (some ((a : Int) + 1)) (some (e : Int)) = ⟨(((tl z).drop (a + 1)).takeWhile isSig).toArray⟩ := by
          refine TL.ext_tl ?_
          rw [show ((a : Int) + 1) = ((a + 1 : Nat) : Int) by omega, tl_cut, wl]
        have er : rdStr ((tl z).drop (a + 1)) = some (.str (cutS z (some ((a : Int) + 1)) (some (e : Int))), rest) := by
          unfold rdStr
          rw [hdw, hrest]
          show (if _ then _ else _) = _
          rw [if_pos (by rw [wlen]; omega), ez]
        rw [er] at q
        refine ⟨_, rfl, _, rfl, _, _, rfl, rfl, _, rfl, _, rfl, _, rfl, z, rfl, hzs, (by show 1 ≤ sizeLine; decide), fun u hu => ⟨_, rfl, _, _, rfl, rfl, (by show 2 ≤ sizeLine; decide), fun t ht => ?_⟩⟩
        refine told_ret (.str _) ?_ ?_ q hu ht
        · omega
        · omega
      · have c2 : ¬ (e : Int) - (a : Int) ≤ 4001 := of_decide_eq_false (Bool.eq_false_iff.mpr c2)
        have er : rdStr ((tl z).drop (a + 1)) = none := by
          unfold rdStr
          rw [hdw, hrest]
          show (if _ then _ else _) = _
          rw [if_neg (by rw [wlen]; omega)]
        rw [er] at q
        exact q H _ (fun _ _ h => h) rfl
    · have c1 : ¬ ((tl z).drop e).head? = some 34 := of_decide_eq_false (by rw [← ee]; exact Bool.eq_false_iff.mpr c1)
      have er : rdStr ((tl z).drop (a + 1)) = none := by
        unfold rdStr
        rw [hdw]
        cases h : (tl z).drop e with
        | nil => rfl
        | cons x r =>
          rw [h] at c1
          by_cases hx : x = 34
          · subst hx; exact absurd rfl c1
          · split
            · rename_i heq; cases heq; exact absurd rfl hx
            · rfl
      rw [er] at q
      exact q H _ (fun _ _ h => h) rfl
  · have ch : ¬ ((tl z).drop a).head? = some 34 := of_decide_eq_false (by rw [← e34]; exact Bool.eq_false_iff.mpr c)
    rw [if_neg ch] at q
    obtain ⟨neg, hneg⟩ : ∃ neg : Bool, decide (V.str (cutS z (some (a : Int)) (some ((a : Int) + 1))) = V.str "-") = neg := ⟨_, rfl⟩
    have hng : negOf ((tl z).drop a) = neg := by
      rw [← hneg, e45]
      unfold negOf
      rw [Bool.eq_iff_iff]
      simp
    have hbt : behind ((tl z).drop a) = (tl z).drop (a + (if neg = true then 1 else 0)) := by
      unfold behind
      rw [hng]
      cases neg
      · rfl
      · show ((tl z).drop a).drop 1 = _
        rw [List.drop_drop]
        rfl
    have hbl : a + (if neg = true then 1 else 0) ≤ (tl z).length := by
      cases neg with
      | false => show a + 0 ≤ _; omega
      | true =>
        have : ((tl z).drop a).head? = some 45 := of_decide_eq_true (by rw [← e45]; exact hneg)
        rw [List.head?_drop] at this
        exact (List.getElem?_eq_some_iff.mp this).1
    unfold rdInt at q
    rw [hng, hbt] at q
    refine ⟨_, rfl, _, rfl, _, rfl, _, rfl, _, rfl, _, rfl, z, rfl, hzs, rfl, .inr ⟨neg, by rw [← hneg], _, _, rfl, rfl, _, rfl, ?_⟩⟩
    refine row_loop' (p := isDig) (s := tl z) (b := a + (if neg = true then 1 else 0)) (fun e => [some (.str z), some (.int a), some (.int e), some (.int ((a : Int) + (if neg = true then 1 else 0))), none, none]) (fun _ => H) (by cases neg <;> rfl) rfl hbl (fun e Q h1 h2 q => dig_cond rfl rfl hzs q) (fun e D' h1 h2 q => ⟨_, rfl, _, _, rfl, rfl, q⟩) (fun e hr hw hdw => ?_)
    rw [hw, hdw] at q
    have hle := hr.le
    have hln := hr.ln
    obtain ⟨y, hy⟩ : ∃ y, cutS z (some ((a : Int) + (if neg = true then 1 else 0))) (some (e : Int)) = y := ⟨_, rfl⟩
    have ey : tl y = ((tl z).drop (a + (if neg = true then 1 else 0))).take (e - (a + (if neg = true then 1 else 0))) := by
      rw [← hy, ← tl_cut]
      cases neg <;> rfl
    have yl : y.length = e - (a + (if neg = true then 1 else 0)) := by
      rw [TL.len_tl, ey, List.length_take, List.length_drop]; omega
    have yall : ∀ c ∈ tl y, isDig c = true := by rw [ey]; exact hr.al
    rw [← ey] at q
    have hyl : y.length ≤ sizeLine := by omega
    have cold : ∀ bad, badDigits neg (tl y) = bad → bad = true → Q .non H := fun bad hb ht => by
      rw [hb, ht, if_pos rfl] at q
      exact q H _ (fun _ _ h => h) rfl
    refine ⟨_, rfl, _, rfl, _, rfl, _, rfl, _, rfl, z, rfl, hzs, ?_⟩
    have gy : ∀ {T : Str → Prop}, T y → T (cutS z (some ((a : Int) + (if neg = true then 1 else 0))) (some (e : Int))) := fun {T} h => by rw [hy]; exact h
    refine gy (T := fun y => tSeq _ _ _ ([some (.str z), some (.int a), some (.int e), some (.int ((a : Int) + (if neg = true then 1 else 0))), some (.str y), none] : St) H) ?_
    have lenT : (tl y).length = y.length := (TL.len_tl y).symm
    refine ⟨_, rfl, _, _, rfl, ⟨hyl, rfl⟩, _, _, rfl, rfl, _, rfl, ?_⟩
    refine ite2 (fun c1 => ?_) (fun c1 => ?_)
    rotate_left
    · have c1 : ¬ (1 : Int) ≤ (y.length : Nat) := of_decide_eq_false (Bool.eq_false_iff.mpr c1)
      refine ⟨_, rfl, ?_⟩
      refine ite_tt' (cold _ rfl ?_)
      have : tl y = [] := List.eq_nil_of_length_eq_zero (by omega)
      rw [this]
      rfl
    have c1 : (1 : Int) ≤ (y.length : Nat) := of_decide_eq_true c1
    obtain ⟨c0, r0, hc0⟩ : ∃ c r, tl y = c :: r := by
      cases h : tl y with
      | nil => rw [h] at lenT; simp at lenT; omega
      | cons c r => exact ⟨c, r, rfl⟩
    have bad : badDigits neg (tl y) = (decide (4000 < y.length) || (decide (c0 = 48) && (neg || decide (1 < y.length)))) := by
      rw [hc0] at lenT
      rw [hc0, ← lenT]
      exact bad_cons neg c0 r0
    refine ⟨_, _, rfl, rfl, _, rfl, ?_⟩
    refine ite2 (fun c2 => ?_) (fun c2 => ?_)
    · refine cold _ bad ?_
      have : ¬ ((y.length : Nat) : Int) ≤ 4000 := fun h => by rw [decide_eq_true h] at c2; cases c2
      rw [decide_eq_true (show 4000 < y.length by omega), Bool.true_or]
    have c2 : ((y.length : Nat) : Int) ≤ 4000 := by
      refine Classical.byContradiction fun h => c2 ?_
      rw [decide_eq_false h]; rfl
    rw [decide_eq_false (show ¬ 4000 < y.length by omega), Bool.false_or] at bad
    have e0 : decide (V.str ⟨#[c0]⟩ = V.str "0") = decide (c0 = 48) := by
      rw [dec_tl]
      show decide ([c0] = [48]) = _
      rw [Bool.eq_iff_iff]; simp
    refine ⟨_, rfl, y, ((0 : Nat) : Int), c0, rfl, rfl, hyl, atI_nat (by show (tl y)[0]? = _; rw [hc0]; rfl), rfl, _, rfl, ?_⟩
    refine ite2 (fun c3 => ?_) (fun c3 => ?_)
    · rw [← e0, c3, Bool.true_and] at bad
      refine ⟨_, rfl, _, rfl, _, _, rfl, rfl, _, rfl, ?_⟩
      refine ite2 (fun c4 => ?_) (fun c4 => ?_)
      · have : neg = true := by
          cases neg with
          | true => rfl
          | false => exact absurd (of_decide_eq_true c4) (by show ¬ (a : Int) < (a : Int) + 0; omega)
        exact cold _ bad (by rw [this, Bool.true_or])
      have hn : neg = false := by
        cases neg with
        | false => rfl
        | true => exact absurd (decide_eq_true (by show (a : Int) < (a : Int) + 1; omega)) c4
      refine ⟨_, rfl, _, _, rfl, ⟨hyl, rfl⟩, _, _, rfl, rfl, _, rfl, ?_⟩
      refine ite2 (fun c5 => ?_) (fun c5 => ?_)
      · have : (1 : Int) < (y.length : Nat) := of_decide_eq_true c5
        exact cold _ bad (by rw [decide_eq_true (show 1 < y.length by omega), Bool.or_true])
      · have : ¬ (1 : Int) < (y.length : Nat) := of_decide_eq_false (Bool.eq_false_iff.mpr c5)
        rw [hn, decide_eq_false (show ¬ 1 < y.length by omega)] at bad
        have good : badDigits neg (tl y) = false := by rw [hn]; exact bad
        refine ⟨_, rfl, y, rfl, fun c hc => of_isDig (yall c hc), by rw [hc0]; exact List.cons_ne_nil _ _, by omega, ?_⟩
        rw [good, if_neg Bool.false_ne_true] at q
        have hrl : ((tl z).drop e).length = z.length - e := by rw [List.length_drop, hl]
        refine ⟨_, rfl, _, rfl, _, _, rfl, rfl, _, rfl, ?_⟩
        refine ite2 (fun c6 => ?_) (fun c6 => ?_)
        · have hn2 : neg = true := by
            cases neg with
            | true => rfl
            | false => exact absurd (of_decide_eq_true c6) (by show ¬ (a : Int) < (a : Int) + 0; omega)
          refine ⟨_, rfl, _, _, rfl, rfl, (by show 1 ≤ sizeLine; decide), fun u hu => ⟨_, rfl, (by show 2 ≤ sizeLine; decide), fun t ht => ?_⟩⟩
          have en : numOf neg (tl y) = 0 - ((NumText.digitsVal (tl y) : Nat) : Int) := by rw [hn2]; show -_ = _; omega
          rw [en] at q
          exact told_ret (.int _) (by omega) (by omega) q hu ht
        · have hn2 : neg = false := by
            cases neg with
            | false => rfl
            | true => exact absurd (decide_eq_true (by show (a : Int) < (a : Int) + 1; omega)) c6
          refine ⟨_, rfl, (by show 1 ≤ sizeLine; decide), fun u hu => ⟨_, rfl, (by show 2 ≤ sizeLine; decide), fun t ht => ?_⟩⟩
          have en : numOf neg (tl y) = ((NumText.digitsVal (tl y) : Nat) : Int) := by rw [hn2]; rfl
          rw [en] at q
          exact told_ret (.int _) (by omega) (by omega) q hu ht
    · have good : badDigits neg (tl y) = false := by
        rw [bad, ← e0, Bool.eq_false_iff.mpr c3, Bool.false_and]
      refine ⟨_, rfl, y, rfl, fun c hc => of_isDig (yall c hc), by rw [hc0]; exact List.cons_ne_nil _ _, by omega, ?_⟩
      rw [good, if_neg Bool.false_ne_true] at q
      have hrl : ((tl z).drop e).length = z.length - e := by rw [List.length_drop, hl]
      refine ⟨_, rfl, _, rfl, _, _, rfl, rfl, _, rfl, ?_⟩
      refine ite2 (fun c6 => ?_) (fun c6 => ?_)
      · have hn2 : neg = true := by
          cases neg with
          | true => rfl
          | false => exact absurd (of_decide_eq_true c6) (by show ¬ (a : Int) < (a : Int) + 0; omega)
        refine ⟨_, rfl, _, _, rfl, rfl, (by show 1 ≤ sizeLine; decide), fun u hu => ⟨_, rfl, (by show 2 ≤ sizeLine; decide), fun t ht => ?_⟩⟩
        have en : numOf neg (tl y) = 0 - ((NumText.digitsVal (tl y) : Nat) : Int) := by rw [hn2]; show -_ = _; omega
        rw [en] at q
        exact told_ret (.int _) (by omega) (by omega) q hu ht
      · have hn2 : neg = false := by
          cases neg with
          | false => rfl
          | true => exact absurd (decide_eq_true (by show (a : Int) < (a : Int) + 1; omega)) c6
        refine ⟨_, rfl, (by show 1 ≤ sizeLine; decide), fun u hu => ⟨_, rfl, (by show 2 ≤ sizeLine; decide), fun t ht => ?_⟩⟩
        have en : numOf neg (tl y) = ((NumText.digitsVal (tl y) : Nat) : Int) := by rw [hn2]; rfl
        rw [en] at q
        exact told_ret (.int _) (by omega) (by omega) q hu ht
end
end K15
end

section
set_option Elab.async false
set_option linter.all false
set_option maxRecDepth 100000
set_option pp.maxSteps 900
namespace K15
open PySem PySem.Spec PyProof.Rows L2 TL

def nest (b : Bool) : Nat → PyData → PyData
  | 0, d => d
  | n + 1, d => if b = true then .dict [(.str "a", nest b n d)] else .tuple [nest b n d]
abbrev sNested : Stmt := topS 42
abbrev sIsPlain : Stmt := topS 20
theorem scNested : FnScope ["value", "deep", "is_dict", "turn"] ["value", "deep", "is_dict"] (defScope sNested) := ⟨rfl, rfl, rfl, by decide +kernel, rfl, by decide +kernel, by decide +kernel⟩
theorem scIsPlain : FnScope ["value"] ["value"] (defScope sIsPlain) := ⟨rfl, rfl, rfl, by decide +kernel, rfl, by decide +kernel, by decide +kernel⟩
def spNested (w : World) : Sp := fun vs H Q _ => ∃ (x : V) (d : PyData) (n : Nat) (b : Bool), vs = [x, .int n, .bl b] ∧ n ≤ 31 ∧ At w H x d ∧ ∀ H' y, Same H H' → At w H' y (nest b n d) → Q y H'
def spIsPlain (w : World) : Sp := fun vs H Q _ => ∃ (x : V) (d : PyData), vs = [x] ∧ At w H x d ∧ (txt d).length < big ∧ ∀ H', Same H H' → Q (.bl (plain 30 d)) H'
section
variable {P : Program} {w : World} {K : PySem.W.Frag} {mg : Str → Option Value} {base : Heap} {f g : Addr} {fd gd : FuncData}
theorem ok_isPlain (D : Df K mg "is_plain" sIsPlain ["value"] f fd) (R : Df K mg "is_plain_in" sPlain ["value", "left"] g gd) (gN : Gv mg "MOST_NESTED" (.int 30)) (GR : FnOk P w K mg base CX0 33 g gd ["value", "left"] (spPlain w 31)) :
    FnOk P w K mg base CX0 34 f fd ["value"] (spIsPlain w) := by
  refine D.F.ok scIsPlain (fun vs H Q E h => ?_) (fun cdv A outer s H vs Q E hr h => ?_)
  · obtain ⟨x, d, rfl, _⟩ := h
    rfl
  obtain ⟨x, d, rfl, a, hz, q⟩ := h
  refine ⟨_, pss_one (ps_ret (pe_call GR hr (by rfl) R.m R.F.kp R.b .nil pass0 (pa_cons (pv 0) (pa_cons (pe_gv gN (by rfl)) pa_nil)))), ?_⟩
  exact ⟨_, rfl, x, d, 30, rfl, by decide, by decide, a, hz, q⟩
theorem ok_nested (D : Df K mg "_law_nested" sNested ["value", "deep", "is_dict"] f fd) (B : Bn mg) : FnOk P w K mg base CX0 1 f fd ["value", "deep", "is_dict"] (spNested w) := by
  refine D.F.ok scNested (fun vs H Q E h => ?_) (fun cdv A outer s H vs Q E hr h => ?_)
  · obtain ⟨x, d, n, b, rfl, _⟩ := h
    rfl
  obtain ⟨x, d, n, b, rfl, hn, a, q⟩ := h
  have nd := scNested.nd
  refine ⟨_, pss_cons (ps_for PassesOwn.never rfl (pi_range1 (by rfl) B.range (pa_cons (pv 1) pa_nil)) (pg_name (i := 3) nd rfl (Or.inl rfl))
      (pss_one (ps_set (i := 0) nd rfl (.inl rfl) (pe_ifExp (pt_val (pv 2)) (pe_disp1 (by exact hr.units) pe_str (pv 0)) (pe_tup (pa_cons (pv 0) pa_nil))))))
    (pss_one (ps_ret (pv 0))), ?_⟩
  refine ⟨_, rfl, (n : Int), rfl, by omega, by omega, ?_⟩
  refine for_range (lo := 0) (n := n) (fun i σ H' => ∃ (y : V) (t : Option V), σ = [some y, some (.int n), some (.bl b), t] ∧ At w H' y (nest b i d) ∧ Same H H') ⟨x, none, rfl, a, fun _ _ h => h⟩ (fun i σ H3 hi hp => ?_) (fun σ H3 hp => ?_)
  · obtain ⟨y, t, rfl, h2, h3⟩ := hp
    refine ⟨_, rfl, b, rfl, ?_⟩
    cases b with
    | true =>
      refine ite_tt' ?_
      refine fun p hp hsys => ?_
      have e1 : nest true (i + 1) d = .dict [(.str "a", nest true i d)] := rfl
      refine ⟨_, rfl, upd_same, .str "a", nest true i d, .str _, h2.keep (Keep.new hp), rfl, by decide, fun o u ku vu rk rv ho => ?_⟩
      have k1 : Keep (upd H3 p (Bld w p [])) (upd (upd H3 p (Bld w p [])) p (.frz o u)) := Keep.mut (by rw [upd_same]; trivial)
      refine ⟨.ref p, some (.int (0 + (i : Int))), rfl, ?_, ?_⟩
      · rw [e1]
        exact .dic upd_same ho hsys (.cons rk (.str _) rv ((h2.keep (Keep.new hp)).keep k1) .nil)
      · intro b' o' ho'
        have := h3 _ _ ho'
        rw [upd_ne (ne_of_none this hp), upd_ne (ne_of_none this hp)]
        exact this
    | false =>
      refine ite_ff' ?_
      refine ⟨_, rfl, (by show 1 ≤ sizeLine; decide), fun p hp => ?_⟩
      have e1 : nest false (i + 1) d = .tuple [nest false i d] := rfl
      refine ⟨.ref p, some (.int (0 + (i : Int))), rfl, ?_, Same.trans h3 (Same.new hp)⟩
      rw [e1]
      exact .tup upd_same (.cons (h2.keep (Keep.new hp)) .nil)
  · obtain ⟨y, t, rfl, h2, h3⟩ := hp
    exact ⟨_, rfl, q H3 y h3 h2⟩
end
end K15
end

section
set_option Elab.async false
set_option linter.all false
set_option maxRecDepth 100000
set_option pp.maxSteps 900
namespace K15
open PySem PySem.Spec PyProof.Rows L2 TL

/-! ### the law's loop, in plain words -/
theorem rd_word {m left : Nat} {t : Tx} (h1 : t.head? ≠ some 40) (h2 : t.head? ≠ some 123) : rd m left t = rdW t := by
  unfold rd rdW
  by_cases a : t.take 4 = [110, 111, 110, 101]
  · rw [if_pos a, if_pos a]
  · rw [if_neg a, if_neg a]
    by_cases b : t.head? = some 34
    · rw [if_pos b, if_pos b]
    · rw [if_neg b, if_neg b, if_neg h1, if_neg h2]
def flat {α : Type} : List (α × α) → List α
  | [] => []
  | (a, b) :: r => a :: b :: flat r
theorem flat_len {α : Type} : ∀ l : List (α × α), (flat l).length = 2 * l.length
  | [] => rfl
  | (a, b) :: r => by
    have := flat_len r
    simp only [flat, List.length_cons]
    omega
theorem flat_snoc {α : Type} (a b : α) : ∀ l : List (α × α), flat (l ++ [(a, b)]) = flat l ++ [a] ++ [b]
  | [] => rfl
  | (c, d) :: r => by
    show c :: d :: flat (r ++ [(a, b)]) = _
    rw [flat_snoc a b r]
    rfl
/-- ascending all along -/
def AscL (l : List Tx) : Prop := ∀ i, ∀ x y, l[i]? = some x → l[i + 1]? = some y → x < y
theorem ascL_snoc {l : List Tx} {t : Tx} : AscL (l ++ [t]) ↔ AscL l ∧ ∀ x, l.getLast? = some x → x < t := by
  constructor
  · intro h
    refine ⟨fun i x y hx hy => h i x y ?_ ?_, fun x hx => ?_⟩
    · rw [List.getElem?_append_left (List.getElem?_eq_some_iff.mp hx).1]; exact hx
    · rw [List.getElem?_append_left (List.getElem?_eq_some_iff.mp hy).1]; exact hy
    · rw [List.getLast?_eq_getElem?] at hx
      have hl : l.length - 1 < l.length := (List.getElem?_eq_some_iff.mp hx).1
      refine h (l.length - 1) x t ?_ ?_
      · rw [List.getElem?_append_left hl]; exact hx
      · rw [show l.length - 1 + 1 = l.length by omega, List.getElem?_append_right (Nat.le_refl _), Nat.sub_self]; rfl
  · rintro ⟨h1, h2⟩ i x y hx hy
    have hi : i + 1 < (l ++ [t]).length := (List.getElem?_eq_some_iff.mp hy).1
    rw [List.length_append, List.length_singleton] at hi
    rw [List.getElem?_append_left (by omega)] at hx
    by_cases h : i + 1 < l.length
    · rw [List.getElem?_append_left h] at hy
      exact h1 i x y hx hy
    · have e : i + 1 = l.length := by omega
      rw [e, List.getElem?_append_right (Nat.le_refl _), Nat.sub_self] at hy
      cases hy
      refine h2 x ?_
      rw [List.getLast?_eq_getElem?, show l.length - 1 = i by omega]
      exact hx
section
variable (fk fv : Tx → Option (PyData × Tx)) (R0 : Option (PyData × Tx)) (s : Tx)
/-- between the turns: where it stands, what was read, the texts of it -/
inductive DI : Bool → Nat → List PyData → List Tx → Prop
  | tup {e n ds mk} : rdItems fv n ds (s.drop e) = R0 → s.length - e < n → DI false e ds mk
  | even {e n kvs mks} : s.length - e < n → mks.length = kvs.length → (rdPairs fk fv n kvs (mks.map Prod.fst).getLast? (s.drop e) = R0 ∧ AscL (mks.map Prod.fst) ∨ R0 = none ∧ ¬ AscL (mks.map Prod.fst)) → DI true e (flat kvs) (flat mks)
  | odd {e n kvs mks k tk} : s.length - e ≤ n → mks.length = kvs.length → (s.drop e).head? = some 32 →
      (((blank false (s.drop e)).bind fun s3 => (fv s3).bind fun q => rdPairs fk fv n (kvs ++ [(k, q.1)]) (some tk) q.2) = R0 ∧ AscL (mks.map Prod.fst ++ [tk]) ∨ R0 = none ∧ ¬ AscL (mks.map Prod.fst ++ [tk])) → DI true e (flat kvs ++ [k]) (flat mks ++ [tk])
def closeC (isd : Bool) : Nat := if isd = true then 125 else 41
variable {fk fv R0 s}
theorem DI.start_tup {e n : Nat} (h : rdItems fv n [] (s.drop e) = R0) (hn : s.length - e < n) : DI fk fv R0 s false e [] [] := .tup h hn
theorem DI.start_dict {e n : Nat} (h : rdPairs fk fv n [] none (s.drop e) = R0) (hn : s.length - e < n) : DI fk fv R0 s true e [] [] :=
  .even (kvs := []) (mks := []) hn rfl (.inl ⟨h, fun i x y hx => by simp at hx⟩)
/-- it stands at the end -/
theorem DI.fin_tup {e : Nat} {ds mk} (d : DI fk fv R0 s false e ds mk) (hc : (s.drop e).head? = some 41) : R0 = some (.tuple ds, s.drop (e + 1)) := by
  cases d with
  | tup h hn =>
    rename_i n
    cases n with
    | zero => omega
    | succ n =>
      unfold rdItems at h
      rw [if_pos hc, List.drop_drop] at h
      exact h.symm
theorem DI.fin_dict {e : Nat} {ds mk} (d : DI fk fv R0 s true e ds mk) (hc : (s.drop e).head? = some 125) : ∃ kvs mks, ds = flat kvs ∧ mk = flat mks ∧ mks.length = kvs.length ∧ (AscL (mks.map Prod.fst) ∧ R0 = some (.dict kvs, s.drop (e + 1)) ∨ ¬ AscL (mks.map Prod.fst) ∧ R0 = none) := by
  cases d with
  | even hn hl h =>
    rename_i n kvs mks
    refine ⟨kvs, mks, rfl, rfl, hl, ?_⟩
    rcases h with ⟨h, ha⟩ | ⟨h, ha⟩
    · refine .inl ⟨ha, ?_⟩
      cases n with
      | zero => omega
      | succ n =>
        unfold rdPairs at h
        rw [if_pos hc, List.drop_drop] at h
        exact h.symm
    · exact .inr ⟨ha, h⟩
  | odd hn hl hh h => rw [hh] at hc; cases hc
/-- a key is due -/
def isKey (isd : Bool) (ds : List PyData) : Bool := isd && decide (ds.length % 2 = 0)
theorem isKey_even {kvs : List (PyData × PyData)} : isKey true (flat kvs) = true := by
  unfold isKey
  rw [flat_len, Bool.true_and]
  exact decide_eq_true (by omega)
theorem isKey_odd {kvs : List (PyData × PyData)} {k : PyData} : isKey true (flat kvs ++ [k]) = false := by
  unfold isKey
  rw [List.length_append, flat_len, Bool.true_and]
  exact decide_eq_false (by simp)
theorem isKey_tup {ds : List PyData} : isKey false ds = false := rfl
def beh (e : Nat) (ds : List PyData) : Nat := if ds.isEmpty = true then e else e + 1
theorem flat_empty {kvs : List (PyData × PyData)} : (flat kvs).isEmpty = kvs.isEmpty := by
  cases kvs with
  | nil => rfl
  | cons x r => rfl
theorem blank_at {e : Nat} {ds : List PyData} (h : ds.isEmpty = true ∨ (s.drop e).head? = some 32) : blank ds.isEmpty (s.drop e) = some (s.drop (beh e ds)) := by
  unfold blank beh
  cases hd : ds.isEmpty with
  | true => rfl
  | false =>
    rcases h with h | h
    · rw [hd] at h; cases h
    · rw [if_neg Bool.false_ne_true, if_pos h, if_neg Bool.false_ne_true, List.drop_drop]
theorem blank_no {e : Nat} {b : Bool} (hb : b = false) (h : (s.drop e).head? ≠ some 32) : blank b (s.drop e) = none := by
  unfold blank
  rw [hb, if_neg Bool.false_ne_true, if_neg h]
theorem DI.noBlank {isd : Bool} {e : Nat} {ds mk} (d : DI fk fv R0 s isd e ds mk) (hc : (s.drop e).head? ≠ some (closeC isd)) (hne : ds.isEmpty = false) (hb : (s.drop e).head? ≠ some 32) : R0 = none := by
  cases d with
  | tup h hn =>
    rename_i n
    cases n with
    | zero => omega
    | succ n =>
      unfold rdItems at h
      rw [if_neg (show ¬ (s.drop e).head? = some 41 from hc), blank_no hne hb] at h
      exact h.symm
  | even hn hl h =>
    rename_i n kvs mks
    rcases h with ⟨h, ha⟩ | ⟨h, ha⟩
    · cases n with
      | zero => omega
      | succ n =>
        rw [rdPairs_succ, if_neg (show ¬ (s.drop e).head? = some 125 from hc), blank_no (by rw [← flat_empty]; exact hne) hb] at h
        exact h.symm
    · exact h
  | odd hn hl hh h => exact absurd hh hb
theorem DI.noRead {isd : Bool} {e : Nat} {ds mk} (d : DI fk fv R0 s isd e ds mk) (hc : (s.drop e).head? ≠ some (closeC isd)) (hb : ds.isEmpty = true ∨ (s.drop e).head? = some 32) (hf : (if isKey isd ds = true then fk else fv) (s.drop (beh e ds)) = none) : R0 = none := by
  have bl := blank_at hb
  cases d with
  | tup h hn =>
    rename_i n
    rw [isKey_tup, if_neg Bool.false_ne_true] at hf
    cases n with
    | zero => omega
    | succ n =>
      unfold rdItems at h
      rw [if_neg (show ¬ (s.drop e).head? = some 41 from hc), bl, Option.bind_some, hf] at h
      exact h.symm
  | even hn hl h =>
    rename_i n kvs mks
    rw [isKey_even, if_pos rfl] at hf
    rcases h with ⟨h, ha⟩ | ⟨h, ha⟩
    · cases n with
      | zero => omega
      | succ n =>
        rw [flat_empty] at bl
        rw [rdPairs_succ, if_neg (show ¬ (s.drop e).head? = some 125 from hc), bl, Option.bind_some, hf] at h
        exact h.symm
    · exact h
  | odd hn hl hh h =>
    rename_i n kvs mks k tk
    rw [isKey_odd, if_neg Bool.false_ne_true] at hf
    have be : (flat kvs ++ [k]).isEmpty = false := by cases flat kvs <;> rfl
    rw [be] at bl
    rcases h with ⟨h, ha⟩ | ⟨h, ha⟩
    · rw [bl, Option.bind_some, hf] at h
      exact h.symm
    · exact h
theorem DI.keyDict {isd : Bool} {e : Nat} {ds mk} {x : PyData} {rest : Tx} (d : DI fk fv R0 s isd e ds mk) (hc : (s.drop e).head? ≠ some (closeC isd)) (hb : ds.isEmpty = true ∨ (s.drop e).head? = some 32) (hk : isKey isd ds = true) (hf : fk (s.drop (beh e ds)) = some (x, rest)) (hx : hasD x = true ∨ rest.head? ≠ some 32) : R0 = none := by
  have bl := blank_at hb
  cases d with
  | tup h hn => cases hk
  | even hn hl h =>
    rename_i n kvs mks
    rcases h with ⟨h, ha⟩ | ⟨h, ha⟩
    · cases n with
      | zero => omega
      | succ n =>
        rw [flat_empty] at bl
        rw [rdPairs_succ, if_neg (show ¬ (s.drop e).head? = some 125 from hc), bl, Option.bind_some, hf, Option.bind_some] at h
        rcases hx with hx | hx
        · rw [hx, Bool.true_or, if_pos rfl] at h
          exact h.symm
        · by_cases q : (hasD x || !ltOpt (mks.map Prod.fst).getLast? ((s.drop (beh e (flat kvs))).take ((s.drop (beh e (flat kvs))).length - rest.length))) = true
          · rw [if_pos q] at h; exact h.symm
          · rw [if_neg q] at h
            have : blank false rest = none := by unfold blank; rw [if_neg Bool.false_ne_true, if_neg hx]
            rw [this] at h
            exact h.symm
    · exact h
  | odd hn hl hh h => rw [isKey_odd] at hk; cases hk
theorem DI.next {isd : Bool} {e e2 : Nat} {ds mk} {x : PyData} (d : DI fk fv R0 s isd e ds mk) (hc : (s.drop e).head? ≠ some (closeC isd)) (hb : ds.isEmpty = true ∨ (s.drop e).head? = some 32)
    (hf : (if isKey isd ds = true then fk else fv) (s.drop (beh e ds)) = some (x, s.drop e2)) (h12 : beh e ds < e2) (h2 : e2 ≤ s.length) (hx : isKey isd ds = true → hasD x = false ∧ (s.drop e2).head? = some 32) :
    DI fk fv R0 s isd e2 (ds ++ [x]) (mk ++ [(s.drop (beh e ds)).take (e2 - beh e ds)]) := by
  have bl := blank_at hb
  have he : e ≤ beh e ds := by unfold beh; split <;> omega
  cases d with
  | tup h hn =>
    rename_i n
    rw [isKey_tup, if_neg Bool.false_ne_true] at hf
    cases n with
    | zero => omega
    | succ n =>
      unfold rdItems at h
      rw [if_neg (show ¬ (s.drop e).head? = some 41 from hc), bl, Option.bind_some, hf, Option.bind_some] at h
      exact .tup h (by omega)
  | even hn hl h =>
    rename_i n kvs mks
    rw [isKey_even, if_pos rfl] at hf
    obtain ⟨hx1, hx2⟩ := hx isKey_even
    have ht : (s.drop (beh e (flat kvs))).take ((s.drop (beh e (flat kvs))).length - (s.drop e2).length) = (s.drop (beh e (flat kvs))).take (e2 - beh e (flat kvs)) := by
      rw [List.length_drop, List.length_drop]
      congr 1
      omega
    cases n with
    | zero => omega
    | succ n =>
      refine .odd (n := n) (by omega) hl hx2 ?_
      rcases h with ⟨h, ha⟩ | ⟨h, ha⟩
      · rw [flat_empty] at bl
        rw [rdPairs_succ, if_neg (show ¬ (s.drop e).head? = some 125 from hc), bl, Option.bind_some, hf, Option.bind_some] at h
        simp only [ht, hx1, Bool.false_or] at h
        by_cases q : ltOpt (mks.map Prod.fst).getLast? ((s.drop (beh e (flat kvs))).take (e2 - beh e (flat kvs))) = true
        · rw [q] at h
          refine .inl ⟨h, ascL_snoc.mpr ⟨ha, fun y hy => ?_⟩⟩
          rw [hy] at q
          exact of_decide_eq_true q
        · rw [Bool.eq_false_iff.mpr q] at h
          refine .inr ⟨h.symm, fun hh => q ?_⟩
          have := (ascL_snoc.mp hh).2
          cases hg : (mks.map Prod.fst).getLast? with
          | none => rfl
          | some y => exact decide_eq_true (this y hg)
      · exact .inr ⟨h, fun hh => ha (ascL_snoc.mp hh).1⟩
  | odd hn hl hh h =>
    rename_i n kvs mks k tk
    rw [isKey_odd, if_neg Bool.false_ne_true] at hf
    have be : (flat kvs ++ [k]).isEmpty = false := by cases flat kvs <;> rfl
    rw [be] at bl
    rw [← flat_snoc, ← flat_snoc]
    refine .even (n := n) (by omega) (by simp [hl]) ?_
    rw [List.map_append, List.map_singleton]
    rcases h with ⟨h, ha⟩ | ⟨h, ha⟩
    · rw [bl, Option.bind_some, hf, Option.bind_some] at h
      refine .inl ⟨?_, ha⟩
      rw [List.getLast?_append]
      exact h
    · exact .inr ⟨h, ha⟩
end
end K15
end

section
set_option Elab.async false
set_option linter.all false
set_option maxRecDepth 100000
set_option pp.maxSteps 900
namespace K15
open PySem PySem.Spec PyProof.Rows L2 TL

theorem evry_0 (x y : V) (r : List V) : evry 0 (x :: y :: r) = x :: evry 0 r := by
  unfold evry
  rw [show ((x :: y :: r).length - 0 + 1) / 2 = (r.length - 0 + 1) / 2 + 1 by simp only [List.length_cons]; omega, List.range_succ_eq_map, List.filterMap_cons]
  show x :: _ = _
  congr 1
  rw [List.filterMap_map]
  refine congrArg (fun f => List.filterMap f _) (funext fun k => ?_)
  show (x :: y :: r)[0 + 2 * (k + 1)]? = r[0 + 2 * k]?
  rw [show 0 + 2 * (k + 1) = 0 + 2 * k + 1 + 1 by omega]
  rfl
theorem evry_1 (x y : V) (r : List V) : evry 1 (x :: y :: r) = y :: evry 1 r := by
  unfold evry
  rw [show ((x :: y :: r).length - 1 + 1) / 2 = (r.length - 1 + 1) / 2 + 1 by simp only [List.length_cons]; omega, List.range_succ_eq_map, List.filterMap_cons]
  show y :: _ = _
  congr 1
  rw [List.filterMap_map]
  refine congrArg (fun f => List.filterMap f _) (funext fun k => ?_)
  show (x :: y :: r)[1 + 2 * (k + 1)]? = r[1 + 2 * k]?
  rw [show 1 + 2 * (k + 1) = 1 + 2 * k + 1 + 1 by omega]
  rfl
theorem evry_2 (x y : V) (r : List V) : evry 2 (x :: y :: r) = evry 0 r := by
  unfold evry
  rw [show ((x :: y :: r).length - 2 + 1) / 2 = (r.length - 0 + 1) / 2 by simp only [List.length_cons]; omega]
  refine congrArg (fun f => List.filterMap f _) (funext fun k => ?_)
  show (x :: y :: r)[2 + 2 * k]? = r[0 + 2 * k]?
  rw [show 2 + 2 * k = 0 + 2 * k + 1 + 1 by omega]
  rfl
theorem evry_flat0 : ∀ l : List (V × V), evry 0 (flat l) = l.map Prod.fst
  | [] => rfl
  | (a, b) :: r => by
    show evry 0 (a :: b :: flat r) = _
    rw [evry_0, evry_flat0 r]
    rfl
theorem evry_flat1 : ∀ l : List (V × V), evry 1 (flat l) = l.map Prod.snd
  | [] => rfl
  | (a, b) :: r => by
    show evry 1 (a :: b :: flat r) = _
    rw [evry_1, evry_flat1 r]
    rfl
theorem evry_flat2 : ∀ l : List (V × V), evry 2 (flat l) = (l.map Prod.fst).drop 1
  | [] => rfl
  | (a, b) :: r => by
    show evry 2 (a :: b :: flat r) = _
    rw [evry_2, evry_flat0 r]
    rfl
theorem flat_map {α β : Type} (g : α → β) : ∀ l : List (α × α), (flat l).map g = flat (l.map fun p => (g p.1, g p.2))
  | [] => rfl
  | (a, b) :: r => by
    show g a :: g b :: (flat r).map g = _
    rw [flat_map g r]
    rfl
/-- values of pairs -/
theorem Ats.pairs {w : World} {H : Hp} : ∀ {kvs : List (PyData × PyData)} {xs : List V}, Ats w H xs (flat kvs) → ∃ pl : List (V × V), xs = flat pl ∧ pl.length = kvs.length ∧ ∀ (i : Nat) (e : PyData × PyData), kvs[i]? = some e → ∃ p, pl[i]? = some p ∧ At w H p.1 e.1 ∧ At w H p.2 e.2
  | [], _, h => by
    cases h
    exact ⟨[], rfl, rfl, fun i e q => by simp at q⟩
  | (k, v) :: r, _, h => by
    cases h with
    | cons h1 h2 => cases h2 with
      | cons h3 h4 =>
        obtain ⟨pl, e1, e2, e3⟩ := Ats.pairs h4
        subst e1
        refine ⟨(_, _) :: pl, rfl, by simp [e2], fun i e q => ?_⟩
        cases i with
        | zero =>
          cases q
          exact ⟨_, rfl, h1, h3⟩
        | succ i => exact e3 i e (by simpa using q)
/-- the order of the keys, as the law looks at it -/
theorem ascL_zip {L : List Tx} : AscL L ↔ ∀ (i : Nat) (x y : Tx), L[i]? = some x → (L.drop 1)[i]? = some y → ¬ (y < x ∨ y = x) := by
  constructor
  · intro h i x y hx hy
    rw [List.getElem?_drop, show 1 + i = i + 1 by omega] at hy
    have := h i x y hx hy
    rintro (q | q)
    · exact tx_asymm this q
    · rw [q] at this; exact tx_irr _ this
  · intro h i x y hx hy
    have := h i x y hx (by rw [List.getElem?_drop, show 1 + i = i + 1 by omega]; exact hy)
    rcases tx_lt_or x y with q | q | q
    · exact q
    · exact absurd (.inr q.symm) this
    · exact absurd (.inl q) this
/-- what a reader eats -/
theorem got_drop {left m : Nat} {s : Tx} {b : Nat} {d : PyData} {rest : Tx} (hb : b ≤ s.length) (h : rd m left (s.drop b) = some (d, rest)) :
    ∃ e2, b < e2 ∧ e2 ≤ s.length ∧ rest = s.drop e2 ∧ s.length - rest.length = e2 ∧ rest.length ≤ s.length ∧ okD d = true ∧ plain left d = true ∧ wt d ≤ 3 * s.length ∧ (hasD d = false → (s.drop b).take (e2 - b) = txt d) := by
  obtain ⟨u, g⟩ := rd_got m left (s.drop b) d rest h
  have hl := congrArg List.length g.eq
  rw [List.length_drop, List.length_append] at hl
  have hu : 0 < u.length := List.length_pos_iff.mpr g.ne
  have er : rest = s.drop (b + u.length) := by
    rw [← List.drop_drop, g.eq, List.drop_left]
  refine ⟨b + u.length, by omega, by omega, er, by omega, by omega, g.ok, g.pl, by have := g.sz; omega, fun hn => ?_⟩
  rw [← g.tx hn, g.eq, show b + u.length - b = u.length by omega, List.take_left]
end K15
end

section
set_option Elab.async false
set_option linter.all false
set_option maxRecDepth 100000
set_option pp.maxSteps 900
namespace K15
open PySem PySem.Spec PyProof.Rows L2 TL

theorem str_beq (x y : Str) : (y == x) = decide (V.str x = V.str y) := by
  rw [Bool.eq_iff_iff, beq_iff_eq, decide_eq_true_iff]
  exact ⟨fun h => by rw [h], fun h => by cases h; rfl⟩
def closeS (isd : Bool) : Str := if isd = true then "}" else ")"
theorem close_if {σ : St} {H : Hp} {isd : Bool} {Q : VK} (h : Q (.str (closeS isd)) H) : if isd = true then tC (.str "}") σ H Q else tC (.str ")") σ H Q := by cases isd <;> exact h
theorem andV {ta tb : TE} {σ : St} {H : Hp} {Q : VK} {x b : Bool} (ha : ∀ R : VK, R (.bl x) H → ta σ H R) (hb : ∀ R : VK, R (.bl b) H → tb σ H R) (h : Q (.bl (x && b)) H) : tAndV ta tb σ H Q := by
  refine ha _ ⟨x, rfl, ?_⟩
  cases x with
  | true => exact hb _ h
  | false => exact h
theorem asg_and {ta tb : TE} {rest : TS} {D : Ends} {k : Nat} {σ : St} {H : Hp} {x b : Bool} (ha : ∀ R : VK, R (.bl x) H → ta σ H R) (hb : ∀ R : VK, R (.bl b) H → tb σ H R) (h : rest D (σ.set k (some (.bl (x && b)))) H) : tSeq (tAsg (tAndV ta tb) (gName k)) rest D σ H :=
  andV (Q := fun v H1 => gName k v σ H1 fun σ2 H2 => rest D σ2 H2) ha hb h
theorem seqSt {t u : TS} {D : Ends} {σ σ' : St} {H : Hp} (h : σ' = σ) (q : tSeq t u D σ' H) : tSeq t u D σ H := h ▸ q
theorem stripNx {X : TS} {D : Ends} {σ : St} {H : Hp} (h : X D σ H) : tSeq Ends.nx X D σ H := h
theorem tIfInt {t1 t2 : TE} {i : Nat} {σ : St} {H : Hp} {Q : VK} {k : Bool} {x y : Int} (hk : σ[i]? = some (some (.bl k))) (h1 : ∀ R : VK, R (.int x) H → t1 σ H R) (h2 : ∀ R : VK, R (.int y) H → t2 σ H R) (h : Q (.int (if k = true then x else y)) H) : tIf (tB (tVar i)) t1 t2 σ H Q := by
  refine ⟨_, hk, k, rfl, ?_⟩
  cases k with
  | true => exact h1 _ h
  | false => exact h2 _ h
theorem tAndK {t : TT} {i : Nat} {σ : St} {H : Hp} {Q : Bool → Hp → Prop} {k c : Bool} (hk : σ[i]? = some (some (.bl k))) (ht : ∀ R : Bool → Hp → Prop, (∀ H4, Same H H4 → R c H4) → t σ H R) (h : ∀ H4, Same H H4 → Q (k && c) H4) : tAnd (tB (tVar i)) t σ H Q := by
  refine ⟨_, hk, k, rfl, ?_⟩
  cases k with
  | true => exact ht _ h
  | false => exact h H fun _ _ q => q
theorem join_if {k : Bool} {T1 T2 : Prop} (G : Nat → Prop) {x y : Nat} (h1 : G x → T1) (h2 : G y → T2) (h : G (if k = true then x else y)) : if k = true then T1 else T2 := by
  cases k with
  | true => exact h1 h
  | false => exact h2 h
theorem dec_close (z : Str) (e : Nat) (isd : Bool) : decide (V.str (cutS z (some (e : Int)) (some ((e : Int) + 1))) = V.str (closeS isd)) = decide (((tl z).drop e).head? = some (closeC isd)) := by
  cases isd
  · exact dec_one z e 41 ")" (by decide +kernel)
  · exact dec_one z e 125 "}" (by decide +kernel)
abbrev sLRead : Stmt := topS 35
theorem scLRead : FnScope ["text", "at", "left", "is_dict", "parts", "marks", "turn", "is_key", "told", "one", "other"] ["text", "at", "left"] (defScope sLRead) := ⟨rfl, rfl, rfl, by decide +kernel, rfl, by decide +kernel, by decide +kernel⟩
def spLRead (w : World) (n : Nat) : Sp := fun vs H Q _ => ∃ (z : Str) (at_ left m : Nat), vs = [.str z, .int at_, .int left] ∧ left < n ∧ left ≤ 30 ∧ left ≤ m ∧ at_ ≤ z.length ∧ z.length < 2 ^ 22 ∧ ∀ H' v, Same H H' → ToldAt w H' z.length v (rd m left ((tl z).drop at_)) → Q v H'
section
variable {P : Program} {w : World} {K : PySem.W.Frag} {mg : Str → Option Value} {base : Heap} {f g h : Addr} {fd gd hd : FuncData}
theorem ok_lread1 {n : Nat} (D : Df K mg "_law_read" sLRead ["text", "at", "left"] f fd) (W : Df K mg "_law_word" sWord ["text", "at"] g gd) (Hs : Df K mg "_law_has_dict" sLHas ["value"] h hd) (B : Bn mg)
    (GW : FnOk P w K mg base CX0 1 g gd ["text", "at"] (spWord w)) (GH : FnOk P w K mg base CX0 40 h hd ["value"] (spHas w 40)) (G : FnOk P w K mg base CX0 (n + 41) f fd ["text", "at", "left"] (spLRead w n)) :
    FnOk P w K mg base CX0 (n + 42) f fd ["text", "at", "left"] (spLRead w (n + 1)) := by
  refine D.F.ok scLRead (fun vs H Q E h => ?_) (fun cdv A outer s H vs Q E hr h => ?_)
  · obtain ⟨z, a, left, m, rfl, _⟩ := h
    rfl
  obtain ⟨z, a, left, m, rfl, hl, h30, hm, ha, hz, q⟩ := h
  have nd := scLRead.nd
  refine ⟨_, pss_cons (ps_if (pt_cmpR op_notIn_seq (pe_slice sl_str (pv 0) (po_some (pv 1)) (po_some (pe_op op_add (pv 1) pe_int))) (pe_tup (pa_cons pe_str (pa_cons pe_str pa_nil))) (by rfl))
      (pss_one (ps_ret (pe_call GW (hr.mono (by omega)) (by rfl) W.m W.F.kp W.b .nil pass0 (pa_cons (pv 0) (pa_cons (pv 1) pa_nil))))) pss_nil)
    (pss_cons (ps_par3 (i := 3) (j := 4) (l := 5) (by rfl) nd rfl rfl rfl (by decide) (by decide) (by decide) rfl rfl rfl (pa_cons (pe_cmpR op_eq (pe_ix ix_str (pv 0) (pv 1) (fun _ _ => rfl)) pe_str (nomark _)) (pa_cons (pe_lst pa_nil) (pa_cons (pe_lst pa_nil) pa_nil))) (by rfl))
    (pss_cons (ps_if (pt_cmpR op_lt (pv 2) pe_int (nomark _)) (pss_one (ps_ret pe_non)) pss_nil)
    (pss_cons (ps_set (i := 1) nd rfl (.inl rfl) (pe_op op_add (pv 1) pe_int))
    (pss_cons (ps_for PassesOwn.never rfl (pi_range1 (by rfl) B.range (pa_cons (pe_callB call_len (by rfl) B.len bt_len (pa_cons (pv 0) pa_nil)) pa_nil)) (pg_name (i := 6) nd rfl (Or.inl rfl))
      (pss_cons (ps_if (pt_cmpR op_eq (pe_slice sl_str (pv 0) (po_some (pv 1)) (po_some (pe_op op_add (pv 1) pe_int))) (pe_ifExp (pt_val (pv 3)) pe_str pe_str) (nomark _)) (pss_one ps_break) pss_nil)
      (pss_cons (ps_if (pt_cmpR (op_ne_nil (by exact hr.units)) (pv 4) (pe_lst pa_nil) (nomark _))
        (pss_cons (ps_if (pt_cmpR op_ne (pe_slice sl_str (pv 0) (po_some (pv 1)) (po_some (pe_op op_add (pv 1) pe_int))) pe_str (nomark _)) (pss_one (ps_ret pe_non)) pss_nil)
        (pss_one (ps_set (i := 1) nd rfl (.inl rfl) (pe_op op_add (pv 1) pe_int)))) pss_nil)
      (pss_cons (ps_set (i := 7) nd rfl (.inl rfl) (pe_and (pv 3) (pe_one (pe_cmpR op_eq (pe_op op_mod (pe_callTy call_int1 (by rfl) B.int bt_int (pa_cons (pe_callB call_len_seq (by rfl) B.len bt_len (pa_cons (pv 4) pa_nil)) pa_nil)) pe_int) pe_int (nomark _)))))
      (pss_cons (ps_set (i := 8) nd rfl (.inl rfl) (pe_call G hr (by rfl) D.m D.F.kp D.b .nil pass0 (pa_cons (pv 0) (pa_cons (pv 1) (pa_cons (pe_ifExp (pt_val (pv 7)) (pe_callB (call_min2 (by rfl)) (by rfl) B.min bt_min (pa_cons pe_int (pa_cons (pe_op op_sub (pv 2) pe_int) pa_nil))) (pe_op op_sub (pv 2) pe_int)) pa_nil)))))
      (pss_cons (ps_if (pw_or (pt_cmpR op_isN (pv 8) pe_non (nomark _)) (pw_or1 (pw_and (pt_val (pv 7)) (pw_and1 (pt_val (pe_call GH (hr.mono (by omega)) (by rfl) Hs.m Hs.F.kp Hs.b .nil pass0 (pa_cons (pe_ix ix_tup (pe_ix ix_tup (pv 8) pe_int (fun _ _ => rfl)) pe_int (fun _ _ => rfl)) pa_nil))))).pt)).pt (pss_one (ps_ret pe_non)) pss_nil)
      (pss_cons (ps_expr (pe_bm PySem.F.plainAttrs_list PySem.F.slot_list_append PySem.F.type_list_append mt_append (pv 4) (pa_cons (pe_ix ix_tup (pe_ix ix_tup (pv 8) pe_int (fun _ _ => rfl)) pe_int (fun _ _ => rfl)) pa_nil)))
      (pss_cons (ps_expr (pe_bm PySem.F.plainAttrs_list PySem.F.slot_list_append PySem.F.type_list_append mt_append (pv 5) (pa_cons (pe_slice sl_str (pv 0) (po_some (pv 1)) (po_some (pe_ix ix_tup (pv 8) pe_int (fun _ _ => rfl)))) pa_nil)))
      (pss_cons (ps_set (i := 1) nd rfl (.inl rfl) (pe_ix ix_tup (pv 8) pe_int (fun _ _ => rfl)))
      (pss_one (ps_if (pw_and (pt_val (pv 7)) (pw_and1 (pt_cmpR op_ne (pe_slice sl_str (pv 0) (po_some (pv 1)) (po_some (pe_op op_add (pv 1) pe_int))) pe_str (nomark _)))).pt (pss_one (ps_ret pe_non)) pss_nil)))))))))))
    (pss_cons (ps_if (pt_cmpR op_ne (pe_slice sl_str (pv 0) (po_some (pv 1)) (po_some (pe_op op_add (pv 1) pe_int))) (pe_ifExp (pt_val (pv 3)) pe_str pe_str) (nomark _)) (pss_one (ps_ret pe_non)) pss_nil)
    (pss_cons (ps_if (pt_not (pt_val (pv 3))) (pss_one (ps_ret (pe_tup (pa_cons (pe_tup (pa_cons (pe_callTy call_tuple_of (by rfl) B.tuple bt_tuple (pa_cons (pv 4) pa_nil)) pa_nil)) (pa_cons (pe_op op_add (pv 1) pe_int) pa_nil))))) pss_nil)
    (pss_cons (ps_if (pw_or (pt_cmpR op_eq (pe_op op_mod (pe_callTy call_int1 (by rfl) B.int bt_int (pa_cons (pe_callB call_len_seq (by rfl) B.len bt_len (pa_cons (pv 4) pa_nil)) pa_nil)) pe_int) pe_int (nomark _))
        (pw_or1 (pt_cmpR (op_ne_nil (by exact hr.units)) (pe_lc (own := [("one", 9), ("other", 10)]) (g := gTup K 2 (gCons (gName 9) (gCons (gName 10) gNil))) (tt := tTest (tOp (fun x y H Q => ∃ i j, x = .str i ∧ y = .str j ∧ Q (.bl (!decide (i.cps.toList < j.cps.toList))) H) (tVar 9) (tVar 10))) rfl nd (pi_zip (by rfl) B.zip (pa_cons (pe_sl2 (pv 5) po_none) (pa_cons (pe_sl2 (pv 5) (po_some pe_int)) pa_nil)))
          (blkOk_by (N := ["text", "at", "left", "is_dict", "parts", "marks", "turn", "is_key", "told", "one", "other"]) (sc := defScope sLRead) (by decide +kernel))
          (fun _ _ _ _ _ => pg_tup (by rfl) (pgs_cons (pg_name (i := 9) nd rfl (Or.inl rfl)) (pgs_cons (pg_name (i := 10) nd rfl (Or.inl rfl)) pgs_nil))) (fun _ _ _ _ _ => pts_one (pt_cmpR op_ge_str (pv 9) (pv 10) (nomark _))) (fun _ _ _ _ _ => pe_int)) (pe_lst pa_nil) (nomark _)))).pt (pss_one (ps_ret pe_non)) pss_nil)
    (pss_one (ps_ret (pe_tup (pa_cons (pe_tup (pa_cons (pe_dictZ (by exact hr.units) (by rfl) (by rfl) B.zip (by rfl) B.dict (pa_cons (pe_sl2 (pv 4) po_none) (pa_cons (pe_sl2 (pv 4) (po_some pe_int)) pa_nil))) pa_nil)) (pa_cons (pe_op op_add (pv 1) pe_int) pa_nil)))))))))))), ?_⟩
  have hlz := TL.len_tl z
  have hzs : z.length ≤ sizeLine := by rw [sizeLine_eq]; omega
  have e40 : decide (V.str (cutS z (some (a : Int)) (some ((a : Int) + 1))) = V.str "(") = decide (((tl z).drop a).head? = some 40) := dec_one z a 40 "(" (by decide +kernel)
  have e123 : decide (V.str (cutS z (some (a : Int)) (some ((a : Int) + 1))) = V.str "{") = decide (((tl z).drop a).head? = some 123) := dec_one z a 123 "{" (by decide +kernel)
  refine ⟨_, rfl, _, rfl, _, rfl, _, rfl, _, _, rfl, rfl, _, rfl, z, rfl, hzs, (by show 2 ≤ sizeLine; decide), fun p0 hp0 => ?_⟩
  refine ⟨p0, _, rfl, .inr (SqT.of upd_same), rfl, rfl, _, rfl, ?_⟩
  have q1 : ∀ H' v, Same (upd H p0 (.tup [.str "(", .str "{"])) H' → ToldAt w H' z.length v (rd m left ((tl z).drop a)) → Q v H' := fun H' v s t => q H' v (Same.trans (Same.new hp0) s) t
  clear q
  generalize hH0 : upd H p0 (.tup [.str "(", .str "{"]) = H0 at q1
  have hin : inV (V.str (cutS z (some (a : Int)) (some ((a : Int) + 1)))) [.str "(", .str "{"] = (decide (((tl z).drop a).head? = some 40) || decide (((tl z).drop a).head? = some 123)) := by
    rw [← e40, ← e123, ← str_beq, ← str_beq]
    show ((Str.ofString "(" == _) || ((Str.ofString "{" == _) || false)) = _
    rw [Bool.or_false]
  refine ite2 (fun c => ?_) (fun c => ?_)
  · have c' : (decide (((tl z).drop a).head? = some 40) || decide (((tl z).drop a).head? = some 123)) = false := by
      rw [← hin]
      cases h : inV (V.str (cutS z (some (a : Int)) (some ((a : Int) + 1)))) [.str "(", .str "{"] with
      | false => rfl
      | true => rw [h] at c; cases c
    rw [Bool.or_eq_false_iff] at c'
    have er := rd_word (m := m) (left := left) (t := (tl z).drop a) (of_decide_eq_false c'.1) (of_decide_eq_false c'.2)
    rw [er] at q1
    exact ⟨_, rfl, _, rfl, z, a, rfl, ha, hz, fun H' v s t => q1 H' v s t⟩
  have c' : (decide (((tl z).drop a).head? = some 40) || decide (((tl z).drop a).head? = some 123)) = true := by
    rw [← hin]
    cases h : inV (V.str (cutS z (some (a : Int)) (some ((a : Int) + 1)))) [.str "(", .str "{"] with
    | true => rfl
    | false => rw [h] at c; exact absurd rfl c
  obtain ⟨c0, hc0, hc1⟩ : ∃ c0, (tl z)[a]? = some c0 ∧ (c0 = 40 ∨ c0 = 123) := by
    rw [Bool.or_eq_true, decide_eq_true_iff, decide_eq_true_iff, List.head?_drop] at c'
    rcases c' with h | h
    · exact ⟨40, h, .inl rfl⟩
    · exact ⟨123, h, .inr rfl⟩
  have hal : a < z.length := by rw [hlz]; exact (List.getElem?_eq_some_iff.mp hc0).1
  have hdr : (tl z).drop a = c0 :: (tl z).drop (a + 1) := by
    rw [List.drop_eq_getElem_cons (by omega)]
    have := (List.getElem?_eq_some_iff.mp hc0).2
    rw [this]
  obtain ⟨isd, hisd⟩ : ∃ b : Bool, decide (V.str ⟨#[c0]⟩ = V.str "{") = b := ⟨_, rfl⟩
  have hid : c0 = (if isd = true then 123 else 40) := by
    rw [← hisd, dec_tl]
    rcases hc1 with rfl | rfl <;> rfl
  refine ⟨_, rfl, _, rfl, z, a, c0, rfl, rfl, hzs, atI_nat hc0, rfl, (by show 0 ≤ sizeLine; decide), fun lp hlp => ⟨(by show 0 ≤ sizeLine; decide), fun lm hlm => ⟨_, _, _, rfl, ?_⟩⟩⟩
  have hpm : lp ≠ lm := fun q => by rw [← q, upd_same] at hlm; cases hlm
  have hlm0 : H0 lm = none := by rw [upd_ne (Ne.symm hpm)] at hlm; exact hlm
  have sN : Same H0 (upd (upd H0 lp (.lst [])) lm (.lst [])) := Same.trans (Same.new hlp) (Same.new hlm)
  refine ⟨_, rfl, _, _, rfl, rfl, _, rfl, ?_⟩
  refine ite2 (fun c3 => ?_) (fun c3 => ?_)
  · have h0 : left = 0 := by have : (left : Int) < 1 := of_decide_eq_true c3; omega
    subst h0
    have er : rd m 0 ((tl z).drop a) = none := by
      rw [hdr]
      rcases hc1 with rfl | rfl
      · exact rd_par0 m _
      · exact rd_cur0 m _
    rw [er] at q1
    exact q1 _ _ sN rfl
  have h1l : 1 ≤ left := by have : ¬ (left : Int) < 1 := of_decide_eq_false (Bool.eq_false_iff.mpr c3); omega
  obtain ⟨l', rfl⟩ : ∃ l', left = l' + 1 := ⟨left - 1, by omega⟩
  obtain ⟨m', rfl⟩ : ∃ m', m = m' + 1 := ⟨m - 1, by omega⟩
  obtain ⟨R0, hR0⟩ : ∃ R0, rd (m' + 1) (l' + 1) ((tl z).drop a) = R0 := ⟨_, rfl⟩
  rw [hR0] at q1
  have start : DI (rd m' (min l' 6)) (rd m' l') R0 (tl z) isd (a + 1) [] [] := by
    rw [← hR0, hdr, hid]
    cases isd with
    | true =>
      rw [if_pos rfl, rd_cur]
      exact DI.start_dict rfl (by rw [List.length_drop]; omega)
    | false =>
      rw [if_neg Bool.false_ne_true, rd_par]
      exact DI.start_tup rfl (by rw [List.length_drop]; omega)
  refine ⟨_, rfl, _, _, rfl, rfl, ?_⟩
  refine ⟨_, rfl, _, _, rfl, ⟨hzs, rfl⟩, _, rfl, by omega, by omega, ?_⟩
  refine for_range (lo := 0) (n := z.length) (fun i σ H' => ∃ (e : Nat) (P : List V) (ds : List PyData) (mk : List Tx) (o6 o7 o8 : Option V), σ = [some (.str z), some (.int e), some (.int ((l' + 1 : Nat) : Int)), some (.bl isd), some (.ref lp), some (.ref lm), o6, o7, o8, none, none] ∧
      DI (rd m' (min l' 6)) (rd m' l') R0 (tl z) isd e ds mk ∧ Ats w H' P ds ∧ H' lp = some (.lst P) ∧ H' lm = some (.lst (mk.map fun t => V.str ⟨t.toArray⟩)) ∧ mk.length = ds.length ∧ e ≤ z.length ∧ a + 1 + i ≤ e ∧ ds.length ≤ e ∧ Same H0 H')
    ⟨a + 1, [], [], [], none, none, none, by rw [← hisd]; rfl, start, .nil, by rw [upd_ne hpm, upd_same], upd_same, rfl, hal, Nat.le_refl _, Nat.zero_le _, sN⟩ (fun i σ H' hi hp => ?_) (fun σ H' hp => ?_)
  · obtain ⟨e, P, ds, mk, o6, o7, o8, rfl, hD, hA, hP, hM, hml, hel, hie, hde, hS⟩ := hp
    refine ⟨_, rfl, _, rfl, _, rfl, _, rfl, _, _, rfl, rfl, _, rfl, z, rfl, hzs, _, rfl, isd, rfl, ?_⟩
    refine close_if ⟨rfl, _, rfl, ?_⟩
    have eC := dec_close z e isd
    refine ite2 (fun c4 => ?_) (fun c4 => ?_)
    · have hcl : ((tl z).drop e).head? = some (closeC isd) := of_decide_eq_true (by rw [← eC]; exact c4)
      have he1 : e + 1 ≤ z.length := by
        rw [List.head?_drop] at hcl
        have := (List.getElem?_eq_some_iff.mp hcl).1
        omega
      refine ⟨_, rfl, _, rfl, _, rfl, _, rfl, _, _, rfl, rfl, _, rfl, z, rfl, hzs, _, rfl, isd, rfl, ?_⟩
      refine close_if ⟨rfl, _, rfl, ?_⟩
      refine ite2 (fun c5 => ?_) (fun _ => ?_)
      · rw [c4] at c5; cases c5
      cases isd with
      | false =>
        have hR := hD.fin_tup hcl
        rw [hR] at q1
        refine ⟨_, rfl, false, rfl, ?_⟩
        refine ite_tt' ?_
        refine ⟨_, rfl, lp, P, rfl, .inl ⟨SqL.of hP, fun tp htp => ⟨(by show 1 ≤ sizeLine; decide), fun u hu => ⟨_, rfl, _, _, rfl, rfl, (by show 2 ≤ sizeLine; decide), fun t ht => ?_⟩⟩⟩⟩
        refine told_ret (H := upd H' tp (.tup P)) (d := .tuple ds) (rest := (tl z).drop (e + 1)) (.tup upd_same (hA.keep (Keep.new htp))) ?_ ?_ (fun H3 v s3 t3 => q1 H3 v (Same.trans (Same.trans hS (Same.new htp)) s3) t3) hu ht
        · rw [List.length_drop, ← hlz]; omega
        · rw [List.length_drop, ← hlz]; omega
      | true =>
        refine ⟨_, rfl, true, rfl, ?_⟩
        refine ite_ff' ?_
        obtain ⟨kvs, mks, rfl, rfl, hkm, hfin⟩ := hD.fin_dict hcl
        obtain ⟨pl, rfl, hpl, hpr⟩ := hA.pairs
        have hfl : (flat pl).length = 2 * pl.length := flat_len pl
        rw [flat_map] at hM
        refine ⟨_, rfl, lp, flat pl, rfl, .inl (SqL.of hP), .inl ⟨_, rfl, _, _, rfl, rfl, (by show (0 : Int) < 2; decide), rfl, _, rfl, ?_⟩⟩
        refine ite2 (fun c6 => ?_) (fun _ => ?_)
        · have : V.int (((flat pl).length : Int) % 2) = V.int 1 := of_decide_eq_true c6
          have : ((flat pl).length : Int) % 2 = 1 := by injection this
          omega
        generalize hml2 : (mks.map fun p => (V.str ⟨p.1.toArray⟩, V.str ⟨p.2.toArray⟩)) = ml at hM
        refine ⟨_, rfl, lm, flat ml, 0, rfl, SqL.of hM, .inl ⟨rfl, rfl⟩, fun pa hpa => ?_⟩
        rw [evry_flat0]
        refine ⟨_, rfl, _, rfl, lm, flat ml, 2, rfl, SqL.of (by rw [upd_ne (ne_of_none hM hpa)]; exact hM), .inr rfl, fun pb hpb => ?_⟩
        rw [evry_flat2]
        have hpab : pa ≠ pb := fun q => by rw [← q, upd_same] at hpb; cases hpb
        refine ⟨pa, pb, _, _, rfl, SqL.of (by rw [upd_ne hpab, upd_same]), SqL.of upd_same, fun Dd hDd => ?_⟩
        have hmf : ml.map Prod.fst = (mks.map Prod.fst).map fun t => V.str ⟨t.toArray⟩ := by rw [← hml2, List.map_map, List.map_map]; rfl
        refine lc_it (walk_zip (xs := ml.map Prod.fst) (ys := (ml.map Prod.fst).drop 1) rfl) (fun i H2 => ∃ ys : List V, H2 Dd = some (.lst ys) ∧ ys.length ≤ i ∧ (ys = [] ↔ ∀ j < i, ∀ x y, (mks.map Prod.fst)[j]? = some x → ((mks.map Prod.fst).drop 1)[j]? = some y → ¬ (y < x ∨ y = x)) ∧ Same H0 H2 ∧ (H2 pa = some (.lst (ml.map Prod.fst)) ∧ H2 pb = some (.lst ((ml.map Prod.fst).drop 1))) ∧ H2 lp = some (.lst (flat pl)) ∧ Keep H' H2) ?_ (fun i H2 _ hp => by obtain ⟨ys, _, _, _, _, ⟨h5, h6⟩, _⟩ := hp; exact ⟨SqL.of h5, SqL.of h6⟩) (fun i y H2 H3 hi hp hy => ?_) (fun H2 hp => ?_)
        · have hDa : Dd ≠ pa := fun q => by rw [q, upd_ne hpab, upd_same] at hDd; cases hDd
          have hDb : Dd ≠ pb := fun q => by rw [q, upd_same] at hDd; cases hDd
          have n2 : upd H' pa (.lst (ml.map Prod.fst)) Dd = none := by rw [upd_ne hDb] at hDd; exact hDd
          have n3 : H' Dd = none := by rw [upd_ne hDa] at n2; exact n2
          have sH : Same H' (upd (upd (upd H' pa (.lst (ml.map Prod.fst))) pb (.lst ((ml.map Prod.fst).drop 1))) Dd (.lst [])) := Same.trans (Same.trans (Same.new hpa) (Same.new hpb)) (Same.new hDd)
          refine ⟨[], upd_same, Nat.le_refl _, ⟨fun _ j hj => absurd hj (Nat.not_lt_zero j), fun _ => rfl⟩, Same.trans hS sH, ⟨by rw [upd_ne (Ne.symm hDa), upd_ne hpab, upd_same], by rw [upd_ne (Ne.symm hDb), upd_same]⟩, sH _ _ hP, Same.keep sH⟩
        · obtain ⟨ys, h1, h2, h3, h4, ⟨h5, h6⟩, h7, h8⟩ := hp
          obtain ⟨T, x, y2, rfl, hT, rfl, hx, hy2⟩ := hy
          replace hx : (ml.map Prod.fst)[i]? = some x := hx
          replace hy2 : ((ml.map Prod.fst).drop 1)[i]? = some y2 := hy2
          rw [hmf] at hx hy2
          rw [← List.map_drop] at hy2
          rw [List.getElem?_map] at hx hy2
          obtain ⟨tx, htx, rfl⟩ := Option.map_eq_some_iff.mp hx
          obtain ⟨ty, hty, rfl⟩ := Option.map_eq_some_iff.mp hy2
          have hil : i < mks.length := by
            have := (List.getElem?_eq_some_iff.mp htx).1
            rwa [List.length_map] at this
          have hkz : 2 * kvs.length ≤ z.length := by
            have := hde
            rw [flat_len] at this
            omega
          have sT : Same H2 (upd H2 T (.tup [.str ⟨tx.toArray⟩, .str ⟨ty.toArray⟩])) := Same.new hT
          have k1 := sT _ _ h1
          refine ⟨T, _, rfl, SqT.of upd_same, rfl, _, _, rfl, _, _, rfl, rfl, rfl, ?_⟩
          refine ⟨_, rfl, _, rfl, _, _, rfl, rfl, _, rfl, ?_⟩
          have step : ∀ ys2 : List V, (ys2 = [] ↔ ys = [] ∧ tx < ty) → (ys2 = [] ↔ ∀ j < i + 1, ∀ x y, (mks.map Prod.fst)[j]? = some x → ((mks.map Prod.fst).drop 1)[j]? = some y → ¬ (y < x ∨ y = x)) := fun ys2 hys => by
            rw [hys, h3]
            constructor
            · rintro ⟨g1, g2⟩ j hj x' y' hx' hy'
              by_cases hji : j < i
              · exact g1 j hji x' y' hx' hy'
              · have ej : j = i := by omega
                rw [ej, htx] at hx'
                rw [ej, hty] at hy'
                have ex := Option.some.inj hx'
                have ey := Option.some.inj hy'
                rw [← ex, ← ey]
                rintro (q | q)
                · exact tx_asymm g2 q
                · rw [q] at g2; exact tx_irr _ g2
            · intro g
              refine ⟨fun j hj => g j (by omega), ?_⟩
              have := g i (by omega) tx ty htx hty
              rcases tx_lt_or tx ty with q | q | q
              · exact q
              · exact absurd (.inr q.symm) this
              · exact absurd (.inl q) this
          by_cases hlt : tx < ty
          · have e1 : (!decide ((⟨tx.toArray⟩ : Str).cps.toList < (⟨ty.toArray⟩ : Str).cps.toList)) = false := by
              show (!decide (tx < ty)) = false
              rw [decide_eq_true hlt]; rfl
            rw [e1]
            refine ite_ff' ⟨ys, k1, by omega, step ys ⟨fun q => ⟨q, hlt⟩, fun q => q.1⟩, Same.trans h4 sT, ⟨sT _ _ h5, sT _ _ h6⟩, sT _ _ h7, h8.trans (Same.keep sT)⟩
          · have e1 : (!decide ((⟨tx.toArray⟩ : Str).cps.toList < (⟨ty.toArray⟩ : Str).cps.toList)) = true := by
              show (!decide (tx < ty)) = true
              rw [decide_eq_false hlt]; rfl
            rw [e1]
            refine ite_tt' ?_
            have n0 : H0 Dd = none := by
              cases hh : H0 Dd with
              | none => rfl
              | some o =>
                have sab : Same H0 (upd (upd H' pa (.lst (ml.map Prod.fst))) pb (.lst ((ml.map Prod.fst).drop 1))) := Same.trans (Same.trans hS (Same.new hpa)) (Same.new hpb)
                have := sab _ _ hh
                rw [hDd] at this; cases this
            have hDa : Dd ≠ pa := fun q => by rw [q, upd_ne hpab, upd_same] at hDd; cases hDd
            have hDb : Dd ≠ pb := fun q => by rw [q, upd_same] at hDd; cases hDd
            have sab : Same H' (upd (upd H' pa (.lst (ml.map Prod.fst))) pb (.lst ((ml.map Prod.fst).drop 1))) := Same.trans (Same.new hpa) (Same.new hpb)
            have hDp : Dd ≠ lp := fun q => by rw [q, sab _ _ hP] at hDd; cases hDd
            refine ⟨ys, k1, by rw [sizeLine_eq]; omega, ys ++ [.int 1], upd_same, by simp; omega, step _ ⟨fun q => by simp at q, fun q => absurd q.2 hlt⟩, same_upd n0 (Same.trans h4 sT), ⟨by rw [upd_ne (Ne.symm hDa)]; exact sT _ _ h5, by rw [upd_ne (Ne.symm hDb)]; exact sT _ _ h6⟩, by rw [upd_ne (Ne.symm hDp)]; exact sT _ _ h7, (h8.trans (Same.keep sT)).trans (Keep.mut (by rw [k1]; trivial))⟩
        · obtain ⟨ys, h1, h2, h3, h4, ⟨h5, h6⟩, h7, h8⟩ := hp
          have hmll : ml.length = mks.length := by rw [← hml2, List.length_map]
          have hasc : ys = [] ↔ AscL (mks.map Prod.fst) := by
            rw [h3, ascL_zip]
            refine ⟨fun q j x y hx hy => q j ?_ x y hx hy, fun q j _ x y hx hy => q j x y hx hy⟩
            have g1 := (List.getElem?_eq_some_iff.mp hx).1
            have g2 := (List.getElem?_eq_some_iff.mp hy).1
            rw [List.length_drop] at g2
            rw [List.length_map] at g1 g2
            rw [List.length_drop, List.length_map]
            omega
          refine ⟨(by show 0 ≤ sizeLine; decide), fun l0 hl0 => ⟨Dd, l0, ys, rfl, rfl, SqL.of (by rw [upd_ne (ne_of_none h1 hl0)]; exact h1), SqL.of upd_same, _, rfl, ?_⟩⟩
          refine ite2 (fun c7 => ?_) (fun c7 => ?_)
          · have hn : ¬ AscL (mks.map Prod.fst) := fun q => by
              have c7 : (!ys.isEmpty) = true := c7
              rw [hasc.mpr q] at c7
              cases c7
            rcases hfin with ⟨q, _⟩ | ⟨_, q⟩
            · exact absurd q hn
            · exact q1 _ _ (Same.trans h4 (Same.new hl0)) (by rw [q]; exact rfl)
          have hys : ys = [] := by
            cases ys with
            | nil => rfl
            | cons y r => exact absurd rfl c7
          have hR : R0 = some (.dict kvs, (tl z).drop (e + 1)) := by
            rcases hfin with ⟨_, q⟩ | ⟨q, _⟩
            · exact q
            · exact absurd (hasc.mp hys) q
          rw [hR] at q1 hR0
          obtain ⟨e2, g1, g2, g3, g4, g5, g6, g7, g8, g9⟩ := got_drop (by rw [← hlz]; exact ha) hR0
          have h7' : upd H2 l0 (.lst []) lp = some (.lst (flat pl)) := Same.new hl0 _ _ h7
          have h4' : Same H0 (upd H2 l0 (.lst [])) := Same.trans h4 (Same.new hl0)
          have h8' : Keep H' (upd H2 l0 (.lst [])) := h8.trans (Same.keep (Same.new hl0))
          generalize upd H2 l0 (.lst []) = H5 at h7' h4' h8'
          refine ⟨_, rfl, lp, flat pl, 0, rfl, SqL.of h7', .inl ⟨rfl, rfl⟩, fun pc hpc => ?_⟩
          rw [evry_flat0]
          refine ⟨_, rfl, _, rfl, lp, flat pl, 1, rfl, SqL.of (Same.new hpc _ _ h7'), .inr rfl, fun pd hpd => ?_⟩
          rw [evry_flat1]
          have s56 : Same H5 (upd (upd H5 pc (.lst (pl.map Prod.fst))) pd (.lst (pl.map Prod.snd))) := Same.trans (Same.new hpc) (Same.new hpd)
          refine ⟨pc, pd, pl.map Prod.fst, pl.map Prod.snd, kvs, rfl, SqL.of (Same.new hpd _ _ upd_same), SqL.of upd_same, keysOk_of g6 (by simpa only [k8] using k8_plain _ _ g7), by rw [List.length_map, hpl], by rw [List.length_map, hpl], fun i en hen => ?_, fun p o u es hp hsys ho ak => ?_⟩
          · obtain ⟨p, hp1, hp2, hp3⟩ := hpr i en hen
            have ke := h8'.trans (Same.keep s56)
            exact ⟨p.1, p.2, by rw [List.getElem?_map, hp1]; rfl, by rw [List.getElem?_map, hp1]; rfl, hp2.keep ke, hp3.keep ke⟩
          · refine ⟨(by show 1 ≤ sizeLine; decide), fun u hu => ⟨_, rfl, _, _, rfl, rfl, (by show 2 ≤ sizeLine; decide), fun t ht => ?_⟩⟩
            refine told_ret (d := .dict kvs) (rest := (tl z).drop (e + 1)) (.dic upd_same ho hsys (ak.keep (Keep.new hp))) ?_ ?_ (fun H3 v s3 t3 => q1 H3 v (Same.trans (Same.trans (Same.trans h4' s56) (Same.new hp)) s3) t3) hu ht
            · rw [List.length_drop, ← hlz]; omega
            · rw [List.length_drop, ← hlz]; omega
    have hcl : ¬ ((tl z).drop e).head? = some (closeC isd) := of_decide_eq_false (by rw [← eC]; exact Bool.eq_false_iff.mpr c4)
    have hlen := hA.length
    have hpe : P.isEmpty = ds.isEmpty := by
      cases P <;> cases ds <;> first | rfl | (simp at hlen)
    refine ⟨_, rfl, (by show 0 ≤ sizeLine; decide), fun l0 hl0 => ⟨lp, l0, P, rfl, rfl, SqL.of (by rw [upd_ne (ne_of_none hP hl0)]; exact hP), SqL.of upd_same, _, rfl, ?_⟩⟩
    have hP2 : upd H' l0 (.lst []) lp = some (.lst P) := by rw [upd_ne (ne_of_none hP hl0)]; exact hP
    have hM2 : upd H' l0 (.lst []) lm = some (.lst (mk.map fun t => V.str ⟨t.toArray⟩)) := by rw [upd_ne (ne_of_none hM hl0)]; exact hM
    have hS2 : Same H0 (upd H' l0 (.lst [])) := Same.trans hS (Same.new hl0)
    have hA2 : Ats w (upd H' l0 (.lst [])) P ds := hA.keep (Keep.new hl0)
    generalize upd H' l0 (.lst []) = H2 at hP2 hM2 hS2 hA2
    have none_ : R0 = none → ∀ H3, Same H0 H3 → Q .non H3 := fun q H3 s3 => q1 H3 _ s3 (by rw [q]; exact rfl)
    have e32 : decide (V.str (cutS z (some (e : Int)) (some ((e : Int) + 1))) = V.str " ") = decide (((tl z).drop e).head? = some 32) := dec_one z e 32 " " (by decide +kernel)
    refine ite2 (fun c5 => ?_) (fun c5 => ?_)
    · have hne : ds.isEmpty = false := by
        rw [← hpe]
        cases h : P.isEmpty with
        | false => rfl
        | true =>
          have c5 : (!P.isEmpty) = true := c5
          rw [h] at c5; cases c5
      refine ⟨_, rfl, _, rfl, _, rfl, _, rfl, _, _, rfl, rfl, _, rfl, z, rfl, hzs, rfl, _, rfl, ?_⟩
      refine ite2 (fun c6 => ?_) (fun c6 => ?_)
      · refine none_ (hD.noBlank hcl hne fun q => ?_) _ hS2
        have q2 := e32.trans (decide_eq_true q)
        rw [q2] at c6
        cases c6
      have h32 : ((tl z).drop e).head? = some 32 := by
        refine of_decide_eq_true ?_
        rw [← e32]
        cases h : decide (V.str (cutS z (some (e : Int)) (some ((e : Int) + 1))) = V.str " ") with
        | true => rfl
        | false => rw [h] at c6; exact absurd rfl c6
      have hbl : ds.isEmpty = true ∨ ((tl z).drop e).head? = some 32 := .inr h32
      have hbe : beh e ds = e + 1 := by unfold beh; rw [hne]; rfl
      refine ⟨_, rfl, _, _, rfl, rfl, ?_⟩
      refine seqSt (t := Ends.nx) (σ' := [some (.str z), some (.int (beh e ds : Nat)), some (.int ((l' + 1 : Nat) : Int)), some (.bl isd), some (.ref lp), some (.ref lm), some (.int (0 + (i : Int))), o7, o8, none, none]) (by rw [hbe]; try rfl) (stripNx ?_)
      -- the turn, behind the blank
      have hbt : beh e ds ≤ z.length := by
        unfold beh
        split
        · exact hel
        · rename_i hh
          rcases hbl with q | q
          · exact absurd q hh
          · rw [List.head?_drop] at q
            have := (List.getElem?_eq_some_iff.mp q).1
            omega
      refine asg_and (x := isd) (b := decide (V.int ((P.length : Int) % 2) = V.int 0)) (fun R q => ⟨_, rfl, q⟩) (fun R q => ⟨_, rfl, lp, P, rfl, .inl (SqL.of hP2), .inl ⟨_, rfl, _, _, rfl, rfl, (by show (0 : Int) < 2; decide), rfl, q⟩⟩) ?_
      have hk : (isd && decide (V.int ((P.length : Int) % 2) = V.int 0)) = isKey isd ds := by
        unfold isKey
        rw [hA.length]
        congr 1
        refine decide_eq_decide.mpr ⟨fun q => ?_, fun q => ?_⟩
        · have : ((ds.length : Nat) : Int) % 2 = 0 := by injection q
          omega
        · congr 1
          omega
      rw [hk]
      obtain ⟨k, hkk⟩ : ∃ k, isKey isd ds = k := ⟨_, rfl⟩
      rw [hkk]
      refine ⟨_, rfl, _, rfl, tIfInt (k := k) rfl (fun R q => ⟨_, rfl, _, _, rfl, rfl, _, _, rfl, q⟩) (fun R q => ⟨_, rfl, _, _, rfl, rfl, q⟩) ?_⟩
      have e6 : (if ((l' + 1 : Nat) : Int) - 1 < 6 then ((l' + 1 : Nat) : Int) - 1 else 6) = ((min l' 6 : Nat) : Int) := by split <;> omega
      have ek : (if k = true then (if ((l' + 1 : Nat) : Int) - 1 < 6 then ((l' + 1 : Nat) : Int) - 1 else 6) else ((l' + 1 : Nat) : Int) - 1) = ((if k = true then min l' 6 else l' : Nat) : Int) := by
        cases k with
        | true => exact e6
        | false => show ((l' + 1 : Nat) : Int) - 1 = (l' : Int); omega
      have hkl : (if k = true then min l' 6 else l') ≤ l' := by split <;> omega
      refine ⟨z, beh e ds, (if k = true then min l' 6 else l'), m', congrArg (fun x => [V.str z, V.int (beh e ds : Nat), V.int x]) ek, by omega, by omega, by omega, hbt, hz, fun H3 v s3 tv => ?_⟩
      have hff : (if isKey isd ds = true then rd m' (min l' 6) else rd m' l') ((tl z).drop (beh e ds)) = rd m' (if k = true then min l' 6 else l') ((tl z).drop (beh e ds)) := by rw [hkk]; cases k <;> rfl
      cases hr0 : rd m' (if k = true then min l' 6 else l') ((tl z).drop (beh e ds)) with
      | none =>
        rw [hr0] at tv hff
        cases (show v = .non from tv)
        refine ⟨_, rfl, rfl, _, rfl, ?_⟩
        exact ite_tt' (none_ (hD.noRead hcl hbl hff) _ (Same.trans hS2 s3))
      | some dr =>
      obtain ⟨d, rest⟩ := dr
      rw [hr0] at tv hff
      obtain ⟨t, u, x, rfl, ht, hu, ax, hrl⟩ := tv
      obtain ⟨e2, g1, g2, g3, g4, g5, g6, g7, g8, g9⟩ := got_drop (by rw [← hlz]; exact hbt) hr0
      rw [hlz, g4] at ht
      refine ⟨_, rfl, rfl, _, rfl, ?_⟩
      refine ite_ff' ?_
      refine tAndK (k := k) (c := hasD d) rfl (fun R q => ⟨_, rfl, t, _, 0, .ref u, rfl, rfl, SqT.of ht, rfl, u, _, 0, x, rfl, rfl, SqT.of hu, rfl, x, d, rfl, ?_, ax, ?_, fun H4 s4 => ⟨_, rfl, q H4 s4⟩⟩) (fun H4 s4 => ?_)
      · have := depth_of_plain d _ g7
        omega
      · have : big = 2 ^ 24 := rfl
        omega
      have hff2 : (if isKey isd ds = true then rd m' (min l' 6) else rd m' l') ((tl z).drop (beh e ds)) = some (d, (tl z).drop e2) := by rw [hff, g3]
      have s24 : Same H2 H4 := Same.trans s3 s4
      have hS4 : Same H0 H4 := Same.trans hS2 s24
      refine ite2 (fun c7 => ?_) (fun c7 => ?_)
      · rw [Bool.and_eq_true] at c7
        refine none_ (hD.keyDict hcl hbl (by rw [hkk]; exact c7.1) (x := d) (rest := (tl z).drop e2) ?_ (.inl c7.2)) _ hS4
        rw [hkk, c7.1, if_pos rfl] at hff2
        exact hff2
      have hx1 : k = true → hasD d = false := fun q => by
        rw [q, Bool.true_and] at c7
        exact Bool.eq_false_iff.mpr c7
      have hP4 := s24 _ _ hP2
      have hM4 := s24 _ _ hM2
      have ht4 := s4 _ _ ht
      have hu4 := s4 _ _ hu
      have htp : t ≠ lp := fun q => by rw [q, hP4] at ht4; cases ht4
      have hup : u ≠ lp := fun q => by rw [q, hP4] at hu4; cases hu4
      have htm : t ≠ lm := fun q => by rw [q, hM4] at ht4; cases ht4
      refine ⟨_, rfl, .inl ⟨rfl, _, SqL.of hP4⟩, _, rfl, t, _, 0, .ref u, rfl, rfl, SqT.of ht4, rfl, u, _, 0, x, rfl, rfl, SqT.of hu4, rfl, lp, _, _, rfl, rfl, hP4, by rw [hlen, sizeLine_eq]; omega, ?_⟩
      have ht5 : upd H4 lp (.lst (P ++ [x])) t = some (.tup [.ref u, .int (e2 : Nat)]) := by rw [upd_ne htp]; exact ht4
      have hM5 : upd H4 lp (.lst (P ++ [x])) lm = some (.lst (mk.map fun t => V.str ⟨t.toArray⟩)) := by rw [upd_ne (Ne.symm hpm)]; exact hM4
      refine ⟨_, rfl, .inl ⟨rfl, _, SqL.of hM5⟩, _, rfl, _, rfl, _, rfl, _, rfl, t, _, 1, .int (e2 : Nat), rfl, rfl, SqT.of ht5, rfl, _, rfl, z, rfl, hzs, lm, _, _, rfl, rfl, hM5, by rw [List.length_map, hml, sizeLine_eq]; omega, ?_⟩
      have ht6 : upd (upd H4 lp (.lst (P ++ [x]))) lm (.lst ((mk.map fun t => V.str ⟨t.toArray⟩) ++ [.str (cutS z (some ((beh e ds : Nat) : Int)) (some ((e2 : Nat) : Int)))])) t = some (.tup [.ref u, .int (e2 : Nat)]) := by rw [upd_ne htm]; exact ht5
      have hP6 : upd (upd H4 lp (.lst (P ++ [x]))) lm (.lst ((mk.map fun t => V.str ⟨t.toArray⟩) ++ [.str (cutS z (some ((beh e ds : Nat) : Int)) (some ((e2 : Nat) : Int)))])) lp = some (.lst (P ++ [x])) := by rw [upd_ne hpm, upd_same]
      have hM6 : upd (upd H4 lp (.lst (P ++ [x]))) lm (.lst ((mk.map fun t => V.str ⟨t.toArray⟩) ++ [.str (cutS z (some ((beh e ds : Nat) : Int)) (some ((e2 : Nat) : Int)))])) lm = some (.lst ((mk.map fun t => V.str ⟨t.toArray⟩) ++ [.str (cutS z (some ((beh e ds : Nat) : Int)) (some ((e2 : Nat) : Int)))])) := upd_same
      have k46 : Keep H4 (upd (upd H4 lp (.lst (P ++ [x]))) lm (.lst ((mk.map fun t => V.str ⟨t.toArray⟩) ++ [.str (cutS z (some ((beh e ds : Nat) : Int)) (some ((e2 : Nat) : Int)))]))) := (Keep.mut (by rw [hP4]; trivial)).trans (Keep.mut (by rw [hM5]; trivial))
      have hS6 : Same H0 (upd (upd H4 lp (.lst (P ++ [x]))) lm (.lst ((mk.map fun t => V.str ⟨t.toArray⟩) ++ [.str (cutS z (some ((beh e ds : Nat) : Int)) (some ((e2 : Nat) : Int)))]))) := same_upd hlm0 (same_upd hlp hS4)
      generalize upd (upd H4 lp (.lst (P ++ [x]))) lm (.lst ((mk.map fun t => V.str ⟨t.toArray⟩) ++ [.str (cutS z (some ((beh e ds : Nat) : Int)) (some ((e2 : Nat) : Int)))])) = H6 at ht6 hP6 hM6 k46 hS6
      refine ⟨_, rfl, t, _, 1, .int (e2 : Nat), rfl, rfl, SqT.of ht6, rfl, ?_⟩
      have e33 : decide (V.str (cutS z (some (e2 : Int)) (some ((e2 : Int) + 1))) = V.str " ") = decide (((tl z).drop e2).head? = some 32) := dec_one z e2 32 " " (by decide +kernel)
      refine tAndK (k := k) (c := !decide (((tl z).drop e2).head? = some 32)) rfl (fun R q => ⟨_, rfl, _, rfl, _, rfl, _, rfl, _, _, rfl, rfl, _, rfl, z, rfl, hzs, rfl, _, rfl, by rw [e33]; exact q H6 fun _ _ q => q⟩) (fun H7 s7 => ?_)
      refine ite2 (fun c8 => ?_) (fun c8 => ?_)
      · rw [Bool.and_eq_true] at c8
        refine none_ (hD.keyDict hcl hbl (by rw [hkk]; exact c8.1) (x := d) (rest := (tl z).drop e2) ?_ (.inr fun q => ?_)) _ (Same.trans hS6 s7)
        · rw [hkk, c8.1, if_pos rfl] at hff2
          exact hff2
        · rw [decide_eq_true q] at c8
          cases c8.2
      have hx2 : k = true → ((tl z).drop e2).head? = some 32 := fun q => by
        rw [q, Bool.true_and] at c8
        refine of_decide_eq_true ?_
        cases h : decide (((tl z).drop e2).head? = some 32) with
        | true => rfl
        | false => rw [h] at c8; exact absurd rfl c8
      have hbe2 : e ≤ beh e ds := by unfold beh; split <;> omega
      have hD2 := hD.next hcl hbl hff2 g1 g2 (fun q => by rw [hkk] at q; exact ⟨hx1 q, hx2 q⟩)
      refine ⟨e2, P ++ [x], ds ++ [d], _, _, _, _, rfl, hD2, ((hA2.keep (Same.keep s24)).snoc (ax.keep (Same.keep s4))).keep (k46.trans (Same.keep s7)), s7 _ _ hP6, ?_, by simp [hml], by omega, by omega, by simp; omega, Same.trans hS6 s7⟩
      rw [s7 _ _ hM6, List.map_append]
      have ec : cutS z (some ((beh e ds : Nat) : Int)) (some ((e2 : Nat) : Int)) = ⟨(((tl z).drop (beh e ds)).take (e2 - beh e ds)).toArray⟩ := TL.ext_tl (by rw [tl_cut])
      rw [ec]
      rfl
    · have hne : ds.isEmpty = true := by
        rw [← hpe]
        cases h : P.isEmpty with
        | true => rfl
        | false =>
          have c5 : ¬ (!P.isEmpty) = true := c5
          rw [h] at c5; exact absurd rfl c5
      have hbl : ds.isEmpty = true ∨ ((tl z).drop e).head? = some 32 := .inl hne
      have hbe : beh e ds = e := by unfold beh; rw [hne]; rfl
      refine seqSt (t := Ends.nx) (σ' := [some (.str z), some (.int (beh e ds : Nat)), some (.int ((l' + 1 : Nat) : Int)), some (.bl isd), some (.ref lp), some (.ref lm), some (.int (0 + (i : Int))), o7, o8, none, none]) (by rw [hbe]; try rfl) (stripNx ?_)
      -- the turn, behind the blank
      have hbt : beh e ds ≤ z.length := by
        unfold beh
        split
        · exact hel
        · rename_i hh
          rcases hbl with q | q
          · exact absurd q hh
          · rw [List.head?_drop] at q
            have := (List.getElem?_eq_some_iff.mp q).1
            omega
      refine asg_and (x := isd) (b := decide (V.int ((P.length : Int) % 2) = V.int 0)) (fun R q => ⟨_, rfl, q⟩) (fun R q => ⟨_, rfl, lp, P, rfl, .inl (SqL.of hP2), .inl ⟨_, rfl, _, _, rfl, rfl, (by show (0 : Int) < 2; decide), rfl, q⟩⟩) ?_
      have hk : (isd && decide (V.int ((P.length : Int) % 2) = V.int 0)) = isKey isd ds := by
        unfold isKey
        rw [hA.length]
        congr 1
        refine decide_eq_decide.mpr ⟨fun q => ?_, fun q => ?_⟩
        · have : ((ds.length : Nat) : Int) % 2 = 0 := by injection q
          omega
        · congr 1
          omega
      rw [hk]
      obtain ⟨k, hkk⟩ : ∃ k, isKey isd ds = k := ⟨_, rfl⟩
      rw [hkk]
      refine ⟨_, rfl, _, rfl, tIfInt (k := k) rfl (fun R q => ⟨_, rfl, _, _, rfl, rfl, _, _, rfl, q⟩) (fun R q => ⟨_, rfl, _, _, rfl, rfl, q⟩) ?_⟩
      have e6 : (if ((l' + 1 : Nat) : Int) - 1 < 6 then ((l' + 1 : Nat) : Int) - 1 else 6) = ((min l' 6 : Nat) : Int) := by split <;> omega
      have ek : (if k = true then (if ((l' + 1 : Nat) : Int) - 1 < 6 then ((l' + 1 : Nat) : Int) - 1 else 6) else ((l' + 1 : Nat) : Int) - 1) = ((if k = true then min l' 6 else l' : Nat) : Int) := by
        cases k with
        | true => exact e6
        | false => show ((l' + 1 : Nat) : Int) - 1 = (l' : Int); omega
      have hkl : (if k = true then min l' 6 else l') ≤ l' := by split <;> omega
      refine ⟨z, beh e ds, (if k = true then min l' 6 else l'), m', congrArg (fun x => [V.str z, V.int (beh e ds : Nat), V.int x]) ek, by omega, by omega, by omega, hbt, hz, fun H3 v s3 tv => ?_⟩
      have hff : (if isKey isd ds = true then rd m' (min l' 6) else rd m' l') ((tl z).drop (beh e ds)) = rd m' (if k = true then min l' 6 else l') ((tl z).drop (beh e ds)) := by rw [hkk]; cases k <;> rfl
      cases hr0 : rd m' (if k = true then min l' 6 else l') ((tl z).drop (beh e ds)) with
      | none =>
        rw [hr0] at tv hff
        cases (show v = .non from tv)
        refine ⟨_, rfl, rfl, _, rfl, ?_⟩
        exact ite_tt' (none_ (hD.noRead hcl hbl hff) _ (Same.trans hS2 s3))
      | some dr =>
      obtain ⟨d, rest⟩ := dr
      rw [hr0] at tv hff
      obtain ⟨t, u, x, rfl, ht, hu, ax, hrl⟩ := tv
      obtain ⟨e2, g1, g2, g3, g4, g5, g6, g7, g8, g9⟩ := got_drop (by rw [← hlz]; exact hbt) hr0
      rw [hlz, g4] at ht
      refine ⟨_, rfl, rfl, _, rfl, ?_⟩
      refine ite_ff' ?_
      refine tAndK (k := k) (c := hasD d) rfl (fun R q => ⟨_, rfl, t, _, 0, .ref u, rfl, rfl, SqT.of ht, rfl, u, _, 0, x, rfl, rfl, SqT.of hu, rfl, x, d, rfl, ?_, ax, ?_, fun H4 s4 => ⟨_, rfl, q H4 s4⟩⟩) (fun H4 s4 => ?_)
      · have := depth_of_plain d _ g7
        omega
      · have : big = 2 ^ 24 := rfl
        omega
      have hff2 : (if isKey isd ds = true then rd m' (min l' 6) else rd m' l') ((tl z).drop (beh e ds)) = some (d, (tl z).drop e2) := by rw [hff, g3]
      have s24 : Same H2 H4 := Same.trans s3 s4
      have hS4 : Same H0 H4 := Same.trans hS2 s24
      refine ite2 (fun c7 => ?_) (fun c7 => ?_)
      · rw [Bool.and_eq_true] at c7
        refine none_ (hD.keyDict hcl hbl (by rw [hkk]; exact c7.1) (x := d) (rest := (tl z).drop e2) ?_ (.inl c7.2)) _ hS4
        rw [hkk, c7.1, if_pos rfl] at hff2
        exact hff2
      have hx1 : k = true → hasD d = false := fun q => by
        rw [q, Bool.true_and] at c7
        exact Bool.eq_false_iff.mpr c7
      have hP4 := s24 _ _ hP2
      have hM4 := s24 _ _ hM2
      have ht4 := s4 _ _ ht
      have hu4 := s4 _ _ hu
      have htp : t ≠ lp := fun q => by rw [q, hP4] at ht4; cases ht4
      have hup : u ≠ lp := fun q => by rw [q, hP4] at hu4; cases hu4
      have htm : t ≠ lm := fun q => by rw [q, hM4] at ht4; cases ht4
      refine ⟨_, rfl, .inl ⟨rfl, _, SqL.of hP4⟩, _, rfl, t, _, 0, .ref u, rfl, rfl, SqT.of ht4, rfl, u, _, 0, x, rfl, rfl, SqT.of hu4, rfl, lp, _, _, rfl, rfl, hP4, by rw [hlen, sizeLine_eq]; omega, ?_⟩
      have ht5 : upd H4 lp (.lst (P ++ [x])) t = some (.tup [.ref u, .int (e2 : Nat)]) := by rw [upd_ne htp]; exact ht4
      have hM5 : upd H4 lp (.lst (P ++ [x])) lm = some (.lst (mk.map fun t => V.str ⟨t.toArray⟩)) := by rw [upd_ne (Ne.symm hpm)]; exact hM4
      refine ⟨_, rfl, .inl ⟨rfl, _, SqL.of hM5⟩, _, rfl, _, rfl, _, rfl, _, rfl, t, _, 1, .int (e2 : Nat), rfl, rfl, SqT.of ht5, rfl, _, rfl, z, rfl, hzs, lm, _, _, rfl, rfl, hM5, by rw [List.length_map, hml, sizeLine_eq]; omega, ?_⟩
      have ht6 : upd (upd H4 lp (.lst (P ++ [x]))) lm (.lst ((mk.map fun t => V.str ⟨t.toArray⟩) ++ [.str (cutS z (some ((beh e ds : Nat) : Int)) (some ((e2 : Nat) : Int)))])) t = some (.tup [.ref u, .int (e2 : Nat)]) := by rw [upd_ne htm]; exact ht5
      have hP6 : upd (upd H4 lp (.lst (P ++ [x]))) lm (.lst ((mk.map fun t => V.str ⟨t.toArray⟩) ++ [.str (cutS z (some ((beh e ds : Nat) : Int)) (some ((e2 : Nat) : Int)))])) lp = some (.lst (P ++ [x])) := by rw [upd_ne hpm, upd_same]
      have hM6 : upd (upd H4 lp (.lst (P ++ [x]))) lm (.lst ((mk.map fun t => V.str ⟨t.toArray⟩) ++ [.str (cutS z (some ((beh e ds : Nat) : Int)) (some ((e2 : Nat) : Int)))])) lm = some (.lst ((mk.map fun t => V.str ⟨t.toArray⟩) ++ [.str (cutS z (some ((beh e ds : Nat) : Int)) (some ((e2 : Nat) : Int)))])) := upd_same
      have k46 : Keep H4 (upd (upd H4 lp (.lst (P ++ [x]))) lm (.lst ((mk.map fun t => V.str ⟨t.toArray⟩) ++ [.str (cutS z (some ((beh e ds : Nat) : Int)) (some ((e2 : Nat) : Int)))]))) := (Keep.mut (by rw [hP4]; trivial)).trans (Keep.mut (by rw [hM5]; trivial))
      have hS6 : Same H0 (upd (upd H4 lp (.lst (P ++ [x]))) lm (.lst ((mk.map fun t => V.str ⟨t.toArray⟩) ++ [.str (cutS z (some ((beh e ds : Nat) : Int)) (some ((e2 : Nat) : Int)))]))) := same_upd hlm0 (same_upd hlp hS4)
      generalize upd (upd H4 lp (.lst (P ++ [x]))) lm (.lst ((mk.map fun t => V.str ⟨t.toArray⟩) ++ [.str (cutS z (some ((beh e ds : Nat) : Int)) (some ((e2 : Nat) : Int)))])) = H6 at ht6 hP6 hM6 k46 hS6
      refine ⟨_, rfl, t, _, 1, .int (e2 : Nat), rfl, rfl, SqT.of ht6, rfl, ?_⟩
      have e33 : decide (V.str (cutS z (some (e2 : Int)) (some ((e2 : Int) + 1))) = V.str " ") = decide (((tl z).drop e2).head? = some 32) := dec_one z e2 32 " " (by decide +kernel)
      refine tAndK (k := k) (c := !decide (((tl z).drop e2).head? = some 32)) rfl (fun R q => ⟨_, rfl, _, rfl, _, rfl, _, rfl, _, _, rfl, rfl, _, rfl, z, rfl, hzs, rfl, _, rfl, by rw [e33]; exact q H6 fun _ _ q => q⟩) (fun H7 s7 => ?_)
      refine ite2 (fun c8 => ?_) (fun c8 => ?_)
      · rw [Bool.and_eq_true] at c8
        refine none_ (hD.keyDict hcl hbl (by rw [hkk]; exact c8.1) (x := d) (rest := (tl z).drop e2) ?_ (.inr fun q => ?_)) _ (Same.trans hS6 s7)
        · rw [hkk, c8.1, if_pos rfl] at hff2
          exact hff2
        · rw [decide_eq_true q] at c8
          cases c8.2
      have hx2 : k = true → ((tl z).drop e2).head? = some 32 := fun q => by
        rw [q, Bool.true_and] at c8
        refine of_decide_eq_true ?_
        cases h : decide (((tl z).drop e2).head? = some 32) with
        | true => rfl
        | false => rw [h] at c8; exact absurd rfl c8
      have hbe2 : e ≤ beh e ds := by unfold beh; split <;> omega
      have hD2 := hD.next hcl hbl hff2 g1 g2 (fun q => by rw [hkk] at q; exact ⟨hx1 q, hx2 q⟩)
      refine ⟨e2, P ++ [x], ds ++ [d], _, _, _, _, rfl, hD2, ((hA2.keep (Same.keep s24)).snoc (ax.keep (Same.keep s4))).keep (k46.trans (Same.keep s7)), s7 _ _ hP6, ?_, by simp [hml], by omega, by omega, by simp; omega, Same.trans hS6 s7⟩
      rw [s7 _ _ hM6, List.map_append]
      have ec : cutS z (some ((beh e ds : Nat) : Int)) (some ((e2 : Nat) : Int)) = ⟨(((tl z).drop (beh e ds)).take (e2 - beh e ds)).toArray⟩ := TL.ext_tl (by rw [tl_cut])
      rw [ec]
      rfl
  · obtain ⟨e, P, ds, mk, o6, o7, o8, rfl, hD, hA, hP, hM, hml, hel, hie, hde, hS⟩ := hp
    exact absurd hie (by omega)
theorem ok_lread (D : Df K mg "_law_read" sLRead ["text", "at", "left"] f fd) (W : Df K mg "_law_word" sWord ["text", "at"] g gd) (Hs : Df K mg "_law_has_dict" sLHas ["value"] h hd) (B : Bn mg)
    (GW : FnOk P w K mg base CX0 1 g gd ["text", "at"] (spWord w)) (GH : FnOk P w K mg base CX0 40 h hd ["value"] (spHas w 40)) : ∀ n : Nat, FnOk P w K mg base CX0 (n + 41) f fd ["text", "at", "left"] (spLRead w n)
  | 0 => none_at fun vs H Q E h => by
    obtain ⟨_, _, _, _, _, z, _⟩ := h
    omega
  | n + 1 => ok_lread1 D W Hs B GW GH (ok_lread D W Hs B GW GH n)
end
end K15
end

section
set_option Elab.async false
set_option linter.all false
set_option maxRecDepth 100000
set_option maxHeartbeats 2000000
set_option pp.maxSteps 900
namespace K15
open PySem PySem.Spec PyProof.Rows L2 TL PySem.W PySem.Calls PySem.HandSPX

/-! ### ParseError -/
abbrev sParse : Stmt := topS 3
abbrev sPI : Stmt := inClass sParse 0
/-- what the written part says of ParseError, at C, and of its __init__, at fI -/
structure PTxt (P : Program) (K : Frag) (mg : Str → Option Value) (C fI : Addr) : Prop where
  gC : mg "ParseError" = some (.ref C)
  cls : ∃ nm q N bs bm sn sub ab col dd k0 k1 k2 k3 k5, K.lookup C = some (excClassObj nm q C N bs bm true sn sub ab col dd k0 k1 k2 k3 k5 "ValueError.__new__") ∧ refsVE bm = true
  sa : findIn K (.ref C) "__setattr__" = some (some (.builtin "object.__setattr__"))
  ga : findIn K (.ref C) "__getattribute__" = some (some (.builtin "BaseException.__getattribute__"))
  gg : findIn K (.ref C) "__getattr__" = some none
  noN : findIn K (.ref C) "spot" = some none
  iC : findIn K (.ref C) "__init__" = some (some (.ref fI))
  tC : typeIn K (.ref fI) = some (.type "function")
  kC : keepIn K (.ref C) = true
  exC : subIn K (.ref C) (.type "BaseException") = some true
  veC : subIn K (.ref C) (.type "ValueError") = some true
  tyC : typeIn K (.ref C) = some (.type "type")
  hdC : hasDictIn K C = true
  te : exmOne K (.ref C) (.ref C) = some true
  mro : mroIn K C (.ref C) = some true
  op : nsIn K cStatics "thirdparty.any" = some none
  sup : ks_superIn K C C "__init__" = some (some (.builtin "ValueError.__init__"))
  msup : mg "super" = none
  tsup : (P.main.scope.names.lookup ("super" : Str)).isSome = false
  fn : ∃ (oc : Value) (od : Option Addr) (kV doc pm : Value) (an : Option Addr) (cda : Addr) (ct : Value) (cc : Addr) (osl : Array (Option Value)) (vs : Array Value) (file : Str) (tf : Tok) (ccl cl : Value) (cdd cld : Option Addr) (ccs csl : Array (Option Value)),
    K.lookup fI = some ⟨oc, od, .func (ksFn "__init__" "ParseError.__init__" (defArgs sPI) (defBody sPI) (defScope sPI) .none kV doc pm an (.ref cda) ct cc), osl⟩ ∧ codeIn K (.ref cda) "ParseError.__init__" = true ∧
    K.lookup cda = some ⟨ccl, cdd, .fields vs, ccs⟩ ∧ vs[2]? = some (.str file tf) ∧ ((P.main.file : Str) == file) = true ∧ K.lookup cc = some ⟨cl, cld, .cell (some (.ref C)), csl⟩
theorem pt_one (v : Value) : [v].length ≤ sizeLine := by
  rw [sizeLine_eq]
  exact (by decide : 1 ≤ 16777216)
/-- what __init__ leaves of a fresh exception at x -/
structure InitEnd (h h' : Heap) (x C dx t1 : Addr) (v : Value) : Prop where
  keep : ∀ b o, b ≠ x → h.get? b = some o → h'.get? b = some o
  obj : h'.get? x = some { cls := .ref C, dict := some dx, data := .fields #[.ref t1, .none, .none, .none, .bool false, .none] }
  dbig : h.objs.size ≤ dx
  dne : dx ≠ x
  ns : h'.Ns1 dx (fun y => if y = "spot" then some v else none)
/-- a made ParseError -/
structure OwnMade (h h' : Heap) (e C d : Addr) (v : Value) : Prop where
  keep : ∀ b o, h.get? b = some o → h'.get? b = some o
  new : h.objs.size ≤ e
  obj : ∃ oe vs, h'.get? e = some oe ∧ oe.cls = .ref C ∧ oe.dict = some d ∧ oe.data = .fields vs ∧ vs[1]? = some .none
  dbig : h.objs.size ≤ d
  dne : d ≠ e
  ns : h'.Ns1 d (fun y => if y = "spot" then some v else none)
section
variable {prog : Program} {w : World} {A : Around} {E : Value → Shared → Prop} {R : Result → Shared → Prop} {s : Shared} {K : Frag} {mg : Str → Option Value} {C fI : Addr}
/-- ValueError.__init__, bound to x -/
theorem call_mw {h : Heap} {g : Array GenState} {d : Drawn} {t : Nat} {os : OsState} {u x t0 : Addr} {rest : List Value} {Q : Value → Shared → Prop} (T : PTxt prog K mg C fI) (X : K.In h) (hu : h.get? u = some (kxs_mw "ValueError.__init__" x)) (hx : h.get? x = some (excO C t0)) (hz : rest.length ≤ sizeLine)
    (hq : ∀ h' t1, (∀ b o, b ≠ x → h.get? b = some o → h'.get? b = some o) → h'.get? x = some (excO C t1) → Q .none ⟨h', g, d, t, os⟩) :
    wpAny (model prog w) A (call (.ref u) rest) Q E ⟨h, g, d, t, os⟩ := by
  obtain ⟨nm, q, N, bs, bm, sn, sub, ab, col, dd, k0, k1, k2, k3, k5, hC, hbm⟩ := T.cls
  have FB := F.excBase_ValueError
  refine wpAny_call (codeAny_of_tree ?_)
  show wpAny _ A.in1 (callAny (.ref u) ⟨rest, []⟩) _ _ _
  simp only [callAny]
  refine wpAny_bind (wpAny_load hu ?_)
  simp only [kxs_mw, show (Value.type "method-wrapper" == Value.type "method" || Value.type "method-wrapper" == Value.type "builtin_function_or_method" || Value.type "method-wrapper" == Value.type "method-wrapper") = true by decide, if_true]
  refine KFB.if_so (by decide) ?_
  refine wpAny_bind (check_bound_init FB.toExcCallFacts (X _ _ hC) hx rfl ?_)
  refine wpAny_bind (wpAny_pure (wpAny_pure ?_))
  refine ⟨plainId_quiet FB.init.plain _, codeAny_builtin FB.initEntry ?_⟩
  exact exc_init_tree (cls := .ref C) (t0 := t0) (dv := none) (c2 := .none) (c3 := .none) (b4 := .bool false) hx hz fun h' k hx' _ => hq h' _ k hx'
theorem pe_init (T : PTxt prog K mg C fI) {x t0 : Addr} {v : Value} {mb : Str → Option Value} (X : K.In s.heap) (hlim : s.heap.NoLimit) (hg : s.heap.Ns mainGlobals mg) (hb : s.heap.Ns builtinsNs mb) (hsb : mb "super" = some (.type "super")) (hx : s.heap.get? x = some (excO C t0)) (hnx : K.lookup x = none) (hxC : x ≠ C) (nG : x ≠ mainGlobals) (nB : x ≠ builtinsNs) (hroom : A.depth < recursionLimit)
    (hq : ∀ h' tk dx t1, InitEnd s.heap h' x C dx t1 v → R (.ok (.ret .none)) { s with heap := h', toks := tk }) :
    codeAny (model prog w) A (.call (.ref fI) ⟨[.ref x, v], []⟩) R s := by
  obtain ⟨oc, od, kV, doc, pm, an, cda, ct, cc, osl, vs, file, tf, ccl, cl, cdd, cld, ccs, csl, ho, hcd, hcda, hvs, hfile, hcc⟩ := T.fn
  obtain ⟨nm, q, N, bs, bm, sn, sub, ab, col, dd, k0, k1, k2, k3, k5, hC, hbm⟩ := T.cls
  have hcl : clsIn K C = some { name := nm, bases := bs, mro := .ref C :: bm, ns := N, qualname := q, hasDict := true, slotNames := sn, subclasses := sub, abstract := ab, collection := col, hasDel := false } := by unfold clsIn; rw [hC] <;> rfl
  refine ks_codeAny_call_defAt (fd := ksFn "__init__" "ParseError.__init__" (defArgs sPI) (defBody sPI) (defScope sPI) .none kV doc pm an (.ref cda) ct cc) (body := defBody sPI) (binds := [("self", .ref x), ("spot", v)]) hroom (X _ _ ho) rfl hlim (codeRec_of X hcd) rfl (BindsTo.of_eq (by first | rfl | with_unfolding_all rfl)) (show ∀ x ∈ (defScope sPI).names, x.2 ≠ .cell by decide +kernel) (by first | (intro y hy; simp only [List.mem_cons, List.not_mem_nil, or_false] at hy; rcases hy with rfl | rfl <;> rfl) | decide +kernel) (fun h₁ hn k => ?_) rfl rfl rfl
  obtain ⟨hp, g, d, t, os⟩ := s
  have hxL : hp.objs.size ≠ x := Nat.ne_of_gt (Heap.lt_size hx)
  have X₁ : K.In h₁ := X.keeps k
  have hx₁ := k _ _ hx
  have hk₁ : (defScope sPI).kind = .function := by decide +kernel
  have hks : (defScope sPI).names.lookup ("super" : Str) = some .globalImplicit := by decide +kernel
  have hkc : (defScope sPI).names.lookup ("__class__" : Str) = some .free := by decide +kernel
  have hka : (defScope sPI).names.lookup ("self" : Str) = some .local := by decide +kernel
  have hkp : (defScope sPI).names.lookup ("spot" : Str) = some .local := by decide +kernel
  have env0 : callEnv (ksFn "__init__" "ParseError.__init__" (defArgs sPI) (defBody sPI) (defScope sPI) .none kV doc pm an (.ref cda) ct cc) hp.objs.size fI = ksEnv "ParseError.__init__" (defScope sPI) hp.objs.size fI (.ref cda) cc := rfl
  rw [env0]
  refine ks_wpAt_execs_cons ?_
  refine ks_wpAt_Expr_any ?_
  refine ks_wpAt_MethodCall ?_
  refine ks_wpAt_super_base (f := fI) (cc := cda) (env := ksEnv "ParseError.__init__" (defScope sPI) hp.objs.size fI (.ref cda) cc) hks hkc (by decide +kernel) rfl (X₁ _ _ ho) rfl (show _ = some _ from rfl) rfl (X₁ _ _ hcda) rfl hvs hfile T.tsup ?_
  refine ks_loadName_global hk₁ hks (loadGlobal_builtin (env := ksEnv "ParseError.__init__" (defScope sPI) hp.objs.size fI (.ref cda) cc) (hg.keeps k) T.msup (hb.keeps k) hsb ⟨rfl, ?_⟩)
  refine wpAny_loadName_free hk₁ hkc rfl ⟨_, X₁ _ _ hcc, rfl⟩ ?_
  refine wpAny_loadName_local hk₁ hka hn (show _ = some (Value.ref x) by first | rfl | with_unfolding_all rfl | kernel_rfl) ?_
  have hD1 : h₁.get? C = some _ := X₁ _ _ hC
  refine ks_wpAny_isType_cls hD1 rfl ⟨rfl, ?_⟩
  refine ks_wpAny_call_super hD1 rfl hx₁ rfl (fun c e => by cases e) (looks_mroIn X₁ T.mro) (fun h₂ e₂ k₂ => ?_)
  have X₂ : K.In h₂ := X₁.keeps k₂
  have hx₂ := k₂ _ _ hx₁
  have I₂ : InstAt h₂ x (excO C t0) C none := ⟨hx₂, rfl, rfl, trivial⟩
  have hI₂ : Looks (model prog w) h₂ (isInstance (.ref x) (.type "ValueError")) true := I₂.type.andThen (looks_subIn X₂ T.veC)
  have hsup := T.sup
  unfold ks_superIn at hsup
  rw [hcl] at hsup
  refine kxs_getMethod kxs_ValueError e₂ (looks_opaque X₂ T.op) (l₀ := .ref C :: bm) (fun A Q E s k q => wpAny_bind ((looks_clsIn X₂ hcl) A _ E s k (wpAny_pure q))) rfl X₂ hsup hI₂ hxC (by decide +kernel) ?_
  have X₃ : K.In (h₂.push (kxs_mw "ValueError.__init__" x)) := X₂.keeps fun b o e => Heap.get?_push_of_some _ e
  have hu : (h₂.push (kxs_mw "ValueError.__init__" x)).get? h₂.objs.size = some (kxs_mw "ValueError.__init__" x) := Heap.get?_push_at rfl rfl
  have hx₃ := Heap.get?_push_of_some (h := h₂) (kxs_mw "ValueError.__init__" x) hx₂
  have hn₃ := (hn.keeps k₂).keeps fun b o e => Heap.get?_push_of_some (kxs_mw "ValueError.__init__" x) e
  have k₀₃ : ∀ b o, h₁.get? b = some o → (h₂.push (kxs_mw "ValueError.__init__" x)).get? b = some o := fun b o e => Heap.get?_push_of_some _ (k₂ b o e)
  generalize h₂.push (kxs_mw "ValueError.__init__" x) = h₃ at X₃ hu hx₃ hn₃ k₀₃
  refine kxs_callWith (i := "ValueError.__init__") (x := x) rfl (evalArgs_plain (Calls.spliced_cons (wpAny_Constant_str (k := 0) (pos := ⟨9, 25, 9, 50⟩) (Calls.spliced_nil ⟨hu, ?_⟩))))
  refine call_mw T X₃ hu hx₃ (pt_one _) (fun h₄ t1 k₄ hx₄ => ?_)
  -- self.spot = spot
  have X₄ : K.In h₄ := fun a o e => k₄ a o (fun z => by rw [z, hnx] at e; cases e) (X₃ a o e)
  have hn₄ : h₄.Ns hp.objs.size (fun y => ([("spot", v), ("self", Value.ref x)] : List (Str × Value)).lookup y) := by
    obtain ⟨oL, es, ep, hL, r⟩ := hn₃
    exact ⟨oL, es, ep, k₄ _ _ hxL hL, r⟩
  have k₀₄ : ∀ b o, b ≠ x → hp.get? b = some o → h₄.get? b = some o := fun b o hb e => k₄ b o hb (k₀₃ _ _ (k _ _ e))
  have z4 : hp.objs.size ≤ h₄.objs.size := by
    have := hn₄.lt
    exact Nat.le_of_lt this
  refine wpAt_of_wpAny ?_
  refine wpAny_execs_cons (plainObj_wpAny_Assign_Attribute ?_)
  refine wpAny_Name (wpAny_loadName_local hk₁ hkp hn₄ (v := v) (by first | rfl | with_unfolding_all rfl | kernel_rfl) ?_)
  refine wpAny_Name (wpAny_loadName_local hk₁ hka hn₄ (v := .ref x) (by first | rfl | with_unfolding_all rfl | kernel_rfl) ?_)
  refine set_plain X₄ (ox := excO C t1) (od := none) ⟨hx₄, rfl, rfl, trivial⟩ T.sa ?_
  refine exc_osa X₄ hx₄ hcl (show refsVE (.ref C :: bm) = true from hbm) rfl T.noN (fun h₅ tk₅ dx k₅ dn dne hx₅ hn₅ => ?_)
  exact wpAny_execs_nil (hq h₅ tk₅ dx t1 ⟨fun b o hb e => k₅ b o hb (k₀₄ b o hb e), hx₅, Nat.le_trans z4 dn, dne, hn₅⟩)
theorem pe_made (T : PTxt prog K mg C fI) {v : Value} {mb : Str → Option Value} (X : K.In s.heap) (hlim : s.heap.NoLimit) (hg : s.heap.Ns mainGlobals mg) (hb : s.heap.Ns builtinsNs mb) (hsb : mb "super" = some (.type "super")) (hroom : A.depth + 1 < recursionLimit)
    (hq : ∀ h' tk e d, OwnMade s.heap h' e C d v → R (.ok (.ret (.ref e))) { s with heap := h', toks := tk }) :
    codeAny (model prog w) A (.call (.ref C) ⟨[v], []⟩) R s := by
  obtain ⟨nm, q, N, bs, bm, sn, sub, ab, col, dd, k0, k1, k2, k3, k5, hC, hbm⟩ := T.cls
  obtain ⟨hp, g, dr, tk, os⟩ := s
  have k : ∀ b o, hp.get? b = some o → ((hp.push (kdv_tup [v])).push (excO C hp.objs.size)).get? b = some o := fun b o e => Heap.get?_push_of_some _ (Heap.get?_push_of_some _ e)
  have hget : ((hp.push (kdv_tup [v])).push (excO C hp.objs.size)).get? (hp.objs.size + 1) = some (excO C hp.objs.size) := by heap_get
  have far : ∀ b o, hp.get? b = some o → hp.objs.size + 1 ≠ b := fun b o e => Nat.ne_of_gt (Nat.lt_succ_of_lt (Heap.lt_size e))
  have hnx : K.lookup (hp.objs.size + 1) = none := by
    cases e : K.lookup (hp.objs.size + 1) with
    | none => rfl
    | some o => exact absurd rfl (far _ _ (X _ _ e))
  have hg0 := hg
  have hb0 := hb
  obtain ⟨og, _, _, eg, _⟩ := hg0
  obtain ⟨ob, _, _, eb, _⟩ := hb0
  refine call_own F.excBase_ValueError (fun X => refsVE_contains X bm hbm) (X _ _ hC) (looks_findIn X T.iC) (fun self => bind_fn X self T.tC) (pt_one v) ?_
  refine pe_init (s := ⟨(hp.push (kdv_tup [v])).push (excO C hp.objs.size), g, dr, tk, os⟩) T (X.keeps k) (hlim.keeps k) (hg.keeps k) (hb.keeps k) hsb hget hnx (far _ _ (X _ _ hC)) (far _ _ eg) (far _ _ eb) ?_ fun h' tk' dx t1 ⟨k', hx, dn, dne, hns⟩ => ?_
  · show A.depth + 1 < recursionLimit
    exact hroom
  · have old : ∀ b o, hp.get? b = some o → h'.get? b = some o := fun b o e => k' b o (Ne.symm (far b o e)) (k b o e)
    have z : hp.objs.size + 1 + 1 ≤ dx := by
      first
        | (simpa only [Heap.size_push] using dn)
        | exact dn
        | (have q := dn; rw [Heap.size_push, Heap.size_push] at q; exact q)
    exact ⟨rfl, hq h' tk' (hp.objs.size + 1) dx ⟨old, Nat.le_succ _, ⟨_, _, hx, rfl, rfl, rfl, rfl⟩, Nat.le_trans (Nat.le_trans (Nat.le_succ _) (Nat.le_succ _)) z, dne, hns⟩⟩
end
theorem relO_spot {v : V} {v' : Value} (r : RelV v v') (f : Str) : RelO (List.lookup f [(("spot" : Str), v)]) (if f = "spot" then some v' else none) := by
  by_cases hw : f = "spot"
  · subst hw
    rw [if_pos rfl]
    have q : List.lookup ("spot" : Str) [(("spot" : Str), v)] = some v := by simp [List.lookup]
    rw [q]
    exact r
  · rw [if_neg hw]
    have qw : (f == ("spot" : Str)) = false := by simpa using hw
    have q2 : List.lookup f [(("spot" : Str), v)] = none := by simp [List.lookup, qw]
    rw [q2]
    trivial
section
variable {X : Cx} {C fI : Addr}
/-- ParseError(e) -/
def tMkP (C : Addr) (ta : TA) : St → Hp → XK → Prop := fun σ H Q => ta σ H fun vs H1 => ∃ v, vs = [v] ∧ ∀ d, H1 d = none → Q (.ref C) (some d) (upd H1 d (.xd [(("spot" : Str), v)]))
theorem pmk_p {a : Expr} {ta : TA} {p pos : Pos} {k : Nat} (T : PTxt X.prog X.K X.mg C fI) (hr : Room k X.A) (ha : PA X [a] ta) (hg : Gl X "ParseError" := by rfl)
    (he : starEach (a :: []) X.env = (false, eval a X.env) :: starEach [] X.env := by rfl) (hpl : (backTo pos (starEach [] X.env)).any (·.1) = false := by rfl) :
    PMk X (.Call (.Name "ParseError" p) [a] [] pos) (tMkP C ta) := by
  intro pins s σ H Q I h
  refine wpAny_Call_Name_kw (ld_glob I hg T.gC ?_)
  refine PySem.W.callWith_K (h₀ := X.base) I.ok.mod.kin T.kC (thn (ha.run pos pins s σ H _ I h) fun us s1 hh => ?_) he hpl
  obtain ⟨vs, H1, I1, r1, v, ev, q1⟩ := hh
  subst ev
  refine ⟨I1.kIn, ?_⟩
  cases r1 with
  | cons rv rn =>
    rename_i v' us'
    cases rn
    show wpAny _ _ (call (.ref C) [v']) _ _ _
    have hlim := I1.nolimit
    have hglob := I1.mod.glob.keeps I1.bk
    obtain ⟨mb, hb1, hb2⟩ := I1.mod.blt
    have hblt := hb1.keeps I1.bk
    have hsb : mb "super" = some (.type "super") := (hb2 "super" (by decide)).trans (by decide +kernel)
    obtain ⟨hp, g, dr, tk, os⟩ := s1
    refine wpAny_call (pe_made T I1.kIn hlim hglob hblt hsb (by have := hr.dp; omega) fun h' tk' e d M => ?_)
    show MkP X pins σ Q (.ref e) ⟨h', g, dr, tk', os⟩
    obtain ⟨oe, fv, hoe, hc, hd, hdat, h1⟩ := M.obj
    have hns := M.ns
    obtain ⟨G', g1, g2⟩ := restrict h' fun b => decide (b ≠ e)
    have gk : ∀ b, b ≠ e → G'.get? b = h'.get? b := fun b hb => g1 b (decide_eq_true hb)
    have ge : G'.get? e = none := g2 e (by simp)
    have old : ∀ b o, hp.get? b = some o → G'.get? b = some o := fun b o q => (gk b (Nat.ne_of_lt (Nat.lt_of_lt_of_le (Heap.lt_size q) M.new))).trans (M.keep b o q)
    have ob : ObjOk X.prog X.w (upd H1 d (.xd [(("spot" : Str), v)])) G' d (.xd [(("spot" : Str), v)]) :=
      ⟨_, hns.at (fun o q => (gk d M.dne).trans q), fun f => relO_spot rv f⟩
    have J : L2.Inv X pins σ (upd H1 d (.xd [(("spot" : Str), v)])) ⟨G', g, dr, tk', os⟩ := I1.laid (t' := tk') old M.dbig ob
    refine ⟨e, oe, fv, ⟨G', g, dr, tk', os⟩, _, .ref C, some d, rfl, J, fun b o q => ?_, ge, hoe, ⟨hc, hd⟩, hdat, h1, ?_, rfl, I1.bare, raises_own T.exC T.tyC, q1 d (I1.hok.fresh M.dbig)⟩
    · by_cases hb : b = e
      · have q' : G'.get? b = some o := q
        rw [hb, ge] at q'; cases q'
      · exact (gk b hb).symm.trans q
    · rw [upd_ne (Ne.symm M.dne)]
      exact I1.hok.fresh M.new
/-- raise ParseError(e) -/
def tRaiseP (C : Addr) (W : WX) (ta : TA) : TS := fun _ σ H => tMkP C ta σ H fun cls d H' => W cls d σ H'
theorem ps_raiseP {a : Expr} {ta : TA} {W : WX} {p pos pos2 : Pos} {k : Nat} (hc : X.calm = true) (T : PTxt X.prog X.K X.mg C fI) (hr : Room k X.A) (tk : Takes X W) (ha : PA X [a] ta) (hg : Gl X "ParseError" := by rfl)
    (he : starEach (a :: []) X.env = (false, eval a X.env) :: starEach [] X.env := by rfl) (hpl : (backTo pos (starEach [] X.env)).any (·.1) = false := by rfl) :
    PS X (.Raise (some (.Call (.Name "ParseError" p) [a] [] pos)) none pos2) (tRaiseP C W ta) := ps_raise hc tk (pmk_p T hr ha hg he hpl)
/-- error.spot, error the exception that the suite holds (at a; its class cls, its dict d) -/
def tSpot (C : Addr) (a : Addr) (cls : Value) (d : Option Addr) (te : TE) : TE := fun σ H Q => te σ H fun x H1 => x = .ref a ∧ cls = .ref C ∧ ∃ (dd : Addr) (v : V), d = some dd ∧ H1 dd = some (.xd [(("spot" : Str), v)]) ∧ Q v H1
theorem pe_spot {a : Addr} {oe : Obj} {cls : Value} {d : Option Addr} {pn : List (Addr × Obj)} {e : Expr} {te : TE} {pos : Pos} (T : PTxt X.prog X.K X.mg C fI) (hz : Zc cls d oe) (hf : ∃ vs, oe.data = .fields vs) (he : PE (X.suite a ((a, oe) :: pn)) e te)
    (hb : attributeBase e "spot" X.env (eval e X.env) = eval e X.env := by rfl) :
    PE (X.suite a ((a, oe) :: pn)) (.Attribute e "spot" pos) (tSpot C a cls d te) := by
  refine ⟨fun pins s σ H Q I h => ?_⟩
  refine attr_of hb (thn (he.run pins s σ H _ I h) fun u s1 hh => ?_)
  obtain ⟨x, H1, I1, rx, ex, ec, dd, v, ed, ea, q⟩ := hh
  subst ex
  obtain rfl : u = Value.ref a := rx
  subst ec
  subst ed
  obtain ⟨ha, _⟩ := I1.pin (a, oe) (List.mem_append_left _ List.mem_cons_self)
  obtain ⟨vs, hd⟩ := hf
  have hx : ObjOk X.prog X.w H1 s1.heap dd (.xd [(("spot" : Str), v)]) := I1.hok dd _ ea
  obtain ⟨mA, hns, hr⟩ := hx
  obtain ⟨od, ho, hl⟩ := lookIn_ns hns
  have l : List.lookup ("spot" : Str) [(("spot" : Str), v)] = some v := by simp [List.lookup]
  obtain ⟨u, hu, ru⟩ := RelO.some_of (v := v) (o := mA "spot") (by rw [← l]; exact hr "spot")
  have J : PySem.W.InstAt s1.heap a oe C (some od) := ⟨ha, hz.1, by unfold PySem.W.notCls; rw [hd] <;> rfl, by rw [hz.2]; exact ho⟩
  exact HandSPX.exc_get I1.kIn J T.ga T.gg T.exC (PySem.W.findObj_own T.hdC T.noN rfl (by rw [hl, hu])) (handed_of ru) ⟨v, H1, I1.tok _, ru, q⟩
end
end K15
end

section
set_option Elab.async false
set_option linter.all false
set_option maxRecDepth 100000
set_option pp.maxSteps 900
namespace K15
open PySem PySem.Spec PyProof.Rows L2 TL

/-! ### the program's Reading -/
abbrev sReading : Stmt := topS 19
abbrev rdSt (j : Nat) : Stmt := inClass sReading j
example : (List.range 10).map (fun j => nameOf (rdSt j)) = (["__init__", "is_over", "has", "take", "row_of", "value", "string", "members", "pairs", "whole"] : List Str) := by decide +kernel
/-- a method as it stands in the written part -/
structure Mt (K : PySem.W.Frag) (C : Addr) (x qual : Str) (st : Stmt) (ps : List Str) (f : Addr) (fd : FuncData) : Prop where
  F : Fun K x qual st f fd
  b : Binds K fd ps []
  m : Meth K C x f
/-- the class -/
structure Rc (K : PySem.W.Frag) (mg : Str → Option Value) (C : Addr) : Prop where
  cl : Cls K C
  nT : NoAttr K C "own_text"
  nA : NoAttr K C "own_at"
  gC : mg "Reading" = some (.ref C)
abbrev flds (z : Str) (e : Nat) : List (Str × V) := [("own_text", .str z), ("own_at", .int (e : Nat))]
theorem ne_at : (("own_at" : Str) == ("own_text" : Str)) = false := by decide +kernel
theorem lk_text {z : Str} {e : Nat} : (flds z e).lookup ("own_text" : Str) = some (V.str z) := by simp [List.lookup]
theorem lk_at {z : Str} {e : Nat} : (flds z e).lookup ("own_at" : Str) = some (V.int (e : Nat)) := by simp [List.lookup, ne_at]
theorem lk_no {z : Str} {e : Nat} {m : Str} (h1 : (m == ("own_text" : Str)) = false) (h2 : (m == ("own_at" : Str)) = false) : (flds z e).lookup m = none := by simp [List.lookup, h1, h2]
theorem put_at {z : Str} {e e' : Nat} : putF "own_at" (.int (e' : Nat)) (flds z e) = flds z e' := by
  have h : ¬ (("own_text" : Str) = ("own_at" : Str)) := by decide +kernel
  simp [putF, h]
/-- at a: a reading of z that stands at e -/
def RAt (C : Addr) (H : Hp) (a : Addr) (z : Str) (e : Nat) : Prop := ∃ dx, H a = some (.ins C dx (flds z e))
theorem RAt.ne {C : Addr} {H : Hp} {a p : Addr} {z : Str} {e : Nat} (r : RAt C H a z e) (h : H p = none) : p ≠ a := fun q => by
  obtain ⟨dx, x⟩ := r
  rw [q, x] at h
  cases h
theorem RAt.same {C : Addr} {H H' : Hp} {a : Addr} {z : Str} {e : Nat} (r : RAt C H a z e) (s : Same H H') : RAt C H' a z e := by
  obtain ⟨dx, x⟩ := r
  exact ⟨dx, s _ _ x⟩
theorem RAt.keep {C : Addr} {H H' : Hp} {a : Addr} {z : Str} {e : Nat} (r : RAt C H a z e) (k : Kp a H H') : Keep H H' := by
  obtain ⟨dx, x⟩ := r
  refine ⟨fun b xs h => k b _ (fun e => ?_) h, fun b o u h => k b _ (fun e => ?_) h⟩
  · rw [e, x] at h; cases h
  · rw [e, x] at h; cases h
theorem sw3 {z y : Str} {e : Nat} (he : e ≤ z.length) (hy : tl y ≠ []) : Txt.startswith3 z y (e : Int) = pre (tl y) ((tl z).drop e) := by
  have ef : fromIndex z.length (e : Int) = e := by unfold fromIndex; rw [if_neg (by omega)]; omega
  unfold Txt.startswith3
  rw [ef]
  have h := at_iff (x := z) hy e
  cases hp : pre (tl y) ((tl z).drop e) with
  | true =>
    have q := h.mpr hp
    rw [decide_eq_true q.1, q.2]
    rfl
  | false =>
    cases hd : decide (e + y.length ≤ z.length) with
    | false => rfl
    | true =>
      cases hs : Builtin.Str.subAt z y e with
      | false => rfl
      | true =>
        rw [h.mp ⟨of_decide_eq_true hd, hs⟩] at hp
        cases hp
def spRInit (C : Addr) : Sp := fun vs H Q _ => ∃ (a dx : Addr) (z : Str), vs = [.ref a, .str z] ∧ H a = some (.ins C dx []) ∧ Q .non (upd (upd H a (.ins C dx [("own_text", .str z)])) a (.ins C dx (flds z 0)))
def spOver (C : Addr) : Sp := fun vs H Q _ => ∃ (a : Addr) (z : Str) (e : Nat), vs = [.ref a] ∧ RAt C H a z e ∧ z.length < 2 ^ 22 ∧ Q (.bl (decide (e = z.length))) H
def spRHas (C : Addr) : Sp := fun vs H Q _ => ∃ (a : Addr) (z y : Str) (e : Nat), vs = [.ref a, .str y] ∧ RAt C H a z e ∧ e ≤ z.length ∧ tl y ≠ [] ∧ Q (.bl (pre (tl y) ((tl z).drop e))) H
/-- what is raised -/
def Bad (CP a : Addr) (H : Hp) (E : XK) : Prop := ∀ (H' : Hp) (d : Addr), Kp a H H' → H' d = some (.xd [(("spot" : Str), V.non)]) → E (.ref CP) (some d) H'
theorem Bad.of {CP a : Addr} {H H1 : Hp} {E : XK} (b : Bad CP a H E) (k : Kp a H H1) : Bad CP a H1 E := fun H' d k' h => b H' d (k.trans k') h
def spTake (C CP : Addr) : Sp := fun vs H Q E => ∃ (a : Addr) (z y : Str) (e : Nat), vs = [.ref a, .str y] ∧ RAt C H a z e ∧ e ≤ z.length ∧ z.length < 2 ^ 22 ∧ y.length < 2 ^ 22 ∧ tl y ≠ [] ∧
  (pre (tl y) ((tl z).drop e) = true → ∀ H', Kp a H H' → RAt C H' a z (e + y.length) → Q .non H') ∧ (pre (tl y) ((tl z).drop e) = false → Bad CP a H E)
theorem scRInit : FnScope ["self", "text"] ["self", "text"] (defScope (rdSt 0)) := ⟨rfl, rfl, rfl, by decide +kernel, rfl, by decide +kernel, by decide +kernel⟩
theorem scOver : FnScope ["self"] ["self"] (defScope (rdSt 1)) := ⟨rfl, rfl, rfl, by decide +kernel, rfl, by decide +kernel, by decide +kernel⟩
theorem scRHas : FnScope ["self", "word"] ["self", "word"] (defScope (rdSt 2)) := ⟨rfl, rfl, rfl, by decide +kernel, rfl, by decide +kernel, by decide +kernel⟩
theorem scTake : FnScope ["self", "word"] ["self", "word"] (defScope (rdSt 3)) := ⟨rfl, rfl, rfl, by decide +kernel, rfl, by decide +kernel, by decide +kernel⟩
section
variable {P : Program} {w : World} {K : PySem.W.Frag} {mg : Str → Option Value} {base : Heap} {f g : Addr} {fd gd : FuncData} {C CP fI : Addr}
theorem ok_rinit (F : Fun K "__init__" "Reading.__init__" (rdSt 0) f fd) (R : Rc K mg C) : FnOk P w K mg base CX0 1 f fd ["self", "text"] (spRInit C) := by
  refine F.ok scRInit (fun vs H Q E h => ?_) (fun cdv A outer s H vs Q E hr h => ?_)
  · obtain ⟨a, dx, z, rfl, _⟩ := h
    rfl
  obtain ⟨a, dx, z, rfl, ha, q⟩ := h
  refine ⟨_, pss_cons (ps_fld (pv 0) (pv 1) rfl) (pss_one (ps_fld (pv 0) pe_int rfl)), ?_⟩
  have h : ¬ (("own_text" : Str) = ("own_at" : Str)) := by decide +kernel
  refine ⟨_, rfl, _, rfl, a, C, dx, _, rfl, ha, R.cl, R.nT, by decide, ?_⟩
  refine ⟨_, rfl, a, C, dx, _, rfl, upd_same, R.cl, R.nA, (by show 1 < 1000; decide), ?_⟩
  have e : putF "own_at" (.int 0) (putF "own_text" (.str z) []) = flds z 0 := by simp [putF, h]
  rw [e]
  exact q
theorem ok_over (F : Fun K "is_over" "Reading.is_over" (rdSt 1) f fd) (R : Rc K mg C) (B : Bn mg) : FnOk P w K mg base CX0 1 f fd ["self"] (spOver C) := by
  refine F.ok scOver (fun vs H Q E h => ?_) (fun cdv A outer s H vs Q E hr h => ?_)
  · obtain ⟨a, z, e, rfl, _⟩ := h
    rfl
  obtain ⟨a, z, e, rfl, ⟨dx, ha⟩, hz, q⟩ := h
  refine ⟨_, pss_one (ps_ret (pe_cmpR op_eq (pe_fld (pv 0) rfl) (pe_callB call_len (by rfl) B.len bt_len (pa_cons (pe_fld (pv 0) rfl) pa_nil)) (nomark _))), ?_⟩
  refine ⟨_, rfl, a, C, dx, _, _, rfl, ha, R.cl, R.nA, lk_at, _, rfl, a, C, dx, _, _, rfl, ha, R.cl, R.nT, lk_text, _, _, rfl, ⟨by rw [sizeLine_eq]; omega, rfl⟩, rfl, ?_⟩
  have e1 : decide (V.int (e : Nat) = V.int (z.length : Nat)) = decide (e = z.length) := decide_eq_decide.mpr ⟨fun q => by injection q with q; omega, fun q => by rw [q]⟩
  show Q (.bl (decide (V.int (e : Nat) = V.int (z.length : Nat)))) H
  rw [e1]
  exact q
theorem ok_rhas (D : Mt K C "has" "Reading.has" (rdSt 2) ["self", "word"] f fd) (R : Rc K mg C) : FnOk P w K mg base CX0 1 f fd ["self", "word"] (spRHas C) := by
  refine D.F.ok scRHas (fun vs H Q E h => ?_) (fun cdv A outer s H vs Q E hr h => ?_)
  · obtain ⟨a, z, y, e, rfl, _⟩ := h
    rfl
  obtain ⟨a, z, y, e, rfl, ⟨dx, ha⟩, he, hy, q⟩ := h
  refine ⟨_, pss_one (ps_ret (pe_bm PySem.F.plainAttrs_str PySem.F.slot_str_startswith PySem.F.type_str_startswith mt_startswith3 (pe_fld (pv 0) rfl) (pa_cons (pv 1) (pa_cons (pe_fld (pv 0) rfl) pa_nil)))), ?_⟩
  refine ⟨_, rfl, a, C, dx, _, _, rfl, ha, R.cl, R.nT, lk_text, rfl, _, rfl, _, rfl, a, C, dx, _, _, rfl, ha, R.cl, R.nA, lk_at, _, _, _, rfl, rfl, ?_⟩
  rw [sw3 he hy]
  exact q
theorem ok_take (D : Mt K C "take" "Reading.take" (rdSt 3) ["self", "word"] f fd) (Hs : Mt K C "has" "Reading.has" (rdSt 2) ["self", "word"] g gd) (R : Rc K mg C) (B : Bn mg) (T : PTxt P K mg CP fI)
    (GH : FnOk P w K mg base CX0 1 g gd ["self", "word"] (spRHas C)) : FnOk P w K mg base (L2.CX P w) 2 f fd ["self", "word"] (spTake C CP) := by
  refine D.F.okX scTake (fun vs H Q E h => ?_) (fun cdv A outer s H vs Q E hr h => ?_)
  · obtain ⟨a, z, y, e, rfl, _⟩ := h
    rfl
  obtain ⟨a, z, y, e, rfl, ⟨dx, ha⟩, he, hz, hyl, hy, q1, q2⟩ := h
  refine ⟨_, pss_cons (ps_if (pt_not (pt_val (pe_meth (pv 0) R.cl Hs.m GH hr Hs.b .nil pass0 (pa_cons (pv 1) pa_nil)))) (pss_one (ps_raiseP rfl T hr (takes_of rfl rfl rfl rfl) (pa_cons pe_non pa_nil))) pss_nil)
    (pss_one (ps_fldaug (pv 0) (pe_callB call_len (by rfl) B.len bt_len (pa_cons (pv 1) pa_nil)) in_add)), ?_⟩
  refine ⟨_, rfl, a, dx, _, rfl, ha, lk_no (by decide +kernel) (by decide +kernel), _, rfl, a, z, y, e, rfl, ⟨dx, ha⟩, he, hy, _, rfl, ?_⟩
  cases hp : pre (tl y) ((tl z).drop e) with
  | false =>
    refine ite_tt' ?_
    exact ⟨_, rfl, fun d hd => q2 hp _ d (Kp.new hd) upd_same⟩
  | true =>
    refine ite_ff' ?_
    refine ⟨_, rfl, a, C, dx, _, _, rfl, ha, R.cl, R.nA, lk_at, _, rfl, _, _, rfl, ⟨by rw [sizeLine_eq]; omega, rfl⟩, _, _, rfl, rfl, dx, _, ha, (by show 2 < 1000; decide), ?_⟩
    have e1 : ((e : Int) + (y.length : Nat)) = ((e + y.length : Nat) : Int) := by omega
    rw [e1, put_at]
    exact q1 hp _ Kp.upd ⟨dx, upd_same⟩
end
end K15
end

section
set_option Elab.async false
set_option linter.all false
set_option maxRecDepth 100000
set_option pp.maxSteps 900
namespace K15
open PySem PySem.Spec PyProof.Rows L2 TL

theorem upd_id {H : Hp} {a : Addr} {o : HO} (h : H a = some o) : upd H a o = H := by
  funext b
  by_cases hb : b = a
  · rw [hb, upd_same, h]
  · rw [upd_ne hb]
theorem upd_upd {H : Hp} {a : Addr} {o o' : HO} : upd (upd H a o) a o' = upd H a o' := by
  funext b
  by_cases hb : b = a
  · rw [hb, upd_same, upd_same]
  · rw [upd_ne hb, upd_ne hb, upd_ne hb]
def spRow (C : Addr) : Sp := fun vs H Q _ => ∃ (a : Addr) (z y : Str) (e : Nat) (p : Nat → Bool), vs = [.ref a, .str y] ∧ RAt C H a z e ∧ e ≤ z.length ∧ z.length < 2 ^ 22 ∧ (∀ c, decide (c ∈ tl y) = p c) ∧
  ∀ H', Kp a H H' → RAt C H' a z (e + (((tl z).drop e).takeWhile p).length) → Q (.str ⟨(((tl z).drop e).takeWhile p).toArray⟩) H'
/-- what a reader hands back, or raises -/
def Res (w : World) (C CP a : Addr) (z : Str) (H : Hp) (Q : VK) (E : XK) : Option (PyData × Tx) → Prop
  | none => Bad CP a H E
  | some (d, rest) => ∀ (H' : Hp) (v : V), Kp a H H' → RAt C H' a z (z.length - rest.length) → At w H' v d → Q v H'
theorem Res.of {w : World} {C CP a : Addr} {z : Str} {H H1 : Hp} {Q : VK} {E : XK} {r : Option (PyData × Tx)} (h : Res w C CP a z H Q E r) (k : Kp a H H1) : Res w C CP a z H1 Q E r := by
  cases r with
  | none => exact Bad.of h k
  | some dr => exact fun H' v k' => h H' v (k.trans k')
def spRStr (w : World) (C CP : Addr) : Sp := fun vs H Q E => ∃ (a : Addr) (z : Str) (e : Nat), vs = [.ref a] ∧ RAt C H a z e ∧ z.length < 2 ^ 22 ∧ ((tl z).drop e).head? = some 34 ∧ Res w C CP a z H Q E (rdStr ((tl z).drop (e + 1)))
def spWhole (w : World) (C CP : Addr) : Sp := fun vs H Q E => ∃ (a : Addr) (z : Str) (e : Nat), vs = [.ref a] ∧ RAt C H a z e ∧ e ≤ z.length ∧ z.length < 2 ^ 22 ∧ Res w C CP a z H Q E (rdInt ((tl z).drop e))
theorem scRow : FnScope ["self", "signs", "begin"] ["self", "signs"] (defScope (rdSt 4)) := ⟨rfl, rfl, rfl, by decide +kernel, rfl, by decide +kernel, by decide +kernel⟩
theorem scRStr : FnScope ["self", "found"] ["self"] (defScope (rdSt 6)) := ⟨rfl, rfl, rfl, by decide +kernel, rfl, by decide +kernel, by decide +kernel⟩
theorem scWhole : FnScope ["self", "is_below", "digits"] ["self"] (defScope (rdSt 9)) := ⟨rfl, rfl, rfl, by decide +kernel, rfl, by decide +kernel, by decide +kernel⟩
theorem pre_one {c : Nat} {s : Tx} : pre [c] s = decide (s.head? = some c) := by
  unfold pre
  rw [Bool.eq_iff_iff, beq_iff_eq, decide_eq_true_iff]
  exact take_one
theorem pre_word4 {s : Tx} : pre [110, 111, 110, 101] s = decide (s.take 4 = [110, 111, 110, 101]) := by
  unfold pre
  rw [Bool.eq_iff_iff, beq_iff_eq, decide_eq_true_iff]
  exact Iff.rfl
theorem lt_of_head {s : Tx} {e c : Nat} (h : (s.drop e).head? = some c) : e < s.length := by
  rw [List.head?_drop] at h
  exact (List.getElem?_eq_some_iff.mp h).1
theorem sigs (c : Nat) : decide (c ∈ tl (Str.ofString "abcdefghijklmnopqrstuvwxyz ")) = isSig c := by
  have e : tl (Str.ofString "abcdefghijklmnopqrstuvwxyz ") = (List.range 26).map (· + 97) ++ [32] := by decide +kernel
  rw [e, Bool.eq_iff_iff, decide_eq_true_iff]
  unfold isSig
  simp only [List.mem_append, List.mem_map, List.mem_range, List.mem_singleton, Bool.or_eq_true, Bool.and_eq_true, decide_eq_true_iff, beq_iff_eq]
  constructor
  · rintro (⟨i, hi, rfl⟩ | h)
    · exact .inr ⟨by omega, by omega⟩
    · exact .inl h
  · rintro (h | ⟨h1, h2⟩)
    · exact .inr h
    · exact .inl ⟨c - 97, by omega, by omega⟩
theorem digs (c : Nat) : decide (c ∈ tl (Str.ofString "0123456789")) = isDig c := by
  have e : tl (Str.ofString "0123456789") = (List.range 10).map (· + 48) := by decide +kernel
  rw [e, Bool.eq_iff_iff, decide_eq_true_iff]
  unfold isDig
  simp only [List.mem_map, List.mem_range, Bool.and_eq_true, decide_eq_true_iff]
  constructor
  · rintro ⟨i, hi, rfl⟩
    exact ⟨by omega, by omega⟩
  · rintro ⟨h1, h2⟩
    exact ⟨c - 48, by omega, by omega⟩
section
variable {P : Program} {w : World} {K : PySem.W.Frag} {mg : Str → Option Value} {base : Heap} {f g g1 g2 g3 : Addr} {fd gd gd1 gd2 gd3 : FuncData} {C CP fI pO : Addr}
theorem ok_row (D : Mt K C "row_of" "Reading.row_of" (rdSt 4) ["self", "signs"] f fd) (R : Rc K mg C) (PO : PropOf K C "is_over" pO g) (bO : Binds K gd ["self"] []) (GO : FnOk P w K mg base CX0 1 g gd ["self"] (spOver C)) :
    FnOk P w K mg base CX0 3 f fd ["self", "signs"] (spRow C) := by
  refine D.F.ok scRow (fun vs H Q E h => ?_) (fun cdv A outer s H vs Q E hr h => ?_)
  · obtain ⟨a, z, y, e, p, rfl, _⟩ := h
    rfl
  obtain ⟨a, z, y, e, p, rfl, ⟨dx, ha⟩, he, hz, hp, q⟩ := h
  have nd := scRow.nd
  have hzs : z.length ≤ sizeLine := by rw [sizeLine_eq]; omega
  have hlz := TL.len_tl z
  refine ⟨_, pss_cons (ps_set (i := 2) nd rfl (.inl rfl) (pe_fld (pv 0) rfl))
    (pss_cons (ps_while PassesOwn.never (pw_and (pt_not (pt_val (pe_prop (pv 0) R.cl PO GO hr bO .nil pass0 rfl))) (pw_and1 (pt_cmpR op_in_sign (pe_ix ix_str (pe_fld (pv 0) rfl) (pe_fld (pv 0) rfl) (fun _ _ => rfl)) (pv 1) rfl))).pt
      (pss_one (ps_fldaug (pv 0) pe_int in_add)))
    (pss_one (ps_ret (pe_slice sl_str (pe_fld (pv 0) rfl) (po_some (pv 2)) (po_some (pe_fld (pv 0) rfl)))))), ?_⟩
  refine ⟨_, rfl, a, C, dx, _, _, rfl, ha, R.cl, R.nA, lk_at, ?_⟩
  refine row_loop' (p := p) (s := tl z) (b := e) (fun i => [some (.ref a), some (.str y), some (.int (e : Nat))]) (fun i => upd H a (.ins C dx (flds z i))) rfl (upd_id ha).symm (by omega) (fun i Q' h1 h2 q' => ?_) (fun i D' h1 h2 q' => ?_) (fun i hr1 hw hdw => ?_)
  · refine ⟨_, rfl, a, dx, _, rfl, upd_same, a, z, i, rfl, ⟨dx, upd_same⟩, hz, _, rfl, ?_⟩
    by_cases hi : i = z.length
    · have e1 : now p (tl z) i = false := by
        unfold now
        rw [List.getElem?_eq_none (by omega)]
      rw [e1] at q'
      rw [decide_eq_true hi]
      exact ite_ff' q'
    · rw [decide_eq_false hi]
      refine ite_tt' ?_
      have hc : (tl z)[i]? = some ((tl z)[i]'(by omega)) := List.getElem?_eq_getElem _
      generalize (tl z)[i]'(by omega) = c at hc
      have e1 : now p (tl z) i = decide (c ∈ tl y) := by
        unfold now
        rw [hc, hp]
      rw [e1] at q'
      exact ⟨_, rfl, a, C, dx, _, _, rfl, upd_same, R.cl, R.nT, lk_text, _, rfl, a, C, dx, _, _, rfl, upd_same, R.cl, R.nA, lk_at, z, i, c, rfl, rfl, hzs, atI_nat hc, _, rfl, c, y, rfl, rfl, _, rfl, q'⟩
  · refine ⟨_, rfl, a, C, dx, _, _, rfl, upd_same, R.cl, R.nA, lk_at, _, _, rfl, rfl, dx, _, upd_same, (by show 2 < 1000; decide), ?_⟩
    have e1 : ((i : Int) + 1) = ((i + 1 : Nat) : Int) := by omega
    rw [e1, put_at, upd_upd]
    exact q'
  · refine ⟨_, rfl, a, C, dx, _, _, rfl, upd_same, R.cl, R.nT, lk_text, _, rfl, _, rfl, _, rfl, a, C, dx, _, _, rfl, upd_same, R.cl, R.nA, lk_at, _, rfl, z, rfl, hzs, ?_⟩
    have hle := hr1.le
    have hln := hr1.ln
    have wl : (((tl z).drop e).takeWhile p).length = i - e := by rw [hw, List.length_take, List.length_drop]; omega
    have ez : cutS z (some (e : Int)) (some (i : Int)) = ⟨(((tl z).drop e).takeWhile p).toArray⟩ := by
      refine TL.ext_tl ?_
      rw [tl_cut, hw]
    rw [ez]
    refine q _ Kp.upd ⟨dx, ?_⟩
    rw [wl, show e + (i - e) = i by omega]
    exact upd_same
theorem ok_rstr (D : Mt K C "string" "Reading.string" (rdSt 6) ["self"] f fd) (R : Rc K mg C) (B : Bn mg) (T : PTxt P K mg CP fI) (Tk : Mt K C "take" "Reading.take" (rdSt 3) ["self", "word"] g gd) (Rw : Mt K C "row_of" "Reading.row_of" (rdSt 4) ["self", "signs"] g1 gd1)
    (gQ : Gv mg "QUOTE" (.str "\"")) (gS : Gv mg "SIGNS" (.str "abcdefghijklmnopqrstuvwxyz ")) (gM : Gv mg "MOST_TEXT" (.int 4000))
    (GT : FnOk P w K mg base (L2.CX P w) 2 g gd ["self", "word"] (spTake C CP)) (GR : FnOk P w K mg base CX0 3 g1 gd1 ["self", "signs"] (spRow C)) : FnOk P w K mg base (L2.CX P w) 4 f fd ["self"] (spRStr w C CP) := by
  refine D.F.okX scRStr (fun vs H Q E h => ?_) (fun cdv A outer s H vs Q E hr h => ?_)
  · obtain ⟨a, z, e, rfl, _⟩ := h
    rfl
  obtain ⟨a, z, e, rfl, ra, hz, hh, q⟩ := h
  have nd := scRStr.nd
  have hlz := TL.len_tl z
  have he := lt_of_head hh
  have q34 : tl (Str.ofString "\"") = [34] := by decide +kernel
  have l34 : (Str.ofString "\"").length = 1 := by decide +kernel
  refine ⟨_, pss_cons (ps_expr (pe_meth (pv 0) R.cl Tk.m GT (hr.mono (by decide)) Tk.b .nil (passes_call (takes_of rfl rfl rfl rfl) (fun _ _ _ _ h => h)) (pa_cons (pe_gv gQ (by rfl)) pa_nil)))
    (pss_cons (ps_set (i := 1) nd rfl (.inl rfl) (pe_meth (pv 0) R.cl Rw.m GR hr Rw.b .nil pass0 (pa_cons (pe_gv gS (by rfl)) pa_nil)))
    (pss_cons (ps_expr (pe_meth (pv 0) R.cl Tk.m GT (hr.mono (by decide)) Tk.b .nil (passes_call (takes_of rfl rfl rfl rfl) (fun _ _ _ _ h => h)) (pa_cons (pe_gv gQ (by rfl)) pa_nil)))
    (pss_cons (ps_if (pt_cmpR op_gt (pe_callB call_len (by rfl) B.len bt_len (pa_cons (pv 1) pa_nil)) (pe_gv gM (by rfl)) (nomark _)) (pss_one (ps_raiseP rfl T hr (takes_of rfl rfl rfl rfl) (pa_cons pe_non pa_nil))) pss_nil)
    (pss_one (ps_ret (pv 1)))))), ?_⟩
  obtain ⟨dx, ha⟩ := id ra
  refine ⟨_, rfl, a, dx, _, rfl, ha, lk_no (by decide +kernel) (by decide +kernel), a, z, _, e, rfl, ra, by omega, hz, by rw [l34]; decide, by rw [q34]; exact List.cons_ne_nil _ _, fun _ H1 k1 r1 => ?_, fun hp => ?_⟩
  rotate_left
  · rw [q34, pre_one, decide_eq_true hh] at hp
    cases hp
  rw [l34] at r1
  obtain ⟨dx1, ha1⟩ := id r1
  refine ⟨_, rfl, a, dx1, _, rfl, ha1, lk_no (by decide +kernel) (by decide +kernel), a, z, _, e + 1, isSig, rfl, r1, by omega, hz, sigs, fun H2 k2 r2 => ?_⟩
  obtain ⟨wd, hwd⟩ : ∃ wd, ((tl z).drop (e + 1)).takeWhile isSig = wd := ⟨_, rfl⟩
  have hdw : ((tl z).drop (e + 1)).dropWhile isSig = (tl z).drop (e + 1 + wd.length) := by
    have := List.takeWhile_append_dropWhile (p := isSig) (l := (tl z).drop (e + 1))
    rw [hwd] at this
    have e1 : (tl z).drop (e + 1 + wd.length) = (wd ++ ((tl z).drop (e + 1)).dropWhile isSig).drop wd.length := by rw [this, List.drop_drop]
    rw [e1, List.drop_left]
  have hwl : e + 1 + wd.length ≤ z.length := by
    have h1 : wd.length ≤ ((tl z).drop (e + 1)).length := by rw [← hwd]; exact (List.takeWhile_sublist _).length_le
    rw [List.length_drop] at h1
    omega
  have k12 := k1.trans k2
  unfold rdStr at q
  rw [hwd, hdw] at q
  rw [hwd] at r2 ⊢
  obtain ⟨dx2, ha2⟩ := id r2
  refine ⟨_, rfl, a, dx2, _, rfl, ha2, lk_no (by decide +kernel) (by decide +kernel), a, z, _, e + 1 + wd.length, rfl, r2, hwl, hz, by rw [l34]; decide, by rw [q34]; exact List.cons_ne_nil _ _, fun hp H3 k3 r3 => ?_, fun hp => ?_⟩
  · rw [q34, pre_one] at hp
    have hh2 := of_decide_eq_true hp
    have hl2 := lt_of_head hh2
    rw [l34] at r3
    obtain ⟨rest, hrest⟩ : ∃ rest, (tl z).drop (e + 1 + wd.length) = 34 :: rest := by
      cases h : (tl z).drop (e + 1 + wd.length) with
      | nil => rw [h] at hh2; cases hh2
      | cons x r => rw [h] at hh2; cases hh2; exact ⟨r, rfl⟩
    have hrl : z.length - rest.length = e + 1 + wd.length + 1 := by
      have := congrArg List.length hrest
      rw [List.length_drop, List.length_cons] at this
      omega
    rw [hrest] at q
    have q : Res w C CP a z H Q E (if wd.length ≤ 4000 then some (.str ⟨wd.toArray⟩, rest) else none) := q
    have el : (⟨wd.toArray⟩ : Str).length = wd.length := by rw [TL.len_tl]
    refine ⟨_, rfl, _, _, rfl, ⟨by rw [el, sizeLine_eq]; omega, rfl⟩, _, _, rfl, rfl, _, rfl, ?_⟩
    refine ite2 (fun c => ?_) (fun c => ?_)
    · have c1 : (4000 : Int) < ((⟨wd.toArray⟩ : Str).length : Nat) := of_decide_eq_true c
      rw [el] at c1
      rw [if_neg (by omega)] at q
      exact ⟨_, rfl, fun d hd => q _ d ((k12.trans k3).trans (Kp.new hd)) upd_same⟩
    · have c1 : ¬ (4000 : Int) < ((⟨wd.toArray⟩ : Str).length : Nat) := of_decide_eq_false (Bool.eq_false_iff.mpr c)
      rw [el] at c1
      rw [if_pos (by omega)] at q
      exact ⟨_, rfl, q H3 _ (k12.trans k3) (by rw [hrl]; exact r3) (.str _)⟩
  · rw [q34, pre_one] at hp
    have hh2 := of_decide_eq_false hp
    have q : Res w C CP a z H Q E none := by
      cases h : (tl z).drop (e + 1 + wd.length) with
      | nil => rw [h] at q; exact q
      | cons x r =>
        rw [h] at q hh2
        split at q
        · rename_i heq
          cases heq
          exact absurd rfl hh2
        · exact q
    exact Bad.of q k12
/-- behind the sign -/
theorem whole_rest {w : World} {C CP a : Addr} {z : Str} {e e1 : Nat} {H H1 : Hp} {Q : VK} {E : XK} {neg : Bool}
    (q : Res w C CP a z H Q E (if badDigits neg ((behind ((tl z).drop e)).takeWhile isDig) = true then none else some (.int (numOf neg ((behind ((tl z).drop e)).takeWhile isDig)), (behind ((tl z).drop e)).dropWhile isDig)))
    (k1 : Kp a H H1) (hb : behind ((tl z).drop e) = (tl z).drop e1) (he1 : e1 ≤ z.length) {wd : Tx} (hwd : ((tl z).drop e1).takeWhile isDig = wd) {H2 : Hp} (k2 : Kp a H1 H2) (r2 : RAt C H2 a z (e1 + wd.length)) :
    (badDigits neg wd = true → ∀ d, H2 d = none → E (.ref CP) (some d) (upd H2 d (.xd [(("spot" : Str), V.non)]))) ∧ (badDigits neg wd = false → Q (.int (numOf neg wd)) H2) := by
  have hlz := TL.len_tl z
  have hdw : ((tl z).drop e1).dropWhile isDig = (tl z).drop (e1 + wd.length) := by
    have := List.takeWhile_append_dropWhile (p := isDig) (l := (tl z).drop e1)
    rw [hwd] at this
    have e2 : (tl z).drop (e1 + wd.length) = (wd ++ ((tl z).drop e1).dropWhile isDig).drop wd.length := by rw [this, List.drop_drop]
    rw [e2, List.drop_left]
  have hwl : e1 + wd.length ≤ z.length := by
    have h1 : wd.length ≤ ((tl z).drop e1).length := by rw [← hwd]; exact (List.takeWhile_sublist _).length_le
    rw [List.length_drop] at h1
    omega
  rw [hb, hwd, hdw] at q
  refine ⟨fun h d hd => ?_, fun h => ?_⟩
  · rw [if_pos h] at q
    exact q _ d ((k1.trans k2).trans (Kp.new hd)) upd_same
  · rw [h, if_neg Bool.false_ne_true] at q
    refine q H2 _ (k1.trans k2) ?_ (.int _)
    have : z.length - ((tl z).drop (e1 + wd.length)).length = e1 + wd.length := by rw [List.length_drop]; omega
    rw [this]
    exact r2
theorem ok_whole (D : Mt K C "whole" "Reading.whole" (rdSt 9) ["self"] f fd) (R : Rc K mg C) (B : Bn mg) (hnd : base.NoDigits) (T : PTxt P K mg CP fI) (Tk : Mt K C "take" "Reading.take" (rdSt 3) ["self", "word"] g gd) (Rw : Mt K C "row_of" "Reading.row_of" (rdSt 4) ["self", "signs"] g1 gd1) (Hs : Mt K C "has" "Reading.has" (rdSt 2) ["self", "word"] g2 gd2)
    (gD : Gv mg "DIGITS" (.str "0123456789")) (gM : Gv mg "MOST_TEXT" (.int 4000))
    (GH : FnOk P w K mg base CX0 1 g2 gd2 ["self", "word"] (spRHas C)) (GT : FnOk P w K mg base (L2.CX P w) 2 g gd ["self", "word"] (spTake C CP)) (GR : FnOk P w K mg base CX0 3 g1 gd1 ["self", "signs"] (spRow C)) : FnOk P w K mg base (L2.CX P w) 4 f fd ["self"] (spWhole w C CP) := by
  refine D.F.okX scWhole (fun vs H Q E h => ?_) (fun cdv A outer s H vs Q E hr h => ?_)
  · obtain ⟨a, z, e, rfl, _⟩ := h
    rfl
  obtain ⟨a, z, e, rfl, ra, he, hz, q⟩ := h
  have nd := scWhole.nd
  have hlz := TL.len_tl z
  refine ⟨_, pss_cons (ps_set (i := 1) nd rfl (.inl rfl) (pe_meth (pv 0) R.cl Hs.m GH (hr.mono (by decide)) Hs.b .nil pass0 (pa_cons pe_str pa_nil)))
    (pss_cons (ps_if (pt_val (pv 1)) (pss_one (ps_expr (pe_meth (pv 0) R.cl Tk.m GT (hr.mono (by decide)) Tk.b .nil (passes_call (takes_of rfl rfl rfl rfl) (fun _ _ _ _ h => h)) (pa_cons pe_str pa_nil)))) pss_nil)
    (pss_cons (ps_set (i := 2) nd rfl (.inl rfl) (pe_meth (pv 0) R.cl Rw.m GR hr Rw.b .nil pass0 (pa_cons (pe_gv gD (by rfl)) pa_nil)))
    (pss_cons (ps_if (pw_or (pt_cmpR op_eq (pv 2) pe_str (nomark _)) (pw_or (pt_cmpR op_gt (pe_callB call_len (by rfl) B.len bt_len (pa_cons (pv 2) pa_nil)) (pe_gv gM (by rfl)) (nomark _))
        (pw_or1 (pw_and (pt_cmpR op_eq (pe_ix ix_str (pv 2) pe_int (fun _ _ => rfl)) pe_str (nomark _)) (pw_and1 (pw_or (pt_val (pv 1)) (pw_or1 (pt_cmpR op_gt (pe_callB call_len (by rfl) B.len bt_len (pa_cons (pv 2) pa_nil)) pe_int (nomark _)))).pt)).pt))).pt
        (pss_one (ps_raiseP rfl T hr (takes_of rfl rfl rfl rfl) (pa_cons pe_non pa_nil))) pss_nil)
    (pss_one (ps_ret (pe_ifExp (pt_val (pv 1)) (pe_un un_neg (pe_callTy (call_int_big hnd) (by rfl) B.int bt_int (pa_cons (pv 2) pa_nil))) (pe_callTy (call_int_big hnd) (by rfl) B.int bt_int (pa_cons (pv 2) pa_nil)))))))), ?_⟩
  obtain ⟨dx, ha⟩ := id ra
  have q45 : tl (Str.ofString "-") = [45] := by decide +kernel
  have l45 : (Str.ofString "-").length = 1 := by decide +kernel
  refine ⟨_, rfl, a, dx, _, rfl, ha, lk_no (by decide +kernel) (by decide +kernel), a, z, _, e, rfl, ra, he, by rw [q45]; exact List.cons_ne_nil _ _, ?_⟩
  rw [q45]
  obtain ⟨neg, hneg⟩ : ∃ neg, pre [45] ((tl z).drop e) = neg := ⟨_, rfl⟩
  rw [hneg]
  have hng : negOf ((tl z).drop e) = neg := by
    rw [← hneg, pre_one]
    unfold negOf
    rw [Bool.eq_iff_iff]
    simp
  unfold rdInt at q
  rw [hng] at q
  refine ⟨_, rfl, neg, rfl, ?_⟩
  refine ite2 (fun hc => ?ga) (fun hc => ?gb)
  case' ga =>
    have hh : ((tl z).drop e).head? = some 45 := by
      rw [pre_one, hc] at hneg
      exact of_decide_eq_true hneg
    have hle := lt_of_head hh
    refine ⟨_, rfl, a, dx, _, rfl, ha, lk_no (by decide +kernel) (by decide +kernel), a, z, _, e, rfl, ra, he, hz, by rw [l45]; decide, by rw [q45]; exact List.cons_ne_nil _ _, fun _ H1 k1 r1 => ?gm, fun hp => ?gx⟩
    case gx =>
      rw [q45, hneg, hc] at hp
      cases hp
    rw [l45] at r1
    have hb : behind ((tl z).drop e) = (tl z).drop (e + 1) := by
      unfold behind
      rw [hng, hc, if_pos rfl, List.drop_drop]
    have he1 : e + 1 ≤ z.length := by omega
    obtain ⟨e1, hee⟩ : ∃ e1, e1 = e + 1 := ⟨_, rfl⟩
    rw [← hee] at r1 hb he1
  case' gb =>
    have hb : behind ((tl z).drop e) = (tl z).drop e := by
      unfold behind
      rw [hng, if_neg hc]
    have k1 := Kp.refl a H
    have r1 := ra
    have he1 := he
    obtain ⟨e1, hee⟩ : ∃ e1, e1 = e := ⟨_, rfl⟩
    have hb : behind ((tl z).drop e) = (tl z).drop e1 := by rw [hee]; exact hb
    rw [← hee] at r1 he1
  all_goals
    obtain ⟨dx1, ha1⟩ := id r1
    refine ⟨_, rfl, a, dx1, _, rfl, ha1, lk_no (by decide +kernel) (by decide +kernel), a, z, _, e1, isDig, rfl, r1, he1, hz, digs, fun H2 k2 r2 => ?_⟩
    obtain ⟨wd, hwd⟩ : ∃ wd, ((tl z).drop e1).takeWhile isDig = wd := ⟨_, rfl⟩
    rw [hwd] at r2 ⊢
    have hwl : wd.length ≤ z.length := by
      have h1 : wd.length ≤ ((tl z).drop e1).length := by rw [← hwd]; exact (List.takeWhile_sublist _).length_le
      rw [List.length_drop] at h1
      omega
    have wall : ∀ c ∈ wd, isDig c = true := fun c hc => by
      rw [← hwd] at hc
      exact List.all_eq_true.mp (List.all_takeWhile) c hc
    obtain ⟨cold, good⟩ := whole_rest q k1 hb he1 hwd k2 r2
    have el : (⟨wd.toArray⟩ : Str).length = wd.length := by rw [TL.len_tl]
    have hyl : (⟨wd.toArray⟩ : Str).length ≤ sizeLine := by rw [el, sizeLine_eq]; omega
    refine ⟨_, rfl, rfl, _, rfl, ?_⟩
    cases hw0 : wd with
    | nil =>
      refine ite_tt' ⟨_, rfl, fun d hd => cold (by rw [hw0]; rfl) d hd⟩
    | cons c0 r0 =>
      rw [← hw0]
      have e0 : decide (V.str ⟨wd.toArray⟩ = V.str (Str.ofString "")) = false := by
        rw [dec_tl]
        show decide (wd = []) = false
        rw [hw0]
        rfl
      have bad : badDigits neg wd = (decide (4000 < wd.length) || (decide (c0 = 48) && (neg || decide (1 < wd.length)))) := by
        rw [hw0]
        exact bad_cons neg c0 r0
      refine ite2 (fun c => ?_) (fun _ => ?_)
      · rw [e0] at c; cases c
      refine ⟨_, rfl, _, _, rfl, ⟨hyl, rfl⟩, _, _, rfl, rfl, _, rfl, ?_⟩
      refine ite2 (fun c1 => ?_) (fun c1 => ?_)
      · have c1 : (4000 : Int) < ((⟨wd.toArray⟩ : Str).length : Nat) := of_decide_eq_true c1
        rw [el] at c1
        exact ⟨_, rfl, fun d hd => cold (by rw [bad, decide_eq_true (show 4000 < wd.length by omega), Bool.true_or]) d hd⟩
      have c1 : ¬ (4000 : Int) < ((⟨wd.toArray⟩ : Str).length : Nat) := of_decide_eq_false (Bool.eq_false_iff.mpr c1)
      rw [el] at c1
      rw [decide_eq_false (show ¬ 4000 < wd.length by omega), Bool.false_or] at bad
      have e48 : decide (V.str ⟨#[c0]⟩ = V.str (Str.ofString "0")) = decide (c0 = 48) := by
        rw [dec_tl]
        show decide ([c0] = [48]) = _
        rw [Bool.eq_iff_iff]; simp
      have had : badDigits neg wd = false → (NumText.AllDigits (tl (⟨wd.toArray⟩ : Str)) ∧ tl (⟨wd.toArray⟩ : Str) ≠ [] ∧ (⟨wd.toArray⟩ : Str).length ≤ 4300) := fun _ => ⟨fun c hc => of_isDig (wall c hc), by show wd ≠ []; rw [hw0]; exact List.cons_ne_nil _ _, by omega⟩
      refine ⟨_, rfl, _, _, c0, rfl, rfl, hyl, atI_nat (j := 0) (by show wd[0]? = _; rw [hw0]; rfl), rfl, _, rfl, ?_⟩
      refine ite2 (fun c2 => ?_) (fun c2 => ?_)
      · rw [← e48, c2, Bool.true_and] at bad
        refine ⟨_, rfl, neg, rfl, ?_⟩
        refine ite2 (fun c3 => ?_) (fun c3 => ?_)
        · exact ⟨_, rfl, fun d hd => cold (by rw [bad, c3, Bool.true_or]) d hd⟩
        refine ⟨_, rfl, _, _, rfl, ⟨hyl, rfl⟩, _, _, rfl, rfl, _, rfl, ?_⟩
        refine ite2 (fun c4 => ?_) (fun c4 => ?_)
        · have c4 : (1 : Int) < ((⟨wd.toArray⟩ : Str).length : Nat) := of_decide_eq_true c4
          rw [el] at c4
          exact ⟨_, rfl, fun d hd => cold (by rw [bad, decide_eq_true (show 1 < wd.length by omega), Bool.or_true]) d hd⟩
        have c4 : ¬ (1 : Int) < ((⟨wd.toArray⟩ : Str).length : Nat) := of_decide_eq_false (Bool.eq_false_iff.mpr c4)
        rw [el] at c4
        have gd : badDigits neg wd = false := by rw [bad, Bool.eq_false_iff.mpr c3, decide_eq_false (show ¬ 1 < wd.length by omega)]; rfl
        obtain ⟨t1, t2, t3⟩ := had gd
        have g := good gd
        refine ⟨_, rfl, neg, rfl, ?_⟩
        refine ite2 (fun c5 => ?_) (fun c5 => ?_)
        · refine ⟨_, rfl, _, rfl, t1, t2, t3, _, rfl, ?_⟩
          rw [c5] at g
          exact g
        · refine ⟨_, rfl, _, rfl, t1, t2, t3, ?_⟩
          rw [Bool.eq_false_iff.mpr c5] at g
          exact g
      · have gd : badDigits neg wd = false := by rw [bad, ← e48, Bool.eq_false_iff.mpr c2, Bool.false_and]
        obtain ⟨t1, t2, t3⟩ := had gd
        have g := good gd
        refine ⟨_, rfl, neg, rfl, ?_⟩
        refine ite2 (fun c5 => ?_) (fun c5 => ?_)
        · refine ⟨_, rfl, _, rfl, t1, t2, t3, _, rfl, ?_⟩
          rw [c5] at g
          exact g
        · refine ⟨_, rfl, _, rfl, t1, t2, t3, ?_⟩
          rw [Bool.eq_false_iff.mpr c5] at g
          exact g
end
end K15
end

section
set_option Elab.async false
set_option linter.all false
set_option maxRecDepth 100000
set_option pp.maxSteps 900
namespace K15
open PySem PySem.Spec PyProof.Rows L2 TL

theorem Kp.updN {a p : Addr} {H H1 : Hp} {o : HO} (k : Kp a H H1) (h : H p = none) : Kp a H (L2.upd H1 p o) := fun b u hb ho => by
  rw [upd_ne (ne_of_none ho h)]
  exact k b u hb ho
theorem RAt.upd {C : Addr} {H : Hp} {a p : Addr} {z : Str} {e : Nat} {o : HO} (r : RAt C H a z e) (h : p ≠ a) : RAt C (L2.upd H p o) a z e := by
  obtain ⟨dx, x⟩ := r
  exact ⟨dx, by rw [upd_ne (Ne.symm h)]; exact x⟩
def spRVal (w : World) (C CP : Addr) (n : Nat) : Sp := fun vs H Q E => ∃ (a : Addr) (z : Str) (e left m : Nat), vs = [.ref a, .int left] ∧ left < n ∧ left ≤ 30 ∧ left ≤ m ∧ RAt C H a z e ∧ e ≤ z.length ∧ z.length < 2 ^ 22 ∧ Res w C CP a z H Q E (rd m left ((tl z).drop e))
def spMem (w : World) (C CP : Addr) (c n : Nat) : Sp := fun vs H Q E => ∃ (a : Addr) (z : Str) (e left m : Nat), vs = [.ref a, .int left] ∧ left < n ∧ left ≤ 30 ∧ left ≤ m ∧ RAt C H a z e ∧ z.length < 2 ^ 22 ∧ ((tl z).drop e).head? = some c ∧ Res w C CP a z H Q E (rd m left ((tl z).drop e))
theorem scRVal : FnScope ["self", "left"] ["self", "left"] (defScope (rdSt 5)) := ⟨rfl, rfl, rfl, by decide +kernel, rfl, by decide +kernel, by decide +kernel⟩
theorem scMem : FnScope ["self", "left", "found"] ["self", "left"] (defScope (rdSt 7)) := ⟨rfl, rfl, rfl, by decide +kernel, rfl, by decide +kernel, by decide +kernel⟩
theorem scPairs : FnScope ["self", "left", "found", "last", "begin", "key", "told"] ["self", "left"] (defScope (rdSt 8)) := ⟨rfl, rfl, rfl, by decide +kernel, rfl, by decide +kernel, by decide +kernel⟩
theorem head_drop {s : Tx} {e c : Nat} (h : (s.drop e).head? = some c) : s.drop e = c :: s.drop (e + 1) := by
  have hl := lt_of_head h
  rw [List.head?_drop] at h
  rw [List.drop_eq_getElem_cons hl]
  congr 1
  exact (List.getElem?_eq_some_iff.mp h).2
/-- members: between the turns -/
def MemI (w : World) (C a lp : Addr) (z : Str) (l' m' : Nat) (R0 : Option (PyData × Tx)) (H : Hp) (M : Nat) (σ : St) (H' : Hp) : Prop :=
  ∃ (e1 : Nat) (xs : List V) (ds : List PyData) (mk : List Tx), σ = [some (.ref a), some (.int ((l' + 1 : Nat) : Int)), some (.ref lp)] ∧ M = z.length - e1 ∧ e1 ≤ z.length ∧ RAt C H' a z e1 ∧ DI (rd m' (min l' 6)) (rd m' l') R0 (tl z) false e1 ds mk ∧ Ats w H' xs ds ∧ H' lp = some (.lst xs) ∧ ds.length ≤ e1 ∧ Kp a H H'
section
variable {P : Program} {w : World} {K : PySem.W.Frag} {mg : Str → Option Value} {base : Heap} {f t h v g : Addr} {fd td hd vd gd : FuncData} {C CP fI : Addr}
theorem ok_mem1 {n : Nat} (D : Mt K C "members" "Reading.members" (rdSt 7) ["self", "left"] f fd) (R : Rc K mg C) (B : Bn mg) (T : PTxt P K mg CP fI) (Tk : Mt K C "take" "Reading.take" (rdSt 3) ["self", "word"] t td) (Hs : Mt K C "has" "Reading.has" (rdSt 2) ["self", "word"] h hd) (Vl : Mt K C "value" "Reading.value" (rdSt 5) ["self", "left"] v vd)
    (GH : FnOk P w K mg base CX0 1 h hd ["self", "word"] (spRHas C)) (GT : FnOk P w K mg base (L2.CX P w) 2 t td ["self", "word"] (spTake C CP)) (GV : FnOk P w K mg base (L2.CX P w) (2 * n + 41) v vd ["self", "left"] (spRVal w C CP n)) :
    FnOk P w K mg base (L2.CX P w) (2 * n + 42) f fd ["self", "left"] (spMem w C CP 40 (n + 1)) := by
  refine D.F.okX scMem (fun vs H Q E h => ?_) (fun cdv A outer s H vs Q E hr h => ?_)
  · obtain ⟨a, z, e, left, m, rfl, _⟩ := h
    rfl
  obtain ⟨a, z, e, left, m, rfl, hl, h30, hm, ra, hz, hh, q⟩ := h
  have nd := scMem.nd
  have hlz := TL.len_tl z
  have hle := lt_of_head hh
  have q40 : tl (Str.ofString "(") = [40] := by decide +kernel
  have l40 : (Str.ofString "(").length = 1 := by decide +kernel
  have q41 : tl (Str.ofString ")") = [41] := by decide +kernel
  have l41 : (Str.ofString ")").length = 1 := by decide +kernel
  have q32 : tl (Str.ofString " ") = [32] := by decide +kernel
  have l32 : (Str.ofString " ").length = 1 := by decide +kernel
  refine ⟨_, pss_cons (ps_if (pt_cmpR op_eq (pv 1) pe_int (nomark _)) (pss_one (ps_raiseP rfl T hr (takes_of rfl rfl rfl rfl) (pa_cons pe_non pa_nil))) pss_nil)
    (pss_cons (ps_expr (pe_meth (pv 0) R.cl Tk.m GT (hr.mono (by omega)) Tk.b .nil (passes_call (takes_of rfl rfl rfl rfl) (fun _ _ _ _ h => h)) (pa_cons pe_str pa_nil)))
    (pss_cons (ps_set (i := 2) nd rfl (.inl rfl) (pe_lst pa_nil))
    (pss_cons (ps_while (passes_of rfl) (pt_not (pt_val (pe_meth (pv 0) R.cl Hs.m GH (hr.mono (by omega)) Hs.b .nil pass0 (pa_cons pe_str pa_nil))))
      (pss_cons (ps_if (pt_cmpR (op_ne_nil (by exact hr.units)) (pv 2) (pe_lst pa_nil) (nomark _))
        (pss_one (ps_expr (pe_meth (pv 0) R.cl Tk.m GT (hr.mono (by omega)) Tk.b .nil (passes_call (takes_of rfl rfl rfl rfl) (fun _ _ _ _ h => h)) (pa_cons pe_str pa_nil)))) pss_nil)
      (pss_one (ps_expr (pe_bm PySem.F.plainAttrs_list PySem.F.slot_list_append PySem.F.type_list_append mt_append (pv 2) (pa_cons (pe_meth (pv 0) R.cl Vl.m GV hr Vl.b .nil (passes_call (takes_of rfl rfl rfl rfl) (fun _ _ _ _ h => h)) (pa_cons (pe_op op_sub (pv 1) pe_int) pa_nil)) pa_nil))))))
    (pss_cons (ps_expr (pe_meth (pv 0) R.cl Tk.m GT (hr.mono (by omega)) Tk.b .nil (passes_call (takes_of rfl rfl rfl rfl) (fun _ _ _ _ h => h)) (pa_cons pe_str pa_nil)))
    (pss_one (ps_ret (pe_callTy call_tuple_of (by rfl) B.tuple bt_tuple (pa_cons (pv 2) pa_nil)))))))), ?_⟩
  refine ⟨_, rfl, rfl, _, rfl, ?_⟩
  refine ite2 (fun c => ?_) (fun c => ?_)
  · have h0 : left = 0 := by
      have : V.int (left : Nat) = V.int 0 := of_decide_eq_true c
      injection this with this
      omega
    subst h0
    have er : rd m 0 ((tl z).drop e) = none := by rw [head_drop hh]; exact rd_par0 m _
    rw [er] at q
    exact ⟨_, rfl, fun d hd => q _ d (Kp.new hd) upd_same⟩
  have h1l : left ≠ 0 := fun q => by
    have : ¬ V.int (left : Nat) = V.int 0 := of_decide_eq_false (Bool.eq_false_iff.mpr c)
    exact this (by rw [q]; rfl)
  obtain ⟨l', rfl⟩ : ∃ l', left = l' + 1 := ⟨left - 1, by omega⟩
  obtain ⟨m', rfl⟩ : ∃ m', m = m' + 1 := ⟨m - 1, by omega⟩
  obtain ⟨R0, hR0⟩ : ∃ R0, rd (m' + 1) (l' + 1) ((tl z).drop e) = R0 := ⟨_, rfl⟩
  rw [hR0] at q
  have start : DI (rd m' (min l' 6)) (rd m' l') R0 (tl z) false (e + 1) [] [] := by
    rw [← hR0, head_drop hh, rd_par]
    exact DI.start_tup rfl (by rw [List.length_drop]; omega)
  obtain ⟨dx, ha⟩ := id ra
  refine ⟨_, rfl, a, dx, _, rfl, ha, lk_no (by decide +kernel) (by decide +kernel), a, z, _, e, rfl, ra, by omega, hz, by rw [l40]; decide, by rw [q40]; exact List.cons_ne_nil _ _, fun _ H1 k1 r1 => ?_, fun hp => ?_⟩
  rotate_left
  · rw [q40, pre_one, decide_eq_true hh] at hp
    cases hp
  rw [l40] at r1
  refine ⟨(by show 0 ≤ sizeLine; decide), fun lp hlp => ?_⟩
  have hpa : lp ≠ a := r1.ne hlp
  have hlp0 : H lp = none := by
    cases hh2 : H lp with
    | none => rfl
    | some o =>
      have := k1 lp o hpa hh2
      rw [this] at hlp; cases hlp
  refine ⟨MemI w C a lp z l' m' R0 H,
    ⟨_, e + 1, [], [], [], rfl, rfl, by omega, r1.upd hpa, start, .nil, upd_same, Nat.zero_le _, k1.updN hlp0⟩, ?_⟩
  rintro M σ H' ⟨e1, xs, ds, mk, rfl, rfl, he1, r2, hD, hA, hL, hde, k2⟩
  obtain ⟨dx2, ha2⟩ := id r2
  have bad : R0 = none → ∀ H3, Kp a H H3 → Bad CP a H3 E := fun q0 H3 k3 => by
    rw [q0] at q
    exact Bad.of q k3
  refine ⟨_, rfl, a, dx2, _, rfl, ha2, lk_no (by decide +kernel) (by decide +kernel), a, z, _, e1, rfl, r2, he1, by rw [q41]; exact List.cons_ne_nil _ _, _, rfl, ?_⟩
  rw [q41, pre_one]
  by_cases hcl : ((tl z).drop e1).head? = some 41
  · rw [decide_eq_true hcl]
    refine ite_ff' ?_
    have hR := hD.fin_tup hcl
    rw [hR] at q
    have hl1 := lt_of_head hcl
    refine ⟨_, rfl, a, dx2, _, rfl, ha2, lk_no (by decide +kernel) (by decide +kernel), a, z, _, e1, rfl, r2, he1, hz, by rw [l41]; decide, by rw [q41]; exact List.cons_ne_nil _ _, fun _ H3 k3 r3 => ?_, fun hp => ?_⟩
    rotate_left
    · rw [q41, pre_one, decide_eq_true hcl] at hp
      cases hp
    rw [l41] at r3
    have hL3 := k3 _ _ hpa hL
    refine ⟨_, rfl, lp, xs, rfl, .inl ⟨SqL.of hL3, fun tp htp => ?_⟩⟩
    refine q _ _ ((k2.trans k3).trans (Kp.new htp)) ?_ (.tup upd_same ((hA.keep (r2.keep k3)).keep (Keep.new htp)))
    have : z.length - ((tl z).drop (e1 + 1)).length = e1 + 1 := by rw [List.length_drop]; omega
    rw [this]
    exact r3.upd (r3.ne htp)
  rw [decide_eq_false hcl]
  refine ite_tt' ?_
  refine ⟨fun σ' H'' => ∃ M', M' < z.length - e1 ∧ MemI w C a lp z l' m' R0 H M' σ' H'', fun _ _ h => h, ?_⟩
  have hlen := hA.length
  have hpe : xs.isEmpty = ds.isEmpty := by
    cases xs <;> cases ds <;> first | rfl | (simp at hlen)
  refine ⟨_, rfl, (by show 0 ≤ sizeLine; decide), fun l0 hl0 => ⟨lp, l0, xs, rfl, rfl, SqL.of (by rw [upd_ne (ne_of_none hL hl0)]; exact hL), SqL.of upd_same, _, rfl, ?_⟩⟩
  have s4 : Same H' (upd H' l0 (.lst [])) := Same.new hl0
  have k4 : Kp a H (upd H' l0 (.lst [])) := k2.trans (Kp.of_same s4)
  have r4 := r2.same s4
  have hA4 := hA.keep (Same.keep s4)
  have hL4 := s4 _ _ hL
  generalize upd H' l0 (.lst []) = H4 at k4 r4 hA4 hL4
  -- the turn, behind the blank
  have turn : ∀ H5, Kp a H4 H5 → RAt C H5 a z (beh e1 ds) → beh e1 ds ≤ z.length → (ds.isEmpty = true ∨ ((tl z).drop e1).head? = some 32) →
      ∀ Q' : VK, (∀ H6 y, H6 lp = some (.lst xs) → xs.length < sizeLine → (∃ M', M' < z.length - e1 ∧ MemI w C a lp z l' m' R0 H M' [some (.ref a), some (.int ((l' + 1 : Nat) : Int)), some (.ref lp)] (upd H6 lp (.lst (xs ++ [y])))) → Q' y H6) → spRVal w C CP n [.ref a, .int (((l' + 1 : Nat) : Int) - 1)] H5 Q' E := fun H5 k5 r5 hb5 hbl Q' hQ' => by
    refine ⟨a, z, beh e1 ds, l', m', by congr 2; congr 1; omega, by omega, by omega, by omega, r5, hb5, hz, ?_⟩
    cases hr0 : rd m' l' ((tl z).drop (beh e1 ds)) with
    | none => exact bad (hD.noRead hcl hbl (by rw [isKey_tup, if_neg Bool.false_ne_true]; exact hr0)) _ (k4.trans k5)
    | some dr =>
      obtain ⟨d, rest⟩ := dr
      obtain ⟨e2, g1, g2, g3, g4, g5, g6, g7, g8, g9⟩ := got_drop (by rw [← hlz]; exact hb5) hr0
      intro H6 y k6 r6 ay
      rw [hlz, g4] at r6
      have hL6 := k6 _ _ hpa (k5 _ _ hpa hL4)
      have hbe : e1 ≤ beh e1 ds := by unfold beh; split <;> omega
      have hD2 := hD.next hcl hbl (x := d) (e2 := e2) (by rw [isKey_tup, if_neg Bool.false_ne_true, hr0, g3]) g1 g2 (fun q => by rw [isKey_tup] at q; cases q)
      have km : Keep H6 (upd H6 lp (.lst (xs ++ [y]))) := Keep.mut (by rw [hL6]; trivial)
      refine hQ' H6 y hL6 (by rw [hlen, sizeLine_eq]; omega) ⟨z.length - e2, by omega, e2, xs ++ [y], ds ++ [d], _, rfl, rfl, by omega, r6.upd hpa, hD2, (((hA4.keep (r4.keep k5)).keep (r5.keep k6)).snoc ay).keep km, upd_same, by simp; omega, ((k4.trans k5).trans k6).updN hlp0⟩
  refine ite2 (fun c5 => ?_) (fun c5 => ?_)
  · have hne : ds.isEmpty = false := by
      rw [← hpe]
      cases h : xs.isEmpty with
      | false => rfl
      | true =>
        have c5 : (!xs.isEmpty) = true := c5
        rw [h] at c5; cases c5
    obtain ⟨dx4, ha4⟩ := id r4
    have hbe : beh e1 ds = e1 + 1 := by unfold beh; rw [hne]; rfl
    refine ⟨_, rfl, a, dx4, _, rfl, ha4, lk_no (by decide +kernel) (by decide +kernel), a, z, _, e1, rfl, r4, he1, hz, by rw [l32]; decide, by rw [q32]; exact List.cons_ne_nil _ _, fun hp H5 k5 r5 => ?_, fun hp => ?_⟩
    · rw [q32, pre_one] at hp
      have h32 := of_decide_eq_true hp
      have hl1 := lt_of_head h32
      rw [l32] at r5
      obtain ⟨dx5, ha5⟩ := id r5
      refine ⟨_, rfl, .inl ⟨rfl, _, SqL.of (k5 _ _ hpa hL4)⟩, _, rfl, a, dx5, _, rfl, ha5, lk_no (by decide +kernel) (by decide +kernel), _, rfl, _, _, rfl, rfl, ?_⟩
      exact turn H5 k5 (by rw [hbe]; exact r5) (by omega) (.inr h32) _ fun H6 y hL6 hs6 i6 => ⟨lp, xs, y, rfl, rfl, hL6, hs6, i6⟩
    · rw [q32, pre_one] at hp
      exact bad (hD.noBlank hcl hne (of_decide_eq_false hp)) _ k4
  · have hne : ds.isEmpty = true := by
      rw [← hpe]
      cases h : xs.isEmpty with
      | true => rfl
      | false =>
        have c5 : ¬ (!xs.isEmpty) = true := c5
        rw [h] at c5; exact absurd rfl c5
    have hbe : beh e1 ds = e1 := by unfold beh; rw [hne]; rfl
    obtain ⟨dx4, ha4⟩ := id r4
    refine ⟨_, rfl, .inl ⟨rfl, _, SqL.of hL4⟩, _, rfl, a, dx4, _, rfl, ha4, lk_no (by decide +kernel) (by decide +kernel), _, rfl, _, _, rfl, rfl, ?_⟩
    exact turn H4 (Kp.refl _ _) (by rw [hbe]; exact r4) (by omega) (.inl hne) _ fun H6 y hL6 hs6 i6 => ⟨lp, xs, y, rfl, rfl, hL6, hs6, i6⟩
end
end K15
end

section
set_option Elab.async false
set_option linter.all false
set_option maxRecDepth 100000
set_option pp.maxSteps 900
namespace K15
open PySem PySem.Spec PyProof.Rows L2 TL

def lastV : Option Tx → V
  | none => .non
  | some t => .str ⟨t.toArray⟩
/-- pairs: between the turns -/
def PairI (w : World) (C a F : Addr) (z : Str) (l' m' : Nat) (R0 : Option (PyData × Tx)) (H : Hp) (M : Nat) (σ : St) (H' : Hp) : Prop :=
  ∃ (e1 : Nat) (kvs : List (PyData × PyData)) (es : List En) (last : Option Tx) (n : Nat) (o4 o5 o6 : Option V), σ = [some (.ref a), some (.int ((l' + 1 : Nat) : Int)), some (.ref F), some (lastV last), o4, o5, o6] ∧ M = z.length - e1 ∧ e1 ≤ z.length ∧ RAt C H' a z e1 ∧
    rdPairs (rd m' (min l' 6)) (rd m' l') n kvs last ((tl z).drop e1) = R0 ∧ z.length - e1 < n ∧ H' F = some (Bld w F es) ∧ AtKv w H' es kvs ∧ KeysOk kvs ∧ okKv kvs = true ∧ (∀ e ∈ kvs, ∃ l, last = some l ∧ ¬ l < txt e.1) ∧ kvs.length ≤ e1 ∧ Kp a H H'
theorem pair_test {ta : TT} {σ : St} {H : Hp} {Q : Bool → Hp → Prop} {c : Bool} {last : Option Tx} {td : Tx} (ha : ∀ R : Bool → Hp → Prop, (∀ H4, Same H H4 → R c H4) → ta σ H R) (h3 : σ[3]? = some (some (lastV last))) (h6 : σ[6]? = some (some (.str ⟨td.toArray⟩))) (q : ∀ H4, Same H H4 → Q (c || !ltOpt last td) H4) :
    tOr ta (tAnd (tTest (tOp (fun x y H Q => y = .non ∧ Q (.bl (!decide (x = .non))) H) (tVar 3) (tC .non))) (tTest (tOp rLeS (tVar 6) (tVar 3)))) σ H Q := by
  refine ha _ fun H4 s4 => ?_
  have q := q H4 s4
  cases c with
  | true => exact q
  | false =>
    refine ite_ff' ⟨_, h3, rfl, _, rfl, ?_⟩
    cases last with
    | none => exact q
    | some l => exact ⟨_, h6, _, h3, _, _, rfl, rfl, _, rfl, q⟩
theorem pair_if {ta : TT} {t1 t2 u : TS} {D : Ends} {σ : St} {H : Hp} {c : Bool} {last : Option Tx} {td : Tx} (ha : ∀ R : Bool → Hp → Prop, (∀ H4, Same H H4 → R c H4) → ta σ H R) (h3 : σ[3]? = some (some (lastV last))) (h6 : σ[6]? = some (some (.str ⟨td.toArray⟩)))
    (q : ∀ H4, Same H H4 → if (c || !ltOpt last td) = true then t1 { D with nx := u D } σ H4 else t2 { D with nx := u D } σ H4) :
    tSeq (tIfS (tOr ta (tAnd (tTest (tOp (fun x y H Q => y = .non ∧ Q (.bl (!decide (x = .non))) H) (tVar 3) (tC .non))) (tTest (tOp rLeS (tVar 6) (tVar 3))))) t1 t2) u D σ H :=
  pair_test (Q := fun b H4 => if b = true then t1 { D with nx := u D } σ H4 else t2 { D with nx := u D } σ H4) ha h3 h6 q
theorem putD_new {k v : PyData} : ∀ {kvs : List (PyData × PyData)}, keyOf k ∉ kvs.map (fun e => keyOf e.1) → putD k v kvs = kvs ++ [(k, v)]
  | [], _ => rfl
  | (k2, v2) :: r, h => by
    rw [List.map_cons, List.mem_cons, not_or] at h
    unfold putD
    have hne : ¬ ((keyOf (k2, v2).1).beq (keyOf k)) = true := fun e => h.1 (NestedKey.eq_of_beq _ _ e).symm
    rw [if_neg hne, putD_new h.2]
    rfl
theorem okKv_snoc {kvs : List (PyData × PyData)} {k v : PyData} (h : okKv kvs = true) (h1 : okD k = true) (h2 : hasD k = false) (h3 : okD v = true) : okKv (kvs ++ [(k, v)]) = true := by
  rw [okKv_all, List.all_append, ← okKv_all, h]
  simp [h1, h2, h3]
section
variable {P : Program} {w : World} {K : PySem.W.Frag} {mg : Str → Option Value} {base : Heap} {f t h v g : Addr} {fd td hd vd gd : FuncData} {C CP fI : Addr}
theorem ok_pairs1 {n : Nat} (D : Mt K C "pairs" "Reading.pairs" (rdSt 8) ["self", "left"] f fd) (R : Rc K mg C) (B : Bn mg) (T : PTxt P K mg CP fI) (Tk : Mt K C "take" "Reading.take" (rdSt 3) ["self", "word"] t td) (Hs : Mt K C "has" "Reading.has" (rdSt 2) ["self", "word"] h hd) (Vl : Mt K C "value" "Reading.value" (rdSt 5) ["self", "left"] v vd) (Hd : Df K mg "has_dict" sHas ["value"] g gd)
    (gK : Gv mg "MOST_KEY" (.int 6)) (GH : FnOk P w K mg base CX0 1 h hd ["self", "word"] (spRHas C)) (GT : FnOk P w K mg base (L2.CX P w) 2 t td ["self", "word"] (spTake C CP)) (GD : FnOk P w K mg base CX0 40 g gd ["value"] (spHas w 40)) (GV : FnOk P w K mg base (L2.CX P w) (2 * n + 41) v vd ["self", "left"] (spRVal w C CP n)) :
    FnOk P w K mg base (L2.CX P w) (2 * n + 42) f fd ["self", "left"] (spMem w C CP 123 (n + 1)) := by
  refine D.F.okX scPairs (fun vs H Q E h => ?_) (fun cdv A outer s H vs Q E hr h => ?_)
  · obtain ⟨a, z, e, left, m, rfl, _⟩ := h
    rfl
  obtain ⟨a, z, e, left, m, rfl, hl, h30, hm, ra, hz, hh, q⟩ := h
  have nd := scPairs.nd
  have hlz := TL.len_tl z
  have hzs : z.length ≤ sizeLine := by rw [sizeLine_eq]; omega
  have hle := lt_of_head hh
  have q40 : tl (Str.ofString "{") = [123] := by decide +kernel
  have l40 : (Str.ofString "{").length = 1 := by decide +kernel
  have q41 : tl (Str.ofString "}") = [125] := by decide +kernel
  have l41 : (Str.ofString "}").length = 1 := by decide +kernel
  have q32 : tl (Str.ofString " ") = [32] := by decide +kernel
  have l32 : (Str.ofString " ").length = 1 := by decide +kernel
  refine ⟨_, pss_cons (ps_if (pt_cmpR op_eq (pv 1) pe_int (nomark _)) (pss_one (ps_raiseP rfl T hr (takes_of rfl rfl rfl rfl) (pa_cons pe_non pa_nil))) pss_nil)
    (pss_cons (ps_expr (pe_meth (pv 0) R.cl Tk.m GT (hr.mono (by omega)) Tk.b .nil (passes_call (takes_of rfl rfl rfl rfl) (fun _ _ _ _ h => h)) (pa_cons pe_str pa_nil)))
    (pss_cons (ps_par (i := 2) (j := 3) (by rfl) nd rfl rfl (by decide) rfl rfl (pa_cons pe_dnewR (pa_cons pe_non pa_nil)) (by rfl))
    (pss_cons (ps_while (passes_of rfl) (pt_not (pt_val (pe_meth (pv 0) R.cl Hs.m GH (hr.mono (by omega)) Hs.b .nil pass0 (pa_cons pe_str pa_nil))))
      (pss_cons (ps_if (pt_cmpR (op_neD0 (by exact hr.units)) (pv 2) pe_dnewR (nomark _))
        (pss_one (ps_expr (pe_meth (pv 0) R.cl Tk.m GT (hr.mono (by omega)) Tk.b .nil (passes_call (takes_of rfl rfl rfl rfl) (fun _ _ _ _ h => h)) (pa_cons pe_str pa_nil)))) pss_nil)
      (pss_cons (ps_set (i := 4) nd rfl (.inl rfl) (pe_fld (pv 0) rfl))
      (pss_cons (ps_set (i := 5) nd rfl (.inl rfl) (pe_meth (pv 0) R.cl Vl.m GV hr Vl.b .nil (passes_call (takes_of rfl rfl rfl rfl) (fun _ _ _ _ h => h)) (pa_cons (pe_callB (call_min2 (by rfl)) (by rfl) B.min bt_min (pa_cons (pe_op op_sub (pv 1) pe_int) (pa_cons (pe_gv gK (by rfl)) pa_nil))) pa_nil)))
      (pss_cons (ps_set (i := 6) nd rfl (.inl rfl) (pe_slice sl_str (pe_fld (pv 0) rfl) (po_some (pv 4)) (po_some (pe_fld (pv 0) rfl))))
      (pss_cons (ps_if (pw_or (pt_val (pe_call GD (hr.mono (by omega)) (by rfl) Hd.m Hd.F.kp Hd.b .nil pass0 (pa_cons (pv 5) pa_nil))) (pw_or1 (pw_and (pt_cmpR op_notN (pv 3) pe_non (nomark _)) (pw_and1 (pt_cmpR op_le_str (pv 6) (pv 3) (nomark _)))).pt)).pt
        (pss_one (ps_raiseP rfl T hr (takes_of rfl rfl rfl rfl) (pa_cons pe_non pa_nil))) pss_nil)
      (pss_cons (ps_expr (pe_meth (pv 0) R.cl Tk.m GT (hr.mono (by omega)) Tk.b .nil (passes_call (takes_of rfl rfl rfl rfl) (fun _ _ _ _ h => h)) (pa_cons pe_str pa_nil)))
      (pss_one (ps_asg (pe_tup (pa_cons (pe_meth (pv 0) R.cl Vl.m GV hr Vl.b .nil (passes_call (takes_of rfl rfl rfl rfl) (fun _ _ _ _ h => h)) (pa_cons (pe_op op_sub (pv 1) pe_int) pa_nil)) (pa_cons (pv 6) pa_nil)))
        (pg_tup (by rfl) (pgs_cons (pg_sub (pv 2) (pv 5) (set_putR (by exact hr.units))) (pgs_cons (pg_name (i := 3) nd rfl (Or.inl rfl)) pgs_nil))))))))))))
    (pss_cons (ps_expr (pe_meth (pv 0) R.cl Tk.m GT (hr.mono (by omega)) Tk.b .nil (passes_call (takes_of rfl rfl rfl rfl) (fun _ _ _ _ h => h)) (pa_cons pe_str pa_nil)))
    (pss_one (ps_ret (pe_seal (pv 2)))))))), ?_⟩
  refine ⟨_, rfl, rfl, _, rfl, ?_⟩
  refine ite2 (fun c => ?_) (fun c => ?_)
  · have h0 : left = 0 := by
      have : V.int (left : Nat) = V.int 0 := of_decide_eq_true c
      injection this with this
      omega
    subst h0
    have er : rd m 0 ((tl z).drop e) = none := by rw [head_drop hh]; exact rd_cur0 m _
    rw [er] at q
    exact ⟨_, rfl, fun d hd => q _ d (Kp.new hd) upd_same⟩
  have h1l : left ≠ 0 := fun q => by
    have : ¬ V.int (left : Nat) = V.int 0 := of_decide_eq_false (Bool.eq_false_iff.mpr c)
    exact this (by rw [q]; rfl)
  obtain ⟨l', rfl⟩ : ∃ l', left = l' + 1 := ⟨left - 1, by omega⟩
  obtain ⟨m', rfl⟩ : ∃ m', m = m' + 1 := ⟨m - 1, by omega⟩
  obtain ⟨R0, hR0⟩ : ∃ R0, rd (m' + 1) (l' + 1) ((tl z).drop e) = R0 := ⟨_, rfl⟩
  have hR1 := hR0
  rw [hR0] at q
  rw [head_drop hh, rd_cur] at hR0
  obtain ⟨dx, ha⟩ := id ra
  refine ⟨_, rfl, a, dx, _, rfl, ha, lk_no (by decide +kernel) (by decide +kernel), a, z, _, e, rfl, ra, by omega, hz, by rw [l40]; decide, by rw [q40]; exact List.cons_ne_nil _ _, fun _ H1 k1 r1 => ?_, fun hp => ?_⟩
  rotate_left
  · rw [q40, pre_one, decide_eq_true hh] at hp
    cases hp
  rw [l40] at r1
  refine fun F hF hsys => ⟨_, _, rfl, ?_⟩
  have hFa : F ≠ a := r1.ne hF
  have hF0 : H F = none := by
    cases hh2 : H F with
    | none => rfl
    | some o =>
      have := k1 F o hFa hh2
      rw [this] at hF; cases hF
  refine ⟨PairI w C a F z l' m' R0 H, ⟨_, e + 1, [], [], none, _, none, none, none, rfl, rfl, by omega, r1.upd hFa, hR0, by rw [List.length_drop]; omega, upd_same, .nil, keysOk_nil, rfl, fun _ z => (nomatch z), Nat.zero_le _, k1.updN hF0⟩, ?_⟩
  rintro M σ H' ⟨e1, kvs, es, last, n1, o4, o5, o6, rfl, rfl, he1, r2, hP, hn1, hFd, hA, hK, hok, hlast, hle1, k2⟩
  obtain ⟨dx2, ha2⟩ := id r2
  have bad : R0 = none → ∀ H3, Kp a H H3 → Bad CP a H3 E := fun q0 H3 k3 => by
    rw [q0] at q
    exact Bad.of q k3
  obtain ⟨n2, rfl⟩ : ∃ n2, n1 = n2 + 1 := ⟨n1 - 1, by omega⟩
  rw [rdPairs_succ] at hP
  refine ⟨_, rfl, a, dx2, _, rfl, ha2, lk_no (by decide +kernel) (by decide +kernel), a, z, _, e1, rfl, r2, he1, by rw [q41]; exact List.cons_ne_nil _ _, _, rfl, ?_⟩
  rw [q41, pre_one]
  by_cases hcl : ((tl z).drop e1).head? = some 125
  · rw [decide_eq_true hcl]
    refine ite_ff' ?_
    rw [if_pos hcl, List.drop_drop] at hP
    rw [← hP] at q
    have hl1 := lt_of_head hcl
    refine ⟨_, rfl, a, dx2, _, rfl, ha2, lk_no (by decide +kernel) (by decide +kernel), a, z, _, e1, rfl, r2, he1, hz, by rw [l41]; decide, by rw [q41]; exact List.cons_ne_nil _ _, fun _ H3 k3 r3 => ?_, fun hp => ?_⟩
    rotate_left
    · rw [q41, pre_one, decide_eq_true hcl] at hp
      cases hp
    rw [l41] at r3
    have hF3 := k3 _ _ hFa hFd
    refine ⟨_, rfl, F, es, rfl, hF3, fun o u ho => ?_⟩
    have km : Keep H3 (upd H3 F (.frz o u)) := Keep.mut (by rw [hF3]; trivial)
    refine q _ _ ((k2.trans k3).updN hF0) ?_ (.dic upd_same ho hsys ((hA.keep (r2.keep k3)).keep km))
    have : z.length - ((tl z).drop (e1 + 1)).length = e1 + 1 := by rw [List.length_drop]; omega
    rw [this]
    exact r3.upd hFa
  rw [decide_eq_false hcl]
  rw [if_neg hcl] at hP
  refine ite_tt' ?_
  refine ⟨fun σ' H'' => ∃ M', M' < z.length - e1 ∧ PairI w C a F z l' m' R0 H M' σ' H'', fun _ _ h => h, ?_⟩
  have hlen := hA.length
  have hpe : es.isEmpty = kvs.isEmpty := by
    cases es <;> cases kvs <;> first | rfl | (simp at hlen)
  refine ⟨_, rfl, fun p0 hp0 hs0 => ⟨F, p0, es, rfl, rfl, by rw [upd_ne (ne_of_none hFd hp0)]; exact hFd, upd_same, hsys, hs0, _, rfl, ?_⟩⟩
  have s4 : Same H' (upd H' p0 (Bld w p0 [])) := Same.new hp0
  have k4 : Kp a H (upd H' p0 (Bld w p0 [])) := k2.trans (Kp.of_same s4)
  have r4 := r2.same s4
  have hA4 := hA.keep (Same.keep s4)
  have hF4 := s4 _ _ hFd
  obtain ⟨dx4, ha4⟩ := id r4
  refine ite2 (fun c5 => ?ga) (fun c5 => ?gb)
  case' ga =>
    have hne : kvs.isEmpty = false := by
      rw [← hpe]
      cases h : es.isEmpty with
      | false => rfl
      | true =>
        have c5 : (!es.isEmpty) = true := c5
        rw [h] at c5; cases c5
    refine ⟨_, rfl, a, dx4, _, rfl, ha4, lk_no (by decide +kernel) (by decide +kernel), a, z, _, e1, rfl, r4, he1, hz, by rw [l32]; decide, by rw [q32]; exact List.cons_ne_nil _ _, fun hp H5 k45 r5 => ?gm, fun hp => ?gx⟩
    case gx =>
      rw [q32, pre_one] at hp
      rw [blank_no hne (of_decide_eq_false hp)] at hP
      exact bad hP.symm _ k4
    rw [q32, pre_one] at hp
    have h32 := of_decide_eq_true hp
    have hl1 := lt_of_head h32
    rw [l32] at r5
    have k5 := k4.trans k45
    have hA5 := hA4.keep (r4.keep k45)
    have hF5 := k45 _ _ hFa hF4
    have hb5 : e1 + 1 ≤ z.length := by omega
    have hb6 : e1 ≤ e1 + 1 := by omega
    have hbl : blank kvs.isEmpty ((tl z).drop e1) = some ((tl z).drop (e1 + 1)) := by
      unfold blank
      rw [hne, if_neg Bool.false_ne_true, if_pos h32, List.drop_drop]
    obtain ⟨b, hb⟩ : ∃ b, b = e1 + 1 := ⟨_, rfl⟩
    rw [← hb] at r5 hb5 hbl hb6
  case' gb =>
    have hne : kvs.isEmpty = true := by
      rw [← hpe]
      cases h : es.isEmpty with
      | true => rfl
      | false =>
        have c5 : ¬ (!es.isEmpty) = true := c5
        rw [h] at c5; exact absurd rfl c5
    have r5 := r4
    have k5 := k4
    have hA5 := hA4
    have hF5 := hF4
    have hb5 := he1
    have hb6 : e1 ≤ e1 := Nat.le_refl _
    have hbl : blank kvs.isEmpty ((tl z).drop e1) = some ((tl z).drop e1) := by
      unfold blank
      rw [hne, if_pos rfl]
    obtain ⟨b, hb⟩ : ∃ b, b = e1 := ⟨_, rfl⟩
    have hb6 : e1 ≤ b := by rw [hb]; exact hb6
    have hbl : blank kvs.isEmpty ((tl z).drop e1) = some ((tl z).drop b) := by rw [hb]; exact hbl
    rw [← hb] at r5 hb5
  all_goals
    rw [hbl, Option.bind_some] at hP
    obtain ⟨dx5, ha5⟩ := id r5
    refine ⟨_, rfl, a, C, dx5, _, _, rfl, ha5, R.cl, R.nA, lk_at, ?_⟩
    have ek : (if (6 : Int) < ((l' + 1 : Nat) : Int) - 1 then (6 : Int) else ((l' + 1 : Nat) : Int) - 1) = ((min l' 6 : Nat) : Int) := by split <;> omega
    refine ⟨_, rfl, a, dx5, _, rfl, ha5, lk_no (by decide +kernel) (by decide +kernel), _, rfl, _, _, rfl, rfl, _, _, rfl, a, z, b, min l' 6, m', congrArg (fun x => [V.ref a, V.int x]) ek, by omega, by omega, by omega, r5, hb5, hz, ?_⟩
    cases hr0 : rd m' (min l' 6) ((tl z).drop b) with
    | none =>
      rw [hr0] at hP
      exact bad hP.symm _ k5
    | some dr =>
    obtain ⟨kd, rest⟩ := dr
    rw [hr0, Option.bind_some] at hP
    obtain ⟨e2, g1, g2, g3, g4, g5, g6, g7, g8, g9⟩ := got_drop (by rw [← hlz]; exact hb5) hr0
    intro H6 kx k56 r6 ak
    rw [hlz, g4] at r6
    subst g3
    have hA6 := hA5.keep (r5.keep k56)
    have hF6 := k56 _ _ hFa hF5
    have k6 := k5.trans k56
    obtain ⟨dx6, ha6⟩ := id r6
    refine ⟨_, rfl, a, C, dx6, _, _, rfl, ha6, R.cl, R.nT, lk_text, _, rfl, _, rfl, _, rfl, a, C, dx6, _, _, rfl, ha6, R.cl, R.nA, lk_at, _, rfl, z, rfl, hzs, ?_⟩
    have etd : ((tl z).drop b).take (((tl z).drop b).length - ((tl z).drop e2).length) = ((tl z).drop b).take (e2 - b) := by
      rw [List.length_drop, List.length_drop]
      congr 1
      omega
    simp only [etd] at hP
    obtain ⟨td, htd⟩ : ∃ td, ((tl z).drop b).take (e2 - b) = td := ⟨_, rfl⟩
    have ec : cutS z (some (b : Int)) (some (e2 : Int)) = ⟨td.toArray⟩ := TL.ext_tl (by rw [tl_cut, htd])
    rw [ec]
    rw [htd] at hP g9
    dsimp only [gName]
    refine pair_if (c := hasD kd) (last := last) (td := td) (fun R q => ⟨_, rfl, kx, kd, rfl, ?_, ak, ?_, fun H4 s4 => ⟨_, rfl, q H4 s4⟩⟩) rfl rfl (fun H7 s7 => ?_)
    · have := depth_of_plain kd _ g7
      omega
    · have : big = 2 ^ 24 := rfl
      omega
    have k7 := k6.trans (Kp.of_same s7)
    have r7 := r6.same s7
    have hA7 := hA6.keep (Same.keep s7)
    have hF7 := s7 _ _ hF6
    have ak7 := ak.keep (Same.keep s7)
    refine ite2 (fun c7 => ?_) (fun c7 => ?_)
    · rw [if_pos c7] at hP
      rw [← hP] at q
      exact ⟨_, rfl, fun d hd => q _ d (k7.trans (Kp.new hd)) upd_same⟩
    rw [if_neg c7] at hP
    have c7 := Bool.eq_false_iff.mpr c7
    rw [Bool.or_eq_false_iff, Bool.not_eq_false'] at c7
    obtain ⟨hnd, hlt⟩ := c7
    have g9 := g9 hnd
    obtain ⟨dx7, ha7⟩ := id r7
    refine ⟨_, rfl, a, dx7, _, rfl, ha7, lk_no (by decide +kernel) (by decide +kernel), a, z, _, e2, rfl, r7, by omega, hz, by rw [l32]; decide, by rw [q32]; exact List.cons_ne_nil _ _, fun hp H8 k78 r8 => ?_, fun hp => ?_⟩
    rotate_left
    · rw [q32, pre_one] at hp
      rw [blank_no rfl (of_decide_eq_false hp)] at hP
      exact bad hP.symm _ k7
    rw [q32, pre_one] at hp
    have h32 := of_decide_eq_true hp
    have hl2 := lt_of_head h32
    rw [l32] at r8
    have hbl2 : blank false ((tl z).drop e2) = some ((tl z).drop (e2 + 1)) := by
      unfold blank
      rw [if_neg Bool.false_ne_true, if_pos h32, List.drop_drop]
    rw [hbl2, Option.bind_some] at hP
    have k8 := k7.trans k78
    have hA8 := hA7.keep (r7.keep k78)
    have hF8 := k78 _ _ hFa hF7
    have ak8 := ak7.keep (r7.keep k78)
    obtain ⟨dx8, ha8⟩ := id r8
    have el : ((l' + 1 : Nat) : Int) - 1 = ((l' : Nat) : Int) := by omega
    refine ⟨_, rfl, a, dx8, _, rfl, ha8, lk_no (by decide +kernel) (by decide +kernel), _, rfl, _, _, rfl, rfl, a, z, e2 + 1, l', m', congrArg (fun x => [V.ref a, V.int x]) el, by omega, by omega, by omega, r8, by omega, hz, ?_⟩
    cases hr1 : rd m' l' ((tl z).drop (e2 + 1)) with
    | none =>
      rw [hr1] at hP
      exact bad hP.symm _ k8
    | some dr =>
    obtain ⟨vd2, rest2⟩ := dr
    rw [hr1, Option.bind_some] at hP
    obtain ⟨e3, f1, f2, f3, f4, f5, f6, f7, f8, f9⟩ := got_drop (by rw [← hlz]; omega) hr1
    intro H9 vx k89 r9 av
    rw [hlz, f4] at r9
    subst f3
    have hA9 := hA8.keep (r8.keep k89)
    have hF9 := k89 _ _ hFa hF8
    have ak9 := ak8.keep (r8.keep k89)
    have k9 := k8.trans k89
    refine ⟨_, rfl, (by show 2 ≤ sizeLine; decide), fun t0 ht0 => ?_⟩
    have s10 : Same H9 (upd H9 t0 (.tup [vx, .str ⟨td.toArray⟩])) := Same.new ht0
    refine ⟨t0, _, rfl, SqT.of upd_same, rfl, _, _, rfl, ?_⟩
    have hF10 := s10 _ _ hF9
    have hA10 := hA9.keep (Same.keep s10)
    have ak10 := ak9.keep (Same.keep s10)
    have av10 := av.keep (Same.keep s10)
    have r10 := r9.same s10
    have k10 := k9.trans (Kp.of_same s10)
    have hkd8 : kd.depth ≤ 8 := by
      have := depth_of_plain kd _ g7
      omega
    have hnew : keyOf kd ∉ kvs.map (fun e => keyOf e.1) := fun hm => by
      obtain ⟨en, hen, ke⟩ := List.mem_map.mp hm
      obtain ⟨o1, o2, o3⟩ := okKv_mem hok en hen
      have := key_inj o1 g6 o2 hnd ke
      obtain ⟨l, hl1, hl2⟩ := hlast en hen
      rw [hl1] at hlt
      have hlt : l < td := of_decide_eq_true hlt
      rw [this, ← g9] at hl2
      exact hl2 hlt
    refine ⟨_, rfl, _, rfl, F, es, kvs, kd, rfl, hF10, hA10, hK, by rw [hlen, sizeLine_eq]; omega, ak10, hsh_of kd g6 hnd, hkd8, fun ku vu rk rv => ?_⟩
    have km : Keep (upd H9 t0 (.tup [vx, .str ⟨td.toArray⟩])) (upd (upd H9 t0 (.tup [vx, .str ⟨td.toArray⟩])) F (Bld w F (putE (keyOf kd) ku vu es))) := Keep.mut (by rw [hF10]; trivial)
    have epd : putD kd vd2 kvs = kvs ++ [(kd, vd2)] := putD_new hnew
    refine ⟨_, _, rfl, rfl, z.length - e3, by omega, e3, kvs ++ [(kd, vd2)], _, some td, n2, _, _, _, rfl, rfl, by omega, r10.upd hFa, hP, by omega, upd_same, ?_, ?_, okKv_snoc hok g6 hnd f6, fun en hen => ⟨td, rfl, ?_⟩, by simp; omega, k10.updN hF0⟩
    · rw [← epd]
      exact (hA10.put rk ak10 rv av10).keep km
    · rw [← epd]
      exact hK.put (hsh_of kd g6 hnd) hkd8
    · rcases List.mem_append.mp hen with z1 | z1
      · obtain ⟨l, hl1, hl2⟩ := hlast en z1
        rw [hl1] at hlt
        have hlt : l < td := of_decide_eq_true hlt
        exact fun q => hl2 (tx_trans hlt q)
      · rw [List.mem_singleton.mp z1, ← g9]
        exact tx_irr td
end
end K15
end

section
set_option Elab.async false
set_option linter.all false
set_option maxRecDepth 100000
set_option pp.maxSteps 900
namespace K15
open PySem PySem.Spec PyProof.Rows L2 TL

theorem none_atX {P : Program} {w : World} {K : PySem.W.Frag} {mg : Str → Option Value} {base : Heap} {CX : CXT} {k : Nat} {f : Addr} {fd : FuncData} {ps : List Str} {sp : Sp} (h : ∀ vs H Q E, ¬ sp vs H Q E) : FnOk P w K mg base CX k f fd ps sp :=
  ⟨fun vs H Q E q => absurd q (h vs H Q E), fun _ _ _ H _ _ vs Q E _ _ _ _ q => absurd q (h vs H Q E)⟩
section
variable {P : Program} {w : World} {K : PySem.W.Frag} {mg : Str → Option Value} {base : Heap} {f t h g m p st wh r o g1 : Addr} {fd td hd gd md pd std whd rd_ od gd1 : FuncData} {C CP fI pO : Addr}
theorem ok_rval1 {n : Nat} (D : Mt K C "value" "Reading.value" (rdSt 5) ["self", "left"] f fd) (R : Rc K mg C) (Tk : Mt K C "take" "Reading.take" (rdSt 3) ["self", "word"] t td) (Hs : Mt K C "has" "Reading.has" (rdSt 2) ["self", "word"] h hd)
    (Mm : Mt K C "members" "Reading.members" (rdSt 7) ["self", "left"] m md) (Pp : Mt K C "pairs" "Reading.pairs" (rdSt 8) ["self", "left"] p pd) (St : Mt K C "string" "Reading.string" (rdSt 6) ["self"] st std) (Wh : Mt K C "whole" "Reading.whole" (rdSt 9) ["self"] wh whd)
    (gN : Gv mg "NONE" (.str "none")) (gQ : Gv mg "QUOTE" (.str "\""))
    (GH : FnOk P w K mg base CX0 1 h hd ["self", "word"] (spRHas C)) (GT : FnOk P w K mg base (L2.CX P w) 2 t td ["self", "word"] (spTake C CP)) (GS : FnOk P w K mg base (L2.CX P w) 4 st std ["self"] (spRStr w C CP)) (GW : FnOk P w K mg base (L2.CX P w) 4 wh whd ["self"] (spWhole w C CP))
    (GM : FnOk P w K mg base (L2.CX P w) (2 * n + 42) m md ["self", "left"] (spMem w C CP 40 (n + 1))) (GP : FnOk P w K mg base (L2.CX P w) (2 * n + 42) p pd ["self", "left"] (spMem w C CP 123 (n + 1))) :
    FnOk P w K mg base (L2.CX P w) (2 * n + 43) f fd ["self", "left"] (spRVal w C CP (n + 1)) := by
  refine D.F.okX scRVal (fun vs H Q E h => ?_) (fun cdv A outer s H vs Q E hr h => ?_)
  · obtain ⟨a, z, e, left, m, rfl, _⟩ := h
    rfl
  obtain ⟨a, z, e, left, m, rfl, hl, h30, hm, ra, he, hz, q⟩ := h
  have nd := scRVal.nd
  have hlz := TL.len_tl z
  obtain ⟨dx, ha⟩ := id ra
  have qn : tl (Str.ofString "none") = [110, 111, 110, 101] := by decide +kernel
  have ln : (Str.ofString "none").length = 4 := by decide +kernel
  have q34 : tl (Str.ofString "\"") = [34] := by decide +kernel
  have q40 : tl (Str.ofString "(") = [40] := by decide +kernel
  have q123 : tl (Str.ofString "{") = [123] := by decide +kernel
  refine ⟨_, pss_cons (ps_if (pt_val (pe_meth (pv 0) R.cl Hs.m GH (hr.mono (by omega)) Hs.b .nil pass0 (pa_cons (pe_gv gN (by rfl)) pa_nil)))
      (pss_cons (ps_expr (pe_meth (pv 0) R.cl Tk.m GT (hr.mono (by omega)) Tk.b .nil (passes_call (takes_of rfl rfl rfl rfl) (fun _ _ _ _ h => h)) (pa_cons (pe_gv gN (by rfl)) pa_nil))) (pss_one (ps_ret pe_non))) pss_nil)
    (pss_cons (ps_if (pt_val (pe_meth (pv 0) R.cl Hs.m GH (hr.mono (by omega)) Hs.b .nil pass0 (pa_cons (pe_gv gQ (by rfl)) pa_nil))) (pss_one (ps_ret (pe_meth0 (pv 0) R.cl St.m GS (hr.mono (by omega)) St.b .nil (passes_call (takes_of rfl rfl rfl rfl) (fun _ _ _ _ h => h))))) pss_nil)
    (pss_cons (ps_if (pt_val (pe_meth (pv 0) R.cl Hs.m GH (hr.mono (by omega)) Hs.b .nil pass0 (pa_cons pe_str pa_nil))) (pss_one (ps_ret (pe_meth (pv 0) R.cl Mm.m GM hr Mm.b .nil (passes_call (takes_of rfl rfl rfl rfl) (fun _ _ _ _ h => h)) (pa_cons (pv 1) pa_nil)))) pss_nil)
    (pss_cons (ps_if (pt_val (pe_meth (pv 0) R.cl Hs.m GH (hr.mono (by omega)) Hs.b .nil pass0 (pa_cons pe_str pa_nil))) (pss_one (ps_ret (pe_meth (pv 0) R.cl Pp.m GP hr Pp.b .nil (passes_call (takes_of rfl rfl rfl rfl) (fun _ _ _ _ h => h)) (pa_cons (pv 1) pa_nil)))) pss_nil)
    (pss_one (ps_ret (pe_meth0 (pv 0) R.cl Wh.m GW (hr.mono (by omega)) Wh.b .nil (passes_call (takes_of rfl rfl rfl rfl) (fun _ _ _ _ h => h)))))))), ?_⟩
  refine ⟨_, rfl, a, dx, _, rfl, ha, lk_no (by decide +kernel) (by decide +kernel), a, z, _, e, rfl, ra, he, by rw [qn]; exact List.cons_ne_nil _ _, _, rfl, ?_⟩
  rw [qn, pre_word4]
  refine ite2 (fun c => ?_) (fun c => ?_)
  · have c4 := of_decide_eq_true c
    have hd4 : 4 ≤ z.length - e := by
      have := congrArg List.length c4
      rw [List.length_take, List.length_drop, ← hlz] at this
      simp only [List.length_cons, List.length_nil] at this
      omega
    refine ⟨_, rfl, a, dx, _, rfl, ha, lk_no (by decide +kernel) (by decide +kernel), a, z, _, e, rfl, ra, he, hz, by rw [ln]; decide, by rw [qn]; exact List.cons_ne_nil _ _, fun _ H1 k1 r1 => ?_, fun hp => ?_⟩
    rotate_left
    · rw [qn, pre_word4, c] at hp
      cases hp
    rw [ln] at r1
    have er : rd m left ((tl z).drop e) = some (.none, ((tl z).drop e).drop 4) := by
      rw [rd.eq_def]
      dsimp only
      rw [if_pos c4]
    rw [er] at q
    refine q H1 _ k1 ?_ .non
    have : z.length - (((tl z).drop e).drop 4).length = e + 4 := by rw [List.length_drop, List.length_drop]; omega
    rw [this]
    exact r1
  have c4 : ¬ ((tl z).drop e).take 4 = [110, 111, 110, 101] := fun q => c (decide_eq_true q)
  refine ⟨_, rfl, a, dx, _, rfl, ha, lk_no (by decide +kernel) (by decide +kernel), a, z, _, e, rfl, ra, he, by rw [q34]; exact List.cons_ne_nil _ _, _, rfl, ?_⟩
  rw [q34, pre_one]
  refine ite2 (fun c => ?_) (fun c => ?_)
  · have hh := of_decide_eq_true c
    have er : rd m left ((tl z).drop e) = rdStr ((tl z).drop (e + 1)) := by
      rw [rd.eq_def]
      dsimp only
      rw [if_neg c4, if_pos hh, List.drop_drop]
    rw [er] at q
    exact ⟨_, rfl, a, dx, _, rfl, ha, lk_no (by decide +kernel) (by decide +kernel), a, z, e, rfl, ra, hz, hh, q⟩
  have c34 : ¬ ((tl z).drop e).head? = some 34 := fun q => c (decide_eq_true q)
  refine ⟨_, rfl, a, dx, _, rfl, ha, lk_no (by decide +kernel) (by decide +kernel), a, z, _, e, rfl, ra, he, by rw [q40]; exact List.cons_ne_nil _ _, _, rfl, ?_⟩
  rw [q40, pre_one]
  refine ite2 (fun c => ?_) (fun c => ?_)
  · exact ⟨_, rfl, a, dx, _, rfl, ha, lk_no (by decide +kernel) (by decide +kernel), _, rfl, a, z, e, left, m, rfl, hl, h30, hm, ra, hz, of_decide_eq_true c, q⟩
  have c40 : ¬ ((tl z).drop e).head? = some 40 := fun q => c (decide_eq_true q)
  refine ⟨_, rfl, a, dx, _, rfl, ha, lk_no (by decide +kernel) (by decide +kernel), a, z, _, e, rfl, ra, he, by rw [q123]; exact List.cons_ne_nil _ _, _, rfl, ?_⟩
  rw [q123, pre_one]
  refine ite2 (fun c => ?_) (fun c => ?_)
  · exact ⟨_, rfl, a, dx, _, rfl, ha, lk_no (by decide +kernel) (by decide +kernel), _, rfl, a, z, e, left, m, rfl, hl, h30, hm, ra, hz, of_decide_eq_true c, q⟩
  have c123 : ¬ ((tl z).drop e).head? = some 123 := fun q => c (decide_eq_true q)
  have er : rd m left ((tl z).drop e) = rdInt ((tl z).drop e) := by
    rw [rd_word c40 c123]
    unfold rdW
    rw [if_neg c4, if_neg c34]
  rw [er] at q
  exact ⟨_, rfl, a, dx, _, rfl, ha, lk_no (by decide +kernel) (by decide +kernel), a, z, e, rfl, ra, he, hz, q⟩
theorem ok_rval (D : Mt K C "value" "Reading.value" (rdSt 5) ["self", "left"] f fd) (R : Rc K mg C) (B : Bn mg) (T : PTxt P K mg CP fI) (Tk : Mt K C "take" "Reading.take" (rdSt 3) ["self", "word"] t td) (Hs : Mt K C "has" "Reading.has" (rdSt 2) ["self", "word"] h hd)
    (Mm : Mt K C "members" "Reading.members" (rdSt 7) ["self", "left"] m md) (Pp : Mt K C "pairs" "Reading.pairs" (rdSt 8) ["self", "left"] p pd) (St : Mt K C "string" "Reading.string" (rdSt 6) ["self"] st std) (Wh : Mt K C "whole" "Reading.whole" (rdSt 9) ["self"] wh whd) (Hd : Df K mg "has_dict" sHas ["value"] g gd)
    (gN : Gv mg "NONE" (.str "none")) (gQ : Gv mg "QUOTE" (.str "\"")) (gK : Gv mg "MOST_KEY" (.int 6))
    (GH : FnOk P w K mg base CX0 1 h hd ["self", "word"] (spRHas C)) (GT : FnOk P w K mg base (L2.CX P w) 2 t td ["self", "word"] (spTake C CP)) (GS : FnOk P w K mg base (L2.CX P w) 4 st std ["self"] (spRStr w C CP)) (GW : FnOk P w K mg base (L2.CX P w) 4 wh whd ["self"] (spWhole w C CP))
    (GD : FnOk P w K mg base CX0 40 g gd ["value"] (spHas w 40)) : ∀ n : Nat, FnOk P w K mg base (L2.CX P w) (2 * n + 41) f fd ["self", "left"] (spRVal w C CP n)
  | 0 => none_atX fun vs H Q E h => by
    obtain ⟨_, _, _, _, _, _, z, _⟩ := h
    omega
  | n + 1 =>
    have G := ok_rval D R B T Tk Hs Mm Pp St Wh Hd gN gQ gK GH GT GS GW GD n
    ok_rval1 D R Tk Hs Mm Pp St Wh gN gQ GH GT GS GW (ok_mem1 Mm R B T Tk Hs D GH GT G) (ok_pairs1 Pp R B T Tk Hs D Hd gK GH GT GD G)
end
end K15
end

section
set_option Elab.async false
set_option linter.all false
set_option maxRecDepth 100000
set_option pp.maxSteps 900
namespace K15
open PySem PySem.Spec PyProof.Rows L2 TL

/-- what a text tells -/
def dueOf (s : Tx) : Option PyData := match rd 30 30 s with
  | some (d, []) => some d
  | _ => none
def readD : PyData → Option PyData
  | .str z => dueOf (tl z)
  | _ => none
def metD (d : PyData) : PyData := match readD d with
  | some e => .tuple [.str "told", e]
  | none => .tuple [.str "parse", .none]
/-- the short texts -/
def shortS (d : PyData) : Prop := ∀ z, d = .str z → z.length < 2 ^ 22
theorem Same.ofKp {a : Addr} {H H1 H2 : Hp} (s : Same H H1) (h : H a = none) (k : Kp a H1 H2) : Same H H2 := fun b o ho => k b o (ne_of_none ho h) (s b o ho)
/-- InvalidOperation -/
structure OTxt (K : PySem.W.Frag) (mg : Str → Option Value) (CI : Addr) : Prop where
  gC : mg "InvalidOperation" = some (.ref CI)
  xP : PySem.W.excIn K CI [.type "ValueError", .type "Exception", .type "BaseException", .type "object"] "ValueError.__new__" = true
  kP : PySem.W.keepIn K (.ref CI) = true
  bP : PySem.W.subIn K (.ref CI) (.type "BaseException") = some true
  tP : PySem.W.typeIn K (.ref CI) = some (.type "type")
  te : PySem.W.exmOne K (.ref CI) (.ref CI) = some true
abbrev sVText : Stmt := topS 21
abbrev sReadV : Stmt := topS 22
abbrev sDue : Stmt := topS 37
abbrev sMet : Stmt := topS 38
abbrev sRefused : Stmt := topS 44
theorem scVText : FnScope ["value"] ["value"] (defScope sVText) := ⟨rfl, rfl, rfl, by decide +kernel, rfl, by decide +kernel, by decide +kernel⟩
theorem scReadV : FnScope ["value", "reading", "found"] ["value"] (defScope sReadV) := ⟨rfl, rfl, rfl, by decide +kernel, rfl, by decide +kernel, by decide +kernel⟩
theorem scDue : FnScope ["text", "told"] ["text"] (defScope sDue) := ⟨rfl, rfl, rfl, by decide +kernel, rfl, by decide +kernel, by decide +kernel⟩
theorem scMet : FnScope ["text", "error"] ["text"] (defScope sMet) := ⟨rfl, rfl, rfl, by decide +kernel, rfl, by decide +kernel, by decide +kernel⟩
theorem scRefused : FnScope ["value"] ["value"] (defScope sRefused) := ⟨rfl, rfl, rfl, by decide +kernel, rfl, by decide +kernel, by decide +kernel⟩
def spReadV (w : World) (CP : Addr) : Sp := fun vs H Q E => ∃ (x : V) (d : PyData), vs = [x] ∧ At w H x d ∧ shortS d ∧ (∀ dd, readD d = some dd → ∀ H' v, Same H H' → At w H' v dd → Q v H') ∧ (readD d = none → ∀ H' e, Same H H' → H' e = some (.xd [(("spot" : Str), V.non)]) → E (.ref CP) (some e) H')
def spVText (w : World) (CI : Addr) : Sp := fun vs H Q E => ∃ (x : V) (d : PyData), vs = [x] ∧ At w H x d ∧ (txt d).length < big ∧ (plain 30 d = true → okD d = true) ∧ (plain 30 d = true → ∀ H' z, Same H H' → tl z = txt d → Q (.str z) H') ∧ (plain 30 d = false → ∀ H', Same H H' → E (.ref CI) none H')
def spDue (w : World) : Sp := fun vs H Q _ => ∃ z : Str, vs = [.str z] ∧ z.length < 2 ^ 22 ∧ ∀ H' v, Same H H' → At w H' v (metD (.str z)) → Q v H'
def spMet (w : World) : Sp := fun vs H Q _ => ∃ (x : V) (d : PyData), vs = [x] ∧ At w H x d ∧ shortS d ∧ ∀ H' v, Same H H' → At w H' v (metD d) → Q v H'
def spRefused (w : World) : Sp := fun vs H Q _ => ∃ (x : V) (d : PyData), vs = [x] ∧ At w H x d ∧ (txt d).length < big ∧ plain 30 d = false ∧ ∀ H', Same H H' → Q (.bl true) H'
section
variable {P : Program} {w : World} {K : PySem.W.Frag} {mg : Str → Option Value} {base : Heap} {f i v o g t : Addr} {fd id_ vd od gd td : FuncData} {C CP CI fI pO : Addr}
theorem ok_readV (D : Df K mg "read_value" sReadV ["value"] f fd) (R : Rc K mg C) (B : Bn mg) (T : PTxt P K mg CP fI) (MK : Mk K C i) (bI : Binds K id_ ["self", "text"] []) (Vl : Mt K C "value" "Reading.value" (rdSt 5) ["self", "left"] v vd) (PO : PropOf K C "is_over" pO o) (bO : Binds K od ["self"] []) (gM : Gv mg "MOST_NESTED" (.int 30))
    (GI : FnOk P w K mg base CX0 1 i id_ ["self", "text"] (spRInit C)) (GO : FnOk P w K mg base CX0 1 o od ["self"] (spOver C)) (GV : FnOk P w K mg base (L2.CX P w) 103 v vd ["self", "left"] (spRVal w C CP 31)) : FnOk P w K mg base (L2.CX P w) 104 f fd ["value"] (spReadV w CP) := by
  refine D.F.okX scReadV (fun vs H Q E h => ?_) (fun cdv A outer s H vs Q E hr h => ?_)
  · obtain ⟨x, d, rfl, _⟩ := h
    rfl
  obtain ⟨x, d, rfl, ax, hs, q1, q2⟩ := h
  have nd := scReadV.nd
  refine ⟨_, pss_cons (ps_if (pt_not (pt_val (pe_callB call_isiA (by rfl) B.isinstance bt_isinstance (pa_cons (pv 0) (pa_cons (pe_bltn (v := .ty "str") (by rfl) B.str bt_str rfl) pa_nil))))) (pss_one (ps_raiseP rfl T hr (takes_of rfl rfl rfl rfl) (pa_cons pe_non pa_nil))) pss_nil)
    (pss_cons (ps_set (i := 1) nd rfl (.inl rfl) (pe_make MK GI (hr.mono (by decide)) (by rfl) R.gC bI .nil pass0 (pa_cons (pv 0) pa_nil)))
    (pss_cons (ps_set (i := 2) nd rfl (.inl rfl) (pe_meth (pv 1) R.cl Vl.m GV hr Vl.b .nil (passes_call (takes_of rfl rfl rfl rfl) (fun _ _ _ _ h => h)) (pa_cons (pe_gv gM (by rfl)) pa_nil)))
    (pss_cons (ps_if (pt_not (pt_val (pe_prop (pv 1) R.cl PO GO (hr.mono (by decide)) bO .nil pass0 rfl))) (pss_one (ps_raiseP rfl T hr (takes_of rfl rfl rfl rfl) (pa_cons pe_non pa_nil))) pss_nil)
    (pss_one (ps_ret (pv 2)))))), ?_⟩
  refine ⟨_, rfl, x, d, _, _, rfl, ax, kit_str d, _, rfl, ?_⟩
  refine ite2 (fun c => ?_) (fun c => ?_)
  · have hn : readD d = none := by
      cases d <;> first | rfl | simp [tyOf] at c
    exact ⟨_, rfl, fun e he => q2 hn _ e (Same.new he) upd_same⟩
  obtain ⟨z, rfl⟩ : ∃ z, d = .str z := by
    cases d <;> first | exact ⟨_, rfl⟩ | simp [tyOf] at c
  cases ax
  have hz := hs z rfl
  have hlz := TL.len_tl z
  refine ⟨_, rfl, fun p dx hp hdx hne => ?_⟩
  refine ⟨p, dx, z, rfl, upd_same, rfl, ?_⟩
  have s1 : Same H (upd (upd (upd (upd H dx (.own p)) p (.ins C dx [])) p (.ins C dx [("own_text", .str z)])) p (.ins C dx (flds z 0))) := fun b u hb => by
    rw [upd_ne (ne_of_none hb hp), upd_ne (ne_of_none hb hp), upd_ne (ne_of_none hb hp), upd_ne (ne_of_none hb hdx)]
    exact hb
  have r1 : RAt C (upd (upd (upd (upd H dx (.own p)) p (.ins C dx [])) p (.ins C dx [("own_text", .str z)])) p (.ins C dx (flds z 0))) p z 0 := ⟨dx, upd_same⟩
  generalize upd (upd (upd (upd H dx (.own p)) p (.ins C dx [])) p (.ins C dx [("own_text", .str z)])) p (.ins C dx (flds z 0)) = H1 at s1 r1
  obtain ⟨dx1, h1⟩ := id r1
  refine ⟨_, rfl, p, dx1, _, rfl, h1, lk_no (by decide +kernel) (by decide +kernel), p, z, 0, 30, 30, rfl, by decide, by decide, by decide, r1, Nat.zero_le _, hz, ?_⟩
  have hdue : readD (.str z) = dueOf (tl z) := rfl
  rw [hdue] at q1 q2
  unfold dueOf at q1 q2
  rw [List.drop_zero]
  cases hr0 : rd 30 30 (tl z) with
  | none =>
    rw [hr0] at q2
    exact fun H' e k he => q2 rfl H' e (Same.ofKp s1 hp k) he
  | some dr =>
    obtain ⟨d, rest⟩ := dr
    rw [hr0] at q1 q2
    intro H2 y k2 r2 ay
    have s2 := Same.ofKp s1 hp k2
    obtain ⟨dx2, h2⟩ := id r2
    refine ⟨_, rfl, p, dx2, _, rfl, h2, p, z, _, rfl, r2, hz, _, rfl, ?_⟩
    obtain ⟨e2, g1, g2, g3, g4, g5, _⟩ := got_drop (s := tl z) (b := 0) (Nat.zero_le _) (by rw [List.drop_zero]; exact hr0)
    rw [← hlz] at g5
    cases rest with
    | nil =>
      refine ite2 (fun c => ?_) (fun c => ?_)
      · rw [decide_eq_true (show z.length - ([] : Tx).length = z.length from rfl)] at c
        cases c
      · exact ⟨_, rfl, q1 d rfl H2 y s2 ay⟩
    | cons c0 r0 =>
      refine ite2 (fun c => ?_) (fun c => ?_)
      · exact ⟨_, rfl, fun e he => q2 rfl _ e (Same.trans s2 (Same.new he)) upd_same⟩
      · rw [decide_eq_false (show ¬ z.length - (c0 :: r0).length = z.length by rw [List.length_cons] at g5 ⊢; omega)] at c
        exact absurd rfl c
theorem ok_vtext (D : Df K mg "value_text" sVText ["value"] f fd) (O : OTxt K mg CI) (Ip : Df K mg "is_plain" sIsPlain ["value"] g gd) (Ti : Df K mg "text_in" sTextIn ["value"] t td)
    (GP : FnOk P w K mg base CX0 34 g gd ["value"] (spIsPlain w)) (GT : FnOk P w K mg base CX0 31 t td ["value"] (spText w 31)) : FnOk P w K mg base (L2.CX P w) 35 f fd ["value"] (spVText w CI) := by
  refine D.F.okX scVText (fun vs H Q E h => ?_) (fun cdv A outer s H vs Q E hr h => ?_)
  · obtain ⟨x, d, rfl, _⟩ := h
    rfl
  obtain ⟨x, d, rfl, ax, hz, hok, q1, q2⟩ := h
  refine ⟨_, pss_cons (ps_if (pt_not (pt_val (pe_call GP hr (by rfl) Ip.m Ip.F.kp Ip.b .nil pass0 (pa_cons (pv 0) pa_nil)))) (pss_one (ps_raise rfl (takes_of rfl rfl rfl rfl) (pmk_own PySem.F.excBase_ValueError O.xP O.gC O.kP (raises_own O.bP O.tP) (by rfl)))) pss_nil)
    (pss_one (ps_ret (pe_call GT (hr.mono (by decide)) (by rfl) Ti.m Ti.F.kp Ti.b .nil pass0 (pa_cons (pv 0) pa_nil)))), ?_⟩
  refine ⟨_, rfl, x, d, rfl, ax, hz, fun H1 s1 => ⟨_, rfl, ?_⟩⟩
  cases hp : plain 30 d with
  | false =>
    refine ite_tt' ?_
    exact q2 hp H1 s1
  | true =>
    refine ite_ff' ?_
    refine ⟨_, rfl, x, d, rfl, ?_, ax.keep (Same.keep s1), hok hp, hz, fun H2 z s2 e => q1 hp H2 z (Same.trans s1 s2) e⟩
    have := depth_of_plain d _ hp
    omega
theorem ok_due {n : Nat} (D : Df K mg "_law_due" sDue ["text"] f fd) (Lr : Df K mg "_law_read" sLRead ["text", "at", "left"] g gd) (B : Bn mg) (GR : FnOk P w K mg base CX0 72 g gd ["text", "at", "left"] (spLRead w 31)) : FnOk P w K mg base CX0 73 f fd ["text"] (spDue w) := by
  refine D.F.ok scDue (fun vs H Q E h => ?_) (fun cdv A outer s H vs Q E hr h => ?_)
  · obtain ⟨z, rfl, _⟩ := h
    rfl
  obtain ⟨z, rfl, hz, q⟩ := h
  have nd := scDue.nd
  have hlz := TL.len_tl z
  have hzs : z.length ≤ sizeLine := by rw [sizeLine_eq]; omega
  refine ⟨_, pss_cons (ps_set (i := 1) nd rfl (.inl rfl) (pe_call GR hr (by rfl) Lr.m Lr.F.kp Lr.b .nil pass0 (pa_cons (pv 0) (pa_cons pe_int (pa_cons pe_int pa_nil)))))
    (pss_one (ps_ret (pe_ifExp (pw_and (pt_cmpR op_notN (pv 1) pe_non (nomark _)) (pw_and1 (pt_cmpR op_eq (pe_ix ix_tup (pv 1) pe_int (fun _ _ => rfl)) (pe_callB call_len (by rfl) B.len bt_len (pa_cons (pv 0) pa_nil)) (nomark _)))).pt
      (pe_tup (pa_cons pe_str (pa_cons (pe_ix ix_tup (pe_ix ix_tup (pv 1) pe_int (fun _ _ => rfl)) pe_int (fun _ _ => rfl)) pa_nil))) (pe_tup (pa_cons pe_str (pa_cons pe_non pa_nil)))))), ?_⟩
  refine ⟨_, rfl, z, 0, 30, 30, rfl, by decide, by decide, by decide, Nat.zero_le _, hz, fun H1 v s1 t1 => ?_⟩
  rw [List.drop_zero] at t1
  have e0 : metD (.str z) = match dueOf (tl z) with
    | some e => .tuple [.str "told", e]
    | none => .tuple [.str "parse", .none] := rfl
  rw [e0] at q
  unfold dueOf at q
  have parse : ∀ H2, Same H H2 → (∀ H' v, Same H H' → At w H' v (.tuple [.str "parse", .none]) → Q v H') → ∀ t, H2 t = none → Q (.ref t) (upd H2 t (.tup [.str "parse", .non])) := fun H2 s2 q t ht =>
    q _ _ (Same.trans s2 (Same.new ht)) (.tup upd_same (.cons (.str _) (.cons .non .nil)))
  cases hr0 : rd 30 30 (tl z) with
  | none =>
    rw [hr0] at t1 q
    cases (show v = .non from t1)
    refine ⟨_, rfl, rfl, _, rfl, ?_⟩
    refine ite_ff' ?_
    exact ⟨(by show 2 ≤ sizeLine; decide), parse H1 s1 q⟩
  | some dr =>
    obtain ⟨d, rest⟩ := dr
    rw [hr0] at t1 q
    obtain ⟨t, u, x, rfl, ht, hu, ax, hrl⟩ := t1
    refine ⟨_, rfl, rfl, _, rfl, ?_⟩
    refine ite_tt' ?_
    refine ⟨_, rfl, t, _, 1, _, rfl, rfl, SqT.of ht, rfl, _, rfl, _, _, rfl, ⟨hzs, rfl⟩, rfl, _, rfl, ?_⟩
    cases rest with
    | nil =>
      refine ite2 (fun c => ?_) (fun c => ?_)
      · refine ⟨_, rfl, t, _, 0, _, rfl, rfl, SqT.of ht, rfl, u, _, 0, x, rfl, rfl, SqT.of hu, rfl, (by show 2 ≤ sizeLine; decide), fun t2 ht2 => ?_⟩
        exact q _ _ (Same.trans s1 (Same.new ht2)) (.tup upd_same (.cons (.str _) (.cons (ax.keep (Keep.new ht2)) .nil)))
      · exact absurd (decide_eq_true (show V.int ((z.length - ([] : Tx).length : Nat) : Int) = V.int (z.length : Nat) from rfl)) c
    | cons c0 r0 =>
      refine ite2 (fun c => ?_) (fun c => ?_)
      · have c := of_decide_eq_true c
        have c : ((z.length - (c0 :: r0).length : Nat) : Int) = (z.length : Nat) := by injection c
        rw [List.length_cons] at c hrl
        omega
      · exact ⟨(by show 2 ≤ sizeLine; decide), parse H1 s1 q⟩
theorem ok_met (D : Df K mg "_law_met" sMet ["text"] f fd) (T : PTxt P K mg CP fI) (Rv : Df K mg "read_value" sReadV ["value"] g gd) (GR : FnOk P w K mg base (L2.CX P w) 104 g gd ["value"] (spReadV w CP)) : FnOk P w K mg base CX0 105 f fd ["text"] (spMet w) := by
  refine D.F.ok scMet (fun vs H Q E h => ?_) (fun cdv A outer s H vs Q E hr h => ?_)
  · obtain ⟨x, d, rfl, _⟩ := h
    rfl
  obtain ⟨x, d, rfl, ax, hs, q⟩ := h
  have nd := scMet.nd
  refine ⟨_, pss_one (ps_try_as (i := 1) (tb := fun W => tRet (tTup (tCons (tC (.str "told")) (tCons (tCallS (spReadV w CP) (WE W) (tCons (tVar 0) tNil)) tNil)))) (ts := fun a cls d => tRet (tTup (tCons (tC (.str "parse")) (tCons (tSpot CP a cls d (tVar 1)) tNil)))) (Wout := fun _ _ _ _ => False) rfl rfl nd rfl rfl ⟨rfl, by decide, Or.inl T.gC⟩ takes0
      (fun W pn xe tk _ => pss_one (ps_ret (pe_tup (pa_cons pe_str (pa_cons (by exact (pe_callS GR hr rfl Rv.m Rv.F.kp Rv.b (fun σ => passAt tk σ) (by exact (pa_cons (pv 0) pa_nil)))) pa_nil)))))
      (fun a oe cls d pn hz hf => pss_one (ps_ret (pe_tup (pa_cons pe_str (pa_cons (pe_spot T hz hf (pv 1)) pa_nil)))))), ?_⟩
  unfold metD at q
  refine ⟨_, rfl, x, d, rfl, ax, hs, fun dd hd H1 v s1 av => ?_, fun hn H1 e s1 he => ?_⟩
  · rw [hd] at q
    refine ⟨(by show 2 ≤ sizeLine; decide), fun t ht => ?_⟩
    exact q _ _ (Same.trans s1 (Same.new ht)) (.tup upd_same (.cons (.str _) (.cons (av.keep (Keep.new ht)) .nil)))
  · rw [hn] at q
    refine ⟨true, T.te, fun _ a ha => ?_, fun z => Bool.noConfusion z⟩
    refine ⟨_, rfl, rfl, rfl, e, _, rfl, he, (by show 2 ≤ sizeLine; decide), fun t ht => ?_⟩
    exact q _ _ (Same.trans s1 (Same.new ht)) (.tup upd_same (.cons (.str _) (.cons .non .nil)))
theorem ok_refused (D : Df K mg "_law_refused" sRefused ["value"] f fd) (O : OTxt K mg CI) (Vt : Df K mg "value_text" sVText ["value"] g gd) (GV : FnOk P w K mg base (L2.CX P w) 35 g gd ["value"] (spVText w CI)) : FnOk P w K mg base CX0 36 f fd ["value"] (spRefused w) := by
  refine D.F.ok scRefused (fun vs H Q E h => ?_) (fun cdv A outer s H vs Q E hr h => ?_)
  · obtain ⟨x, d, rfl, _⟩ := h
    rfl
  obtain ⟨x, d, rfl, ax, hz, hp, q⟩ := h
  refine ⟨_, pss_cons (ps_try_only (tb := fun W => tDrop (tCallS (spVText w CI) (WE W) (tCons (tVar 0) tNil))) (ts := fun a cls d => tRet (tC (.bl true))) (Wout := fun _ _ _ _ => False) rfl rfl ⟨rfl, by decide, Or.inl O.gC⟩ takes0
      (fun W pn xe tk _ => pss_one (ps_expr (by exact (pe_callS GV hr rfl Vt.m Vt.F.kp Vt.b (fun σ => passAt tk σ) (by exact (pa_cons (pv 0) pa_nil))))))
      (fun a oe cls d pn _ _ => pss_one (ps_ret pe_bl))) (pss_one (ps_ret pe_bl)), ?_⟩
  refine ⟨_, rfl, x, d, rfl, ax, hz, fun h => ?_, fun h => ?_, fun _ H1 s1 => ?_⟩
  · rw [hp] at h; cases h
  · rw [hp] at h; cases h
  · exact ⟨true, O.te, fun _ a ha => q H1 s1, fun z => Bool.noConfusion z⟩
end
end K15
end

section
set_option Elab.async false
set_option linter.all false
set_option maxRecDepth 100000
set_option pp.maxSteps 900
namespace K15
open PySem PySem.Spec PyProof.Rows L2 TL

/-- ** of a written great number -/
def CPowW (i j : Int) : Prop := 0 ≤ j ∧ (Builtin.Int.intBits i : Int) * j ≤ 2 ^ 27
theorem op_powW {X : Cx} : OpR X (binaryOp .Pow) (rI CPowW fun i j => .int (i ^ j.toNat)) := opI fun _ _ _ _ _ _ _ hc q => PyProof.Rows.pow_int hc.1 hc.2 q
abbrev sDice : Stmt := topS 24
theorem scDice : FnScope ["script", "spot", "cell", "great"] ["script", "spot"] (defScope sDice) := ⟨rfl, rfl, rfl, by decide +kernel, rfl, by decide +kernel, by decide +kernel⟩
def spDice (K : PySem.W.Frag) : Sp := fun vs H Q _ => ∃ (a : Addr) (ns : List Int) (spot : Nat), vs = [.ref a, .int spot] ∧ SqL K H a (ns.map V.int) ∧ ns.length ≤ 63 ∧ ∀ H' da, Same H H' → H da = none → Dice H' da → Q (.ref da) H'
theorem cut1 (ns : List Int) : cutV (ns.map V.int) none (some 1) = (ns.take 1).map V.int := by
  unfold cutV
  rw [HT.sIx_none, show (1 : Int) = ((1 : Nat) : Int) from rfl, HT.sIx_nat, List.drop_zero, Nat.sub_zero]
  cases ns with
  | nil => rfl
  | cons n r =>
    rw [show min 1 ((n :: r).map V.int).length = 1 by simp]
    rfl
section
variable {P : Program} {w : World} {K : PySem.W.Frag} {mg : Str → Option Value} {base : Heap} {f r p : Addr} {fd rd_ pd : FuncData}
theorem ok_dice (D : Df K mg "_law_dice" sDice ["script", "spot"] f fd) (B : Bn mg) : FnOk P w K mg base CX0 1 f fd ["script", "spot"] (spDice K) := by
  refine D.F.ok scDice (fun vs H Q E h => ?_) (fun cdv A outer s H vs Q E hr h => ?_)
  · obtain ⟨a, ns, spot, rfl, _⟩ := h
    rfl
  obtain ⟨a, ns, spot, rfl, hS, h63, q⟩ := h
  have nd := scDice.nd
  refine ⟨_, pss_cons (ps_set (i := 2) nd rfl (.inl rfl) (pe_ifExp (pt_cmpR op_lt (pv 1) (pe_callB call_len_seq (by rfl) B.len bt_len (pa_cons (pv 0) pa_nil)) (nomark _))
      (pe_callTy call_int1 (by rfl) B.int bt_int (pa_cons (pe_ix ix_list (pv 0) (pv 1) (fun _ _ => rfl)) pa_nil))
      (pe_op op_add (pe_op op_add (pe_op op_mul pe_int (pv 1)) pe_int) (pe_op op_mod (pe_callTy call_int1 (by rfl) B.int bt_int (pa_cons (pe_callB (cr_sum (by rfl)) (by rfl) B.sum bt_sum (pa_cons (pe_slice sl_list (pv 0) po_none (po_some pe_int)) pa_nil)) pa_nil)) pe_int))))
    (pss_cons (ps_set (i := 3) nd rfl (.inl rfl) (pe_op op_mod (pe_callTy call_int1 (by rfl) B.int bt_int (pa_cons (pe_callB call_abs (by rfl) B.abs bt_abs (pa_cons (pv 2) pa_nil)) pa_nil)) (pe_op op_powW (pe_op op_pow pe_int pe_int) pe_int)))
    (pss_one (ps_ret (pe_lst (pa_cons (pe_callB (call_max2 (by rfl)) (by rfl) B.max bt_max (pa_cons pe_int (pa_cons (pe_op op_sub (pv 3) (pe_op op_pow pe_int pe_int)) pa_nil)))
      (pa_cons (pe_op op_mod (pe_callTy call_int1 (by rfl) B.int bt_int (pa_cons (pe_op op_add (pe_op op_add (pe_op op_add (pe_op op_mul (pv 3) pe_int) (pe_op op_mul pe_int (pv 1))) (pe_op op_mul pe_int (pe_callTy call_int1 (by rfl) B.int bt_int (pa_cons (pe_cmpR op_lt (pv 2) pe_int (nomark _)) pa_nil)))) pe_int) pa_nil)) pe_int) pa_nil)))))), ?_⟩
  refine ⟨_, rfl, _, rfl, a, _, rfl, .inl hS, _, _, rfl, rfl, _, rfl, ?_⟩
  rw [List.length_map]
  refine ite2 (fun c => ?ga) (fun c => ?gb)
  case' ga =>
    have c : (spot : Int) < (ns.length : Nat) := of_decide_eq_true c
    have hl : spot < ns.length := by omega
    have hi : (ns.map V.int)[spot]? = some (V.int ns[spot]) := by rw [List.getElem?_map, List.getElem?_eq_getElem hl]; rfl
    refine ⟨_, rfl, _, rfl, a, _, _, _, rfl, rfl, hS, atI_nat hi, .inl ⟨_, rfl, ?gm⟩⟩
    have sx : Same H H := Same.refl H
  case' gb =>
    refine ⟨_, rfl, _, _, rfl, rfl, .inl ⟨by decide, by decide⟩, _, _, rfl, rfl, _, rfl, _, rfl, a, _, rfl, hS, fun l hl => ?gl⟩
    rw [cut1]
    refine ⟨l, _, rfl, SqL.of upd_same, .inl ⟨_, rfl, _, _, rfl, rfl, (by show (0 : Int) < 999979; decide), _, _, rfl, rfl, ?gm⟩⟩
    have sx : Same H (upd H l (.lst ((ns.take 1).map V.int))) := Same.new hl
  all_goals
    refine ⟨_, rfl, _, rfl, .inl ⟨_, rfl, _, _, rfl, rfl, ⟨by decide, by decide, by decide⟩, _, _, rfl, rfl, ⟨by decide, by decide +kernel⟩, _, _, rfl, rfl, (by show (0 : Int) < ((10 : Int) ^ 54) ^ 6; decide +kernel), ?_⟩⟩
    refine ⟨_, rfl, _, _, rfl, rfl, ⟨by decide, by decide, by decide⟩, _, _, rfl, rfl, _, _, rfl, ?_⟩
    refine ⟨_, rfl, _, _, rfl, rfl, .inr ⟨by decide, by decide⟩, _, rfl, _, _, rfl, rfl, .inl ⟨by decide, by decide⟩, _, _, rfl, rfl, _, rfl, _, _, rfl, rfl, .inr ⟨_, rfl, _, _, rfl, rfl, .inl ⟨by decide, by decide⟩, _, _, rfl, rfl, _, _, rfl, rfl, .inl ⟨_, rfl, _, _, rfl, rfl, (by show (0 : Int) < 18446744073709551616; decide), (by show 2 ≤ sizeLine; decide), fun da hda => ?_⟩⟩⟩
    refine q _ da (Same.trans sx (Same.new hda)) (Same.free sx hda) ⟨_, _, upd_same, ?_, Int.emod_nonneg _ (by decide), Int.emod_lt_of_pos _ (by decide)⟩
    split <;> omega
end
end K15
end

section
set_option Elab.async false
set_option linter.all false
set_option maxRecDepth 100000
set_option pp.maxSteps 900
namespace K15
open PySem PySem.Spec PyProof.Rows L2 TL

theorem tl_cut0 (z : Str) (b : Nat) : tl (cutS z none (some (b : Int))) = (tl z).take b := by
  show ((z.cps.toList.drop (HT.sIx z.length 0 none)).take (HT.sIx z.length z.length (some (b : Int)) - HT.sIx z.length 0 none)).toArray.toList = _
  rw [HT.sIx_none, HT.sIx_nat]
  have hl : z.length = (tl z).length := TL.len_tl z
  show ((tl z).drop 0).take (min b z.length - 0) = _
  rw [hl, List.drop_zero, Nat.sub_zero]
  generalize tl z = s
  by_cases h : b ≤ s.length
  · rw [Nat.min_eq_left h]
  · rw [Nat.min_eq_right (by omega), List.take_of_length_le (Nat.le_refl _), List.take_of_length_le (by omega)]
theorem tl_cutE (z : Str) (a : Nat) : tl (cutS z (some (a : Int)) none) = (tl z).drop a := by
  show ((z.cps.toList.drop (HT.sIx z.length 0 (some (a : Int)))).take (HT.sIx z.length z.length none - HT.sIx z.length 0 (some (a : Int)))).toArray.toList = _
  rw [HT.sIx_none, HT.sIx_nat]
  have hl : z.length = (tl z).length := TL.len_tl z
  show ((tl z).drop (min a z.length)).take (z.length - min a z.length) = _
  rw [hl]
  generalize tl z = s
  by_cases h : a ≤ s.length
  · rw [Nat.min_eq_left h, List.take_of_length_le (by rw [List.length_drop]; exact Nat.le_refl _)]
  · rw [Nat.min_eq_right (show s.length ≤ a by omega), List.drop_length, List.drop_eq_nil_of_le (show s.length ≤ a by omega), List.take_nil]
theorem len_cut0 (z : Str) (b : Nat) : (cutS z none (some (b : Int))).length = min b z.length := by rw [TL.len_tl, tl_cut0, List.length_take, ← TL.len_tl]
theorem len_cutE (z : Str) (a : Nat) : (cutS z (some (a : Int)) none).length = z.length - a := by rw [TL.len_tl, tl_cutE, List.length_drop, ← TL.len_tl]
theorem len_cut (z : Str) (a b : Nat) : (cutS z (some (a : Int)) (some (b : Int))).length ≤ b - a := by rw [TL.len_tl, tl_cut, List.length_take, List.length_drop]; omega
theorem len_app (x y : Str) : (x ++ y).length = x.length + y.length := by rw [TL.len_tl, TL.tl_append, List.length_append, ← TL.len_tl, ← TL.len_tl]
theorem cutM0 {α : Type} (g : α → V) (xs : List α) (b : Nat) : cutV (xs.map g) none (some (b : Int)) = (xs.take b).map g := by
  unfold cutV
  rw [HT.sIx_none, HT.sIx_nat, List.drop_zero, Nat.sub_zero, ← List.map_take, List.length_map]
  by_cases h : b ≤ xs.length
  · rw [Nat.min_eq_left h]
  · rw [Nat.min_eq_right (by omega), List.take_of_length_le (Nat.le_refl _), List.take_of_length_le (by omega)]
theorem cutME {α : Type} (g : α → V) (xs : List α) (a : Nat) : cutV (xs.map g) (some (a : Int)) none = (xs.drop a).map g := by
  unfold cutV
  rw [HT.sIx_none, HT.sIx_nat, ← List.map_drop, ← List.map_take, List.length_map]
  by_cases h : a ≤ xs.length
  · rw [Nat.min_eq_left h, List.take_of_length_le (by rw [List.length_drop]; exact Nat.le_refl _)]
  · rw [Nat.min_eq_right (by omega), List.drop_length, List.drop_eq_nil_of_le (show xs.length ≤ a by omega), List.take_nil]
/-! the parts of a text -/
theorem spl_len : ∀ (l acc : Tx), ((spl [32] 0 acc l).map List.length).sum + (spl [32] 0 acc l).length = acc.length + l.length + 1
  | [], acc => by rw [spl_nil]; simp
  | c :: r, acc => by
    cases hp : pre [32] (c :: r) with
    | true =>
      rw [spl_hit hp]
      have := spl_len r []
      simp only [List.length_cons, List.length_nil, List.map_cons, List.sum_cons, Nat.zero_add, Nat.sub_self] at this ⊢
      omega
    | false =>
      rw [spl_miss hp]
      have := spl_len r (acc ++ [c])
      rw [List.length_append] at this
      simp only [List.length_cons, List.length_nil] at this ⊢
      omega
theorem split_len (z : Str) : ((Txt.split z " ").map (·.length)).sum + (Txt.split z " ").length = z.length + 1 := by
  have e := split_spl z (Str.ofString " ") (by decide +kernel) (kind_ok (by decide +kernel))
  have q := spl_len (tl z) []
  have e32 : tl (Str.ofString " ") = [32] := by decide +kernel
  rw [e32] at e
  rw [← e, List.map_map, List.length_map] at q
  have f : (List.length ∘ tl) = fun x : Str => x.length := funext fun x => (TL.len_tl x).symm
  rw [f, List.length_nil, ← TL.len_tl] at q
  omega
theorem split_ne (z : Str) : 0 < (Txt.split z " ").length := by
  have e := split_spl z (Str.ofString " ") (by decide +kernel) (kind_ok (by decide +kernel))
  have e32 : tl (Str.ofString " ") = [32] := by decide +kernel
  rw [e32] at e
  have h : spl [32] 0 [] (tl z) ≠ [] := by
    have key : ∀ (l acc : Tx), spl [32] 0 acc l ≠ [] := by
      intro l
      induction l with
      | nil => intro acc; rw [spl_nil]; exact List.cons_ne_nil _ _
      | cons c r ih =>
        intro acc
        cases hp : pre [32] (c :: r) with
        | true => rw [spl_hit hp]; exact List.cons_ne_nil _ _
        | false => rw [spl_miss hp]; exact ih _
    exact key _ _
  rw [← e] at h
  exact List.length_pos_iff.mpr fun q => h (by rw [q]; rfl)
theorem sum_set : ∀ (l : List Nat) (i x : Nat), i < l.length → (l.set i x).sum + l.getD i 0 = l.sum + x
  | y :: r, 0, x, _ => by simp; omega
  | y :: r, i + 1, x, h => by
    have := sum_set r i x (by simpa using h)
    simp only [List.set_cons_succ, List.sum_cons, List.getD_cons_succ]
    omega
/-- two places exchanged -/
def swapL (P : List Str) (i j : Nat) : List Str := (P.set i (P.getD j Str.empty)).set j (P.getD i Str.empty)
theorem swapL_len (P : List Str) (i j : Nat) : (swapL P i j).length = P.length := by unfold swapL; rw [List.length_set, List.length_set]
theorem swapL_sum {P : List Str} {i j : Nat} (hi : i < P.length) (hj : j < P.length) : ((swapL P i j).map (·.length)).sum = (P.map (·.length)).sum := by
  unfold swapL
  rw [List.map_set, List.map_set]
  have g : ∀ k, k < P.length → (P.map (·.length)).getD k 0 = (P.getD k Str.empty).length := fun k hk => by
    rw [List.getD_eq_getElem?_getD, List.getD_eq_getElem?_getD, List.getElem?_map, List.getElem?_eq_getElem hk]
    rfl
  have h1 := sum_set (P.map (·.length)) i (P.getD j Str.empty).length (by rw [List.length_map]; exact hi)
  have h2 := sum_set ((P.map (·.length)).set i (P.getD j Str.empty).length) j (P.getD i Str.empty).length (by rw [List.length_set, List.length_map]; exact hj)
  have h3 : ((P.map (·.length)).set i (P.getD j Str.empty).length).getD j 0 = (P.getD j Str.empty).length := by
    rw [List.getD_eq_getElem?_getD, List.getElem?_set]
    by_cases e : i = j
    · rw [if_pos e, if_pos (by rw [List.length_map]; exact hi)]
      rfl
    · rw [if_neg e, List.getElem?_map, List.getElem?_eq_getElem hj, List.getD_eq_getElem?_getD, List.getElem?_eq_getElem hj]
      rfl
  rw [h3] at h2
  rw [g i hi] at h1
  omega
theorem swapL_get {P : List Str} {i j k : Nat} (hi : i < P.length) (hj : j < P.length) (hk : k < P.length) : (swapL P i j)[k]? = some (if j = k then P.getD i Str.empty else if i = k then P.getD j Str.empty else P[k]) := by
  unfold swapL
  rw [List.getElem?_set]
  by_cases e : j = k
  · rw [if_pos e, if_pos (by rw [List.length_set]; exact hj), if_pos e]
  · rw [if_neg e, if_neg e, List.getElem?_set]
    by_cases e2 : i = k
    · rw [if_pos e2, if_pos hi, if_pos e2]
    · rw [if_neg e2, if_neg e2, List.getElem?_eq_getElem hk]
theorem turned_get {a b : V} {i j k : Nat} {z : V} : (valV (mergeK [] [((Sum.inl (i : Int) : Key), a), (Sum.inl (j : Int), b)]) (Sum.inl (k : Int) : Key)).getD z = if j = k then b else if i = k then a else z := by
  have e : mergeK [] [((Sum.inl (i : Int) : Key), a), (Sum.inl (j : Int), b)] = putK [((Sum.inl (i : Int) : Key), a)] (Sum.inl (j : Int)) b := rfl
  rw [e]
  unfold putK
  by_cases hij : i = j
  · subst hij
    simp only [List.any_cons, List.any_nil, decide_true, Bool.true_or, if_pos, List.map_cons, List.map_nil]
    by_cases hk : i = k
    · subst hk
      rw [valV_pos rfl, if_pos rfl]
      rfl
    · rw [valV_neg (by intro q; injection q with q; omega), valV_nil, if_neg hk, if_neg hk]
      rfl
  · have h1 : decide ((Sum.inl (i : Int) : Key) = Sum.inl (j : Int)) = false := decide_eq_false (by intro q; injection q with q; omega)
    simp only [List.any_cons, List.any_nil, h1, Bool.or_false, Bool.false_eq_true, if_false, List.cons_append, List.nil_append]
    by_cases hik : i = k
    · subst hik
      rw [valV_pos rfl, if_neg (Ne.symm hij), if_pos rfl]
      rfl
    · rw [valV_neg (by intro q; injection q with q; omega), if_neg hik]
      by_cases hjk : j = k
      · subst hjk
        rw [valV_pos rfl, if_pos rfl]
        rfl
      · rw [valV_neg (by intro q; injection q with q; omega), valV_nil, if_neg hjk]
        rfl
abbrev sSpoilt : Stmt := topS 39
theorem scSpoilt : FnScope ["dice", "text", "at", "way", "some", "parts", "one", "other", "turned", "place", "part"] ["dice", "text"] (defScope sSpoilt) := ⟨rfl, rfl, rfl, by decide +kernel, rfl, by decide +kernel, by decide +kernel⟩
def spSpoilt : Sp := fun vs H Q _ => ∃ (da : Addr) (z : Str), vs = [.ref da, .str z] ∧ Dice H da ∧ z.length ≤ 3000000 ∧ ∀ H' y, Kp da H H' → Dice H' da → y.length ≤ z.length + 4 → Q (.str y) H'
def shortV : V → Bool
  | .str y => decide (y.length ≤ 4)
  | _ => false
section
variable {P : Program} {w : World} {K : PySem.W.Frag} {mg : Str → Option Value} {base : Heap} {f r p : Addr} {fd rd_ pd : FuncData}
set_option maxHeartbeats 4000000 in
theorem ok_spoilt (D : Df K mg "_law_spoilt" sSpoilt ["dice", "text"] f fd) (R : Df K mg "_law_roll" sRoll ["dice", "total"] r rd_) (Pk : Df K mg "_law_pick" sPick ["dice", "items"] p pd) (B : Bn mg) (GR : FnOk P w K mg base CX0 1 r rd_ ["dice", "total"] spRoll) (GP : FnOk P w K mg base CX0 2 p pd ["dice", "items"] (spPick K)) :
    FnOk P w K mg base CX0 3 f fd ["dice", "text"] spSpoilt := by
  refine D.F.ok scSpoilt (fun vs H Q E h => ?_) (fun cdv A outer s H vs Q E hr h => ?_)
  · obtain ⟨da, z, rfl, _⟩ := h
    rfl
  obtain ⟨da, z, rfl, hd, hz, q⟩ := h
  have nd := scSpoilt.nd
  have hzs : z.length ≤ sizeLine := by rw [sizeLine_eq]; omega
  refine ⟨_, pss_cons (ps_par (i := 2) (j := 3) (by rfl) nd rfl rfl (by decide) rfl rfl (pa_cons (pe_call GR (hr.mono (by decide)) (by rfl) R.m R.F.kp R.b .nil pass0 (pa_cons (pv 0) (pa_cons (pe_op op_add (pe_callB call_len (by rfl) B.len bt_len (pa_cons (pv 1) pa_nil)) pe_int) pa_nil))) (pa_cons (pe_call GR (hr.mono (by decide)) (by rfl) R.m R.F.kp R.b .nil pass0 (pa_cons (pv 0) (pa_cons pe_int pa_nil))) pa_nil)) (by rfl))
    (pss_cons (ps_set (i := 4) nd rfl (.inl rfl) (pe_lst (pa_cons pe_str (pa_cons pe_str (pa_cons pe_str (pa_cons pe_str (pa_cons pe_str (pa_cons pe_str (pa_cons pe_str (pa_cons pe_str (pa_cons pe_str (pa_cons pe_str (pa_cons pe_str (pa_cons pe_str (pa_cons pe_str (pa_cons pe_str (pa_cons pe_str (pa_cons pe_str (pa_cons pe_str (pa_cons pe_str (pa_cons pe_str (pa_cons pe_str pa_nil))))))))))))))))))))))
    (pss_cons (ps_if (pt_cmpR op_lt (pv 3) pe_int (nomark _)) (pss_one (ps_ret (pe_op op_add_str (pe_op op_add_str (pe_slice sl_str (pv 1) po_none (po_some (pv 2))) (pe_call GP hr (by rfl) Pk.m Pk.F.kp Pk.b .nil pass0 (pa_cons (pv 0) (pa_cons (pv 4) pa_nil)))) (pe_slice sl_str (pv 1) (po_some (pv 2)) po_none)))) pss_nil)
    (pss_cons (ps_if (pt_cmpR op_lt (pv 3) pe_int (nomark _)) (pss_one (ps_ret (pe_op op_add_str (pe_op op_add_str (pe_slice sl_str (pv 1) po_none (po_some (pv 2))) (pe_call GP hr (by rfl) Pk.m Pk.F.kp Pk.b .nil pass0 (pa_cons (pv 0) (pa_cons (pv 4) pa_nil)))) (pe_slice sl_str (pv 1) (po_some (pe_op op_add (pv 2) pe_int)) po_none)))) pss_nil)
    (pss_cons (ps_if (pt_cmpR op_eq (pv 3) pe_int (nomark _)) (pss_one (ps_ret (pe_op op_add_str (pe_slice sl_str (pv 1) po_none (po_some (pv 2))) (pe_slice sl_str (pv 1) (po_some (pe_op op_add (pv 2) pe_int)) po_none)))) pss_nil)
    (pss_cons (ps_if (pt_cmpR op_eq (pv 3) pe_int (nomark _)) (pss_one (ps_ret (pe_op op_add_str (pe_op op_add_str (pe_slice sl_str (pv 1) po_none (po_some (pv 2))) (pe_slice sl_str (pv 1) (po_some (pv 2)) (po_some (pe_op op_add (pv 2) pe_int)))) (pe_slice sl_str (pv 1) (po_some (pv 2)) po_none)))) pss_nil)
    (pss_cons (ps_set (i := 5) nd rfl (.inl rfl) (pe_split (pv 1) pe_str))
    (pss_cons (ps_par (i := 6) (j := 7) (by rfl) nd rfl rfl (by decide) rfl rfl (pa_cons (pe_call GR (hr.mono (by decide)) (by rfl) R.m R.F.kp R.b .nil pass0 (pa_cons (pv 0) (pa_cons (pe_callB call_len_seq (by rfl) B.len bt_len (pa_cons (pv 5) pa_nil)) pa_nil))) (pa_cons (pe_call GR (hr.mono (by decide)) (by rfl) R.m R.F.kp R.b .nil pass0 (pa_cons (pv 0) (pa_cons (pe_callB call_len_seq (by rfl) B.len bt_len (pa_cons (pv 5) pa_nil)) pa_nil))) pa_nil)) (by rfl))
    (pss_cons (ps_set (i := 8) nd rfl (.inr rfl) (pe_callTy (call_dictP (by rfl)) (by rfl) B.dict bt_dict (pa_cons (pe_lst (pa_cons (pe_tup (pa_cons (pv 6) (pa_cons (pe_ix ix_list (pv 5) (pv 7) (fun _ _ => rfl)) pa_nil))) (pa_cons (pe_tup (pa_cons (pv 7) (pa_cons (pe_ix ix_list (pv 5) (pv 6) (fun _ _ => rfl)) pa_nil))) pa_nil))) pa_nil)))
    (pss_one (ps_ret (pe_ifExp (pt_cmpR op_eq (pv 3) pe_int (nomark _))
      (pe_join pe_str (pe_lc (own := [("place", 9), ("part", 10)]) (g := gTup K 2 (gCons (gName 9) (gCons (gName 10) gNil))) (tt := tYes) rfl nd (pi_enum (by rfl) B.enumerate (pa_cons (pv 5) pa_nil))
        (blkOk_by (N := ["dice", "text", "at", "way", "some", "parts", "one", "other", "turned", "place", "part"]) (sc := defScope sSpoilt) (by decide +kernel))
        (fun _ _ _ _ _ => pg_tup (by rfl) (pgs_cons (pg_name (i := 9) nd rfl (Or.inl rfl)) (pgs_cons (pg_name (i := 10) nd rfl (Or.inl rfl)) pgs_nil))) (fun _ _ _ _ _ => pts_nil) (fun _ _ _ _ _ => pe_dget2 (hu_of hr) (pv 8) (pv 9) (pv 10) ⟨by rfl, by rfl, by rfl, by rfl⟩)))
      (pe_join pe_str (pe_op op_cat (pe_slice sl_list (pv 5) po_none (po_some (pv 6))) (pe_slice sl_list (pv 5) (po_some (pe_op op_add (pv 6) pe_int)) po_none)))))))))))))), ?_⟩
  refine ⟨_, rfl, _, rfl, _, _, rfl, ⟨hzs, rfl⟩, _, _, rfl, rfl, da, (z.length : Nat) + 1, rfl, hd, by omega, by omega, fun H1 at1 k1 d1 _ _ a0 a1 => ?_⟩
  refine ⟨_, rfl, da, 9, rfl, d1, by decide, by decide, fun H2 way k2 d2 _ _ w0 w1 => ⟨_, _, rfl, ?_⟩⟩
  obtain ⟨at_, rfl⟩ : ∃ n : Nat, at1 = n := ⟨at1.toNat, by omega⟩
  have hat : at_ ≤ z.length := by omega
  refine ⟨(by show 20 ≤ sizeLine; decide), fun l hl => ?_⟩
  have hla : l ≠ da := d2.ne hl
  have k3 := (k1.trans k2).trans (Kp.new (o := HO.lst [V.str "(", V.str ")", V.str "{", V.str "}", V.str " ", V.str "\"", V.str "0", V.str "1", V.str "-", V.str "a", V.str "z", V.str "none", V.str "A", V.str "()", V.str "{}", V.str "\"\"", V.str " 0", V.str "0 0", V.str "[", V.str ","]) hl)
  have d3 := d2.new (o := HO.lst [V.str "(", V.str ")", V.str "{", V.str "}", V.str " ", V.str "\"", V.str "0", V.str "1", V.str "-", V.str "a", V.str "z", V.str "none", V.str "A", V.str "()", V.str "{}", V.str "\"\"", V.str " 0", V.str "0 0", V.str "[", V.str ","]) hl
  have hshort : ∀ x ∈ [V.str "(", V.str ")", V.str "{", V.str "}", V.str " ", V.str "\"", V.str "0", V.str "1", V.str "-", V.str "a", V.str "z", V.str "none", V.str "A", V.str "()", V.str "{}", V.str "\"\"", V.str " 0", V.str "0 0", V.str "[", V.str ","], shortV x = true := by decide +kernel
  have hL : upd H2 l (HO.lst [V.str "(", V.str ")", V.str "{", V.str "}", V.str " ", V.str "\"", V.str "0", V.str "1", V.str "-", V.str "a", V.str "z", V.str "none", V.str "A", V.str "()", V.str "{}", V.str "\"\"", V.str " 0", V.str "0 0", V.str "[", V.str ","]) l = some (.lst [V.str "(", V.str ")", V.str "{", V.str "}", V.str " ", V.str "\"", V.str "0", V.str "1", V.str "-", V.str "a", V.str "z", V.str "none", V.str "A", V.str "()", V.str "{}", V.str "\"\"", V.str " 0", V.str "0 0", V.str "[", V.str ","]) := upd_same
  generalize hLs : [V.str "(", V.str ")", V.str "{", V.str "}", V.str " ", V.str "\"", V.str "0", V.str "1", V.str "-", V.str "a", V.str "z", V.str "none", V.str "A", V.str "()", V.str "{}", V.str "\"\"", V.str " 0", V.str "0 0", V.str "[", V.str ","] = Ls at k3 d3 hshort hL
  have hLl : Ls.length = 20 := by rw [← hLs]; rfl
  have c0 := len_cut0 z at_
  have cE := len_cutE z at_
  have cE1 := len_cutE z (at_ + 1)
  have ea : ((at_ : Int) + 1) = ((at_ + 1 : Nat) : Int) := by omega
  have pick : ∀ Q' : VK, (∀ H4 y, Kp da H H4 → Dice H4 da → y.length ≤ 4 → Q' (.str y) H4) → spPick K [.ref da, .ref l] (upd H2 l (.lst Ls)) Q' E0 := fun Q' hQ =>
    ⟨da, .ref l, rfl, d3, .inl ⟨l, Ls, rfl, hla, SqL.of hL, by omega, by omega, fun H4 x k4 d4 _ hx => by
      have := hshort x hx
      cases x with
      | str y => exact hQ H4 y (k3.trans k4) d4 (of_decide_eq_true this)
      | _ => cases this⟩⟩
  refine ⟨_, rfl, _, _, rfl, rfl, _, rfl, ?_⟩
  refine ite2 (fun c => ?_) (fun c => ?_)
  · refine ⟨_, rfl, _, rfl, _, rfl, z, rfl, hzs, _, rfl, _, rfl, pick _ fun H4 y k4 d4 hy => ⟨_, _, rfl, rfl, by rw [c0, sizeLine_eq]; omega, _, rfl, _, rfl, _, rfl, z, rfl, hzs, _, _, rfl, rfl, by rw [len_app, c0, cE, sizeLine_eq]; omega, ?_⟩⟩
    exact q H4 _ k4 d4 (by rw [len_app, len_app, c0, cE]; omega)
  refine ⟨_, rfl, _, _, rfl, rfl, _, rfl, ?_⟩
  refine ite2 (fun c => ?_) (fun c => ?_)
  · refine ⟨_, rfl, _, rfl, _, rfl, z, rfl, hzs, _, rfl, _, rfl, pick _ fun H4 y k4 d4 hy => ⟨_, _, rfl, rfl, by rw [c0, sizeLine_eq]; omega, _, rfl, _, rfl, _, _, rfl, rfl, _, rfl, z, rfl, hzs, ?_⟩⟩
    rw [ea]
    refine ⟨_, _, rfl, rfl, by rw [len_app, c0, cE1, sizeLine_eq]; omega, ?_⟩
    exact q H4 _ k4 d4 (by rw [len_app, len_app, c0, cE1]; omega)
  refine ⟨_, rfl, rfl, _, rfl, ?_⟩
  refine ite2 (fun c => ?_) (fun c => ?_)
  · refine ⟨_, rfl, _, rfl, _, rfl, z, rfl, hzs, _, rfl, _, rfl, _, _, rfl, rfl, _, rfl, z, rfl, hzs, ?_⟩
    rw [ea]
    refine ⟨_, _, rfl, rfl, by rw [c0, cE1, sizeLine_eq]; omega, ?_⟩
    exact q _ _ k3 d3 (by rw [len_app, c0, cE1]; omega)
  refine ⟨_, rfl, rfl, _, rfl, ?_⟩
  refine ite2 (fun c => ?_) (fun c => ?_)
  · have c3 := len_cut z at_ (at_ + 3)
    have ea3 : ((at_ : Int) + 3) = ((at_ + 3 : Nat) : Int) := by omega
    refine ⟨_, rfl, _, rfl, _, rfl, z, rfl, hzs, _, rfl, _, rfl, _, rfl, _, rfl, _, _, rfl, rfl, _, rfl, z, rfl, hzs, ?_⟩
    rw [ea3]
    refine ⟨_, _, rfl, rfl, by rw [c0, sizeLine_eq]; omega, _, rfl, _, rfl, _, rfl, z, rfl, hzs, _, _, rfl, rfl, by rw [len_app, c0, cE, sizeLine_eq]; omega, ?_⟩
    exact q _ _ k3 d3 (by rw [len_app, len_app, c0, cE]; omega)
  have hsl := split_len z
  have hsn := split_ne z
  refine ⟨_, rfl, ⟨_, rfl⟩, _, _, rfl, rfl, by decide +kernel, by rw [sizeLine_eq]; omega, fun p0 hp0 => ?_⟩
  obtain ⟨Ps, hPs⟩ : ∃ Ps, Txt.split z " " = Ps := ⟨_, rfl⟩
  rw [hPs] at hsl hsn ⊢
  have hpa : p0 ≠ da := d3.ne hp0
  have k4 := k3.trans (Kp.new (o := HO.lst (Ps.map V.str)) hp0)
  have d4 := d3.new (o := HO.lst (Ps.map V.str)) hp0
  have hP : upd (upd H2 l (.lst Ls)) p0 (.lst (Ps.map V.str)) p0 = some (.lst (Ps.map V.str)) := upd_same
  generalize upd (upd H2 l (.lst Ls)) p0 (.lst (Ps.map V.str)) = H4 at k4 d4 hP
  refine ⟨_, rfl, _, rfl, p0, _, rfl, .inl (SqL.of hP), da, _, rfl, d4, by rw [List.length_map]; omega, by rw [List.length_map]; omega, fun H5 one k5 d5 _ _ o0 o1 => ?_⟩
  have hP5 := k5 _ _ hpa hP
  refine ⟨_, rfl, _, rfl, p0, _, rfl, .inl (SqL.of hP5), da, _, rfl, d5, by rw [List.length_map]; omega, by rw [List.length_map]; omega, fun H6 other k6 d6 _ _ t0 t1 => ⟨_, _, rfl, ?_⟩⟩
  have hP6 := k6 _ _ hpa hP5
  rw [List.length_map] at o1 t1
  obtain ⟨i, rfl⟩ : ∃ n : Nat, one = n := ⟨one.toNat, by omega⟩
  obtain ⟨j, rfl⟩ : ∃ n : Nat, other = n := ⟨other.toNat, by omega⟩
  have hi : i < Ps.length := by omega
  have hj : j < Ps.length := by omega
  have gi : (Ps.map V.str)[i]? = some (V.str (Ps.getD i Str.empty)) := by rw [List.getElem?_map, List.getElem?_eq_getElem hi, List.getD_eq_getElem?_getD, List.getElem?_eq_getElem hi]; rfl
  have gj : (Ps.map V.str)[j]? = some (V.str (Ps.getD j Str.empty)) := by rw [List.getElem?_map, List.getElem?_eq_getElem hj, List.getD_eq_getElem?_getD, List.getElem?_eq_getElem hj]; rfl
  have k06 := (k4.trans k5).trans k6
  refine ⟨_, rfl, _, rfl, _, rfl, p0, _, _, _, rfl, rfl, SqL.of hP6, atI_nat gj, (by show 2 ≤ sizeLine; decide), fun x1 hx1 => ?_⟩
  have s1 : Same H6 (upd H6 x1 (.tup [.int (i : Nat), .str (Ps.getD j Str.empty)])) := Same.new hx1
  refine ⟨_, rfl, _, rfl, _, rfl, p0, _, _, _, rfl, rfl, SqL.of (s1 _ _ hP6), atI_nat gi, (by show 2 ≤ sizeLine; decide), fun x2 hx2 => ?_⟩
  have s2 : Same (upd H6 x1 (.tup [.int (i : Nat), .str (Ps.getD j Str.empty)])) (upd (upd H6 x1 (.tup [.int (i : Nat), .str (Ps.getD j Str.empty)])) x2 (.tup [.int (j : Nat), .str (Ps.getD i Str.empty)])) := Same.new hx2
  refine ⟨(by show 2 ≤ sizeLine; decide), fun x3 hx3 => ?_⟩
  have s3 : Same (upd (upd H6 x1 (.tup [.int (i : Nat), .str (Ps.getD j Str.empty)])) x2 (.tup [.int (j : Nat), .str (Ps.getD i Str.empty)])) (upd (upd (upd H6 x1 (.tup [.int (i : Nat), .str (Ps.getD j Str.empty)])) x2 (.tup [.int (j : Nat), .str (Ps.getD i Str.empty)])) x3 (.lst [.ref x1, .ref x2])) := Same.new hx3
  refine ⟨x3, [x1, x2], [((Sum.inl (i : Int) : Key), .str (Ps.getD j Str.empty)), (Sum.inl (j : Int), .str (Ps.getD i Str.empty))], rfl, SqL.of upd_same, .cons (SqT.of (s3 _ _ (s2 _ _ upd_same))) (.cons (SqT.of (s3 _ _ upd_same)) .nil), fun x4 hx4 => ?_⟩
  have s16 : Same H6 (upd (upd (upd H6 x1 (.tup [.int (i : Nat), .str (Ps.getD j Str.empty)])) x2 (.tup [.int (j : Nat), .str (Ps.getD i Str.empty)])) x3 (.lst [.ref x1, .ref x2])) := Same.trans (Same.trans s1 s2) s3
  have s6 := Same.trans s16 (Same.new (o := HO.dK (mergeK [] [((Sum.inl (i : Int) : Key), V.str (Ps.getD j Str.empty)), (Sum.inl (j : Int), V.str (Ps.getD i Str.empty))])) hx4)
  have hT : upd (upd (upd (upd H6 x1 (.tup [.int (i : Nat), .str (Ps.getD j Str.empty)])) x2 (.tup [.int (j : Nat), .str (Ps.getD i Str.empty)])) x3 (.lst [.ref x1, .ref x2])) x4 (HO.dK (mergeK [] [((Sum.inl (i : Int) : Key), V.str (Ps.getD j Str.empty)), (Sum.inl (j : Int), V.str (Ps.getD i Str.empty))])) x4 = some (.dK (mergeK [] [((Sum.inl (i : Int) : Key), V.str (Ps.getD j Str.empty)), (Sum.inl (j : Int), V.str (Ps.getD i Str.empty))])) := upd_same
  generalize upd (upd (upd (upd H6 x1 (.tup [.int (i : Nat), .str (Ps.getD j Str.empty)])) x2 (.tup [.int (j : Nat), .str (Ps.getD i Str.empty)])) x3 (.lst [.ref x1, .ref x2])) x4 (HO.dK (mergeK [] [((Sum.inl (i : Int) : Key), V.str (Ps.getD j Str.empty)), (Sum.inl (j : Int), V.str (Ps.getD i Str.empty))])) = H7 at s6 hT
  have k7 := k06.trans (Kp.of_same s6)
  have d7 := d6.same s6
  have hP7 := s6 _ _ hP6
  refine ⟨_, rfl, rfl, _, rfl, ?_⟩
  refine ite2 (fun c => ?_) (fun c => ?_)
  · refine ⟨⟨_, rfl⟩, _, rfl, p0, _, rfl, SqL.of hP7, fun Da hDa => ?_⟩
    have hDp : p0 ≠ Da := ne_of_none hP7 hDa
    have hDT : x4 ≠ Da := ne_of_none hT hDa
    refine lc_it (walk_enum (xs := Ps.map V.str)) (fun n H' => ∃ us : List Str, H' Da = some (.lst (us.map V.str)) ∧ us = (swapL Ps i j).take n ∧ H' p0 = some (.lst (Ps.map V.str)) ∧ H' x4 = some (.dK (mergeK [] [((Sum.inl (i : Int) : Key), V.str (Ps.getD j Str.empty)), (Sum.inl (j : Int), V.str (Ps.getD i Str.empty))])) ∧ Dice H' da ∧ Kp da H H') ⟨[], upd_same, rfl, by rw [upd_ne hDp]; exact hP7, by rw [upd_ne hDT]; exact hT, d7.new hDa, k7.trans (Kp.new hDa)⟩ (fun n H' _ hp => by obtain ⟨us, _, _, h3, _⟩ := hp; exact SqL.of h3) (fun n y H8 H9 hn hp hy => ?_) (fun H8 hp => ?_)
    · obtain ⟨us, h1, h2, h3, h4, h5, h6⟩ := hp
      obtain ⟨Tt, x, y2, rfl, hTt, rfl, hx, hy2⟩ := hy
      cases hx
      rw [List.length_map] at hn
      replace hy2 : (Ps.map V.str)[n]? = some y2 := hy2
      rw [List.getElem?_map, List.getElem?_eq_getElem hn] at hy2
      cases hy2
      have sT : Same H8 (upd H8 Tt (.tup [.int (n : Nat), .str Ps[n]])) := Same.new hTt
      refine ⟨Tt, _, rfl, SqT.of upd_same, rfl, _, _, rfl, _, _, rfl, rfl, rfl, ?_⟩
      refine tYes_if ?_
      refine ⟨_, rfl, x4, rfl, .inl ⟨_, .inl (sT _ _ h4)⟩, _, rfl, _, rfl, _, DGet.k (k := (Sum.inl (n : Int) : Key)) (sT _ _ h4), ?_⟩
      rw [turned_get]
      have hD9 := sT _ _ h1
      have hus : us.length ≤ Ps.length := by rw [h2, List.length_take, swapL_len]; omega
      have hsw := swapL_get hi hj hn
      have ev : (if j = n then V.str (Ps.getD i Str.empty) else if i = n then V.str (Ps.getD j Str.empty) else V.str Ps[n]) = V.str (if j = n then Ps.getD i Str.empty else if i = n then Ps.getD j Str.empty else Ps[n]) := by
        split
        · rfl
        · split <;> rfl
      rw [ev]
      refine ⟨_, hD9, by rw [List.length_map, sizeLine_eq]; omega, us ++ [if j = n then Ps.getD i Str.empty else if i = n then Ps.getD j Str.empty else Ps[n]], by rw [upd_same, List.map_append]; rfl, ?_, by rw [upd_ne hDp]; exact sT _ _ h3, ?_, ?_, ?_⟩
      · rw [h2, List.take_succ, hsw]
        rfl
      · rw [upd_ne hDT]
        exact sT _ _ h4
      · obtain ⟨g', t', q', r'⟩ := h5.same sT
        exact ⟨g', t', by rw [upd_ne (Ne.symm (d7.ne hDa))]; exact q', r'⟩
      · exact (h6.trans (Kp.of_same sT)).updN (by
          cases hh : H Da with
          | none => rfl
          | some o =>
            have := k7 Da o (d7.ne hDa) hh
            rw [this] at hDa; cases hDa)
    · obtain ⟨us, h1, h2, h3, h4, h5, h6⟩ := hp
      rw [List.length_map, List.take_of_length_le (by rw [swapL_len]; exact Nat.le_refl _)] at h2
      have hsum := swapL_sum hi hj
      rw [← h2] at hsum
      have hul : us.length = Ps.length := by rw [h2, swapL_len]
      have e1 : (Str.ofString " ").length = 1 := by decide +kernel
      refine ⟨_, Da, us, rfl, rfl, .inl (SqL.of h1), by rw [e1, hsum, hul]; omega, ?_⟩
      refine q H8 _ h6 h5 ?_
      rw [TL.join_eq, TL.len_tl, TL.tl_join]
      have e32 : tl (Str.ofString " ") = [32] := by decide +kernel
      rw [e32]
      have g := joinL_le (us.map tl)
      rw [List.map_map, List.length_map] at g
      have f : (List.length ∘ tl) = fun x : Str => x.length := funext fun x => (TL.len_tl x).symm
      rw [f] at g
      omega
  · have e1 : (Str.ofString " ").length = 1 := by decide +kernel
    have ei : ((i : Int) + 1) = ((i + 1 : Nat) : Int) := by omega
    refine ⟨⟨_, rfl⟩, _, rfl, _, rfl, _, rfl, p0, _, rfl, SqL.of hP7, fun y1 hy1 => ?_⟩
    rw [cutM0]
    have s8 : Same H7 (upd H7 y1 (.lst ((Ps.take i).map V.str))) := Same.new hy1
    refine ⟨_, rfl, _, rfl, _, _, rfl, rfl, _, rfl, p0, _, rfl, SqL.of (s8 _ _ hP7), fun y2 hy2 => ?_⟩
    rw [ei, cutME]
    have s9 : Same (upd H7 y1 (.lst ((Ps.take i).map V.str))) (upd (upd H7 y1 (.lst ((Ps.take i).map V.str))) y2 (.lst ((Ps.drop (i + 1)).map V.str))) := Same.new hy2
    refine ⟨y1, y2, _, _, rfl, rfl, s9 _ _ upd_same, upd_same, by rw [List.length_map, List.length_map, List.length_take, List.length_drop, sizeLine_eq]; omega, fun y3 hy3 => ?_⟩
    have s10 := Same.trans (Same.trans s8 s9) (Same.new (o := HO.lst ((Ps.take i).map V.str ++ (Ps.drop (i + 1)).map V.str)) hy3)
    obtain ⟨us, hus⟩ : ∃ us, Ps.take i ++ Ps.drop (i + 1) = us := ⟨_, rfl⟩
    have hsum : (us.map (·.length)).sum ≤ (Ps.map (·.length)).sum := by
      rw [← hus, List.map_append, List.sum_append]
      have e := congrArg (fun L => (L.map Str.length).sum) (List.take_append_drop i Ps)
      rw [List.drop_eq_getElem_cons hi] at e
      simp only [List.map_append, List.sum_append, List.map_cons, List.sum_cons] at e
      have e' : (Ps.map (fun x : Str => x.length)).sum = (Ps.map Str.length).sum := rfl
      have e2 : ((Ps.take i).map (fun x : Str => x.length)).sum = ((Ps.take i).map Str.length).sum := rfl
      have e3 : ((Ps.drop (i + 1)).map (fun x : Str => x.length)).sum = ((Ps.drop (i + 1)).map Str.length).sum := rfl
      rw [e', e2, e3]
      omega
    have hul : us.length ≤ Ps.length := by rw [← hus, List.length_append, List.length_take, List.length_drop]; omega
    refine ⟨_, y3, us, rfl, rfl, .inl (SqL.of (by rw [upd_same, ← List.map_append, hus])), by rw [e1]; omega, ?_⟩
    refine q _ _ (k7.trans (Kp.of_same s10)) (d7.same s10) ?_
    rw [TL.join_eq, TL.len_tl, TL.tl_join]
    have e32 : tl (Str.ofString " ") = [32] := by decide +kernel
    rw [e32]
    have g := joinL_le (us.map tl)
    rw [List.map_map, List.length_map] at g
    have f : (List.length ∘ tl) = fun x : Str => x.length := funext fun x => (TL.len_tl x).symm
    rw [f] at g
    omega
end
end K15
end

section
set_option Elab.async false
set_option linter.all false
set_option maxRecDepth 100000
set_option pp.maxSteps 900
namespace K15
open PySem PySem.Spec PyProof.Rows L2 TL

theorem met_ok (d : PyData) (hs : shortS d) : ∃ ds, metD d = .tuple ds ∧ okDs ds = true ∧ PyData.depthAll ds ≤ 40 ∧ (PyData.tuple ds).shown.length ≤ sizeLine := by
  have fin : ∀ ds, okDs ds = true → wts ds ≤ 2 ^ 23 + 2 ^ 22 + 100 → (PyData.tuple ds).shown.length ≤ sizeLine := fun ds h1 h2 => by
    have := shown_le (.tuple ds) (by simpa only [okD] using h1)
    simp only [wt] at this
    rw [sizeLine_eq]
    omega
  unfold metD
  cases hr : readD d with
  | none =>
    have h1 : okDs [.str "parse", .none] = true := by decide +kernel
    refine ⟨_, rfl, h1, by decide +kernel, fin _ h1 ?_⟩
    have : wts [.str "parse", .none] = 15 := by decide +kernel
    rw [this]
    decide
  | some e =>
    obtain ⟨z, rfl⟩ : ∃ z, d = .str z := by
      cases d <;> first | exact ⟨_, rfl⟩ | cases hr
    have hz := hs z rfl
    have hr : dueOf (tl z) = some e := hr
    unfold dueOf at hr
    have hlz := TL.len_tl z
    cases hr0 : rd 30 30 (tl z) with
    | none => rw [hr0] at hr; cases hr
    | some dr =>
      obtain ⟨e2, rest⟩ := dr
      rw [hr0] at hr
      obtain ⟨u, g⟩ := rd_got 30 30 _ _ _ hr0
      have hg := g.sz
      have hl := congrArg List.length g.eq
      rw [List.length_append] at hl
      cases rest with
      | cons c r => cases hr
      | nil =>
        have hr : e2 = e := by injection hr
        subst hr
        have h4 : okD (.str "told") = true := by decide +kernel
        have h1 : okDs [.str "told", e2] = true := by simp only [okDs, h4, g.ok, Bool.and_self]
        refine ⟨_, rfl, h1, ?_, fin _ h1 ?_⟩
        · have := depth_of_plain e2 _ g.pl
          simp only [PyData.depthAll, PyData.depth]
          omega
        · have e0 : wt (.str "told") = 6 := by decide +kernel
          simp only [wts, e0]
          omega
abbrev tMR (w : World) (i : Nat) : TE := tCB (rReprT w) (tCons (tCall (spMet w) [] E0 (tCons (tVar i) tNil)) tNil)
abbrev tDR (w : World) (i : Nat) : TE := tCB (rReprT w) (tCons (tCall (spDue w) [] E0 (tCons (tVar i) tNil)) tNil)
theorem repr_ne {w : World} {i : Nat} {σ : St} {H : Hp} {z : Str} {Q : Bool → Hp → Prop} (hσ : σ[i]? = some (some (.str z))) (hz : z.length < 2 ^ 22) (q : ∀ H', Same H H' → Q false H') : tTest (tOp rNe (tMR w i) (tDR w i)) σ H Q := by
  obtain ⟨ds, e, ok, dp, sh⟩ := met_ok (.str z) (fun y hy => by cases hy; exact hz)
  refine ⟨_, hσ, .str z, .str z, rfl, .str z, fun y hy => by cases hy; exact hz, fun H1 v s1 av => ?_⟩
  rw [e] at av
  obtain ⟨p, xs, rfl, _, _⟩ := id av.inv_tup
  refine ⟨p, ds, rfl, av, ok, dp, sh, _, hσ, z, rfl, hz, fun H2 v2 s2 av2 => ?_⟩
  rw [e] at av2
  obtain ⟨p2, xs2, rfl, _, _⟩ := id av2.inv_tup
  refine ⟨p2, ds, rfl, av2, ok, dp, sh, rfl, _, rfl, ?_⟩
  rw [decide_eq_true rfl]
  exact q H2 (Same.trans s1 s2)
theorem due_txt {d : PyData} (h : okD d = true) (hp : plain 30 d = true) : dueOf (txt d) = some (srt d) := by
  have := rd_txt d h 30 30 [] (Nat.le_refl _) (fun c hc => by simp at hc)
  rw [List.append_nil, if_pos hp] at this
  unfold dueOf
  rw [this]
abbrev sVRight : Stmt := topS 41
theorem scVRight : FnScope ["dice", "value", "text", "turn", "wrong", "time"] ["dice", "value"] (defScope sVRight) := ⟨rfl, rfl, rfl, by decide +kernel, rfl, by decide +kernel, by decide +kernel⟩
def spVRight (w : World) : Sp := fun vs H Q _ => ∃ (da : Addr) (x : V) (d : PyData) (n : Nat), vs = [.ref da, x] ∧ At w H x d ∧ n ≤ 9 ∧ ValD n d ∧ Dice H da ∧ ∀ H', Kp da H H' → Dice H' da → Q (.bl true) H'
section
variable {P : Program} {w : World} {K : PySem.W.Frag} {mg : Str → Option Value} {base : Heap} {f pt ip vt ow mt du rv pk sp_ : Addr} {fd ptd ipd vtd owd mtd dud rvd pkd spd : FuncData} {CI CP : Addr}
set_option maxHeartbeats 2000000 in
theorem ok_vright (D : Df K mg "_law_value_right" sVRight ["dice", "value"] f fd) (B : Bn mg) (hnd : base.NoDigits)
    (Pt : Df K mg "_law_plain_text" sPlainText ["value"] pt ptd) (Ip : Df K mg "is_plain" sIsPlain ["value"] ip ipd) (Vt : Df K mg "value_text" sVText ["value"] vt vtd) (Ow : Df K mg "_law_other_way" sOther ["dice", "value"] ow owd)
    (Mt_ : Df K mg "_law_met" sMet ["text"] mt mtd) (Du : Df K mg "_law_due" sDue ["text"] du dud) (Rv : Df K mg "read_value" sReadV ["value"] rv rvd) (Pk : Df K mg "_law_pick" sPick ["dice", "items"] pk pkd) (Sp_ : Df K mg "_law_spoilt" sSpoilt ["dice", "text"] sp_ spd)
    (GPT : FnOk P w K mg base CX0 40 pt ptd ["value"] (spPText w 40)) (GIP : FnOk P w K mg base CX0 34 ip ipd ["value"] (spIsPlain w)) (GVT : FnOk P w K mg base (L2.CX P w) 35 vt vtd ["value"] (spVText w CI)) (GOW : FnOk P w K mg base CX0 42 ow owd ["dice", "value"] (spOther w 40))
    (GM : FnOk P w K mg base CX0 105 mt mtd ["text"] (spMet w)) (GD : FnOk P w K mg base CX0 73 du dud ["text"] (spDue w)) (GRV : FnOk P w K mg base (L2.CX P w) 104 rv rvd ["value"] (spReadV w CP)) (GP : FnOk P w K mg base CX0 2 pk pkd ["dice", "items"] (spPick K)) (GS : FnOk P w K mg base CX0 3 sp_ spd ["dice", "text"] spSpoilt) :
    FnG P w K mg base 106 f fd ["dice", "value"] (spVRight w) := by
  refine FnG.ofFun D.F scVRight (fun vs H Q E h => ?_) (fun cdv A outer s H vs Q E hg hr h => ?_)
  · obtain ⟨da, x, d, n, rfl, _⟩ := h
    rfl
  obtain ⟨da, x, d, n, rfl, ax, hn9, hv, hd, q⟩ := h
  have nd := scVRight.nd
  have hg2 := deeper_guards (env := envOfC "_law_value_right" (defScope sVRight) s.heap.objs.size f cdv) hg
  refine ⟨_, pss_cons (ps_set (i := 2) nd rfl (.inl rfl) (pe_call GPT (hr.mono (by decide)) (by rfl) Pt.m Pt.F.kp Pt.b .nil pass0 (pa_cons (pv 1) pa_nil)))
    (pss_cons (ps_if (pw_or (pt_cmpR op_notBl (pe_call GIP (hr.mono (by decide)) (by rfl) Ip.m Ip.F.kp Ip.b .nil pass0 (pa_cons (pv 1) pa_nil)) pe_bl (nomark _))
        (pw_or (pt_cmpR op_ne (pe_call GVT (hr.mono (by decide)) (by rfl) Vt.m Vt.F.kp Vt.b .nil passL (pa_cons (pe_call GOW (hr.mono (by decide)) (by rfl) Ow.m Ow.F.kp Ow.b .nil pass0 (pa_cons (pv 0) (pa_cons (pv 1) pa_nil))) pa_nil)) (pv 2) (nomark _))
        (pw_or1 (pt_cmpR op_ne (pe_callB (call_reprT (by exact hr.units) (by exact hg2) (by exact hnd)) (by rfl) B.repr bt_repr (pa_cons (pe_call GM hr (by rfl) Mt_.m Mt_.F.kp Mt_.b .nil pass0 (pa_cons (pv 2) pa_nil)) pa_nil)) (pe_callB (call_reprT (by exact hr.units) (by exact hg2) (by exact hnd)) (by rfl) B.repr bt_repr (pa_cons (pe_call GD (hr.mono (by decide)) (by rfl) Du.m Du.F.kp Du.b .nil pass0 (pa_cons (pv 2) pa_nil)) pa_nil)) (nomark _))))).pt
      (pss_one (ps_ret pe_bl)) pss_nil)
    (pss_cons (ps_if (pt_cmpR (op_neA (by exact hr.units)) (pe_call GRV (hr.mono (by decide)) (by rfl) Rv.m Rv.F.kp Rv.b .nil passL (pa_cons (pv 2) pa_nil)) (pv 1) (nomark _)) (pss_one (ps_ret pe_bl)) pss_nil)
    (pss_cons (ps_for PassesOwn.never rfl (pi_range1 (by rfl) B.range (pa_cons pe_int pa_nil)) (pg_name (i := 3) nd rfl (Or.inl rfl))
      (pss_cons (ps_set (i := 4) nd rfl (.inl rfl) (pv 2))
      (pss_cons (ps_for PassesOwn.never rfl (pi_range1 (by rfl) B.range (pa_cons (pe_call GP (hr.mono (by decide)) (by rfl) Pk.m Pk.F.kp Pk.b .nil pass0 (pa_cons (pv 0) (pa_cons (pe_lst (pa_cons pe_int (pa_cons pe_int (pa_cons pe_int (pa_cons pe_int pa_nil))))) pa_nil))) pa_nil)) (pg_name (i := 5) nd rfl (Or.inl rfl))
        (pss_one (ps_set (i := 4) nd rfl (.inl rfl) (pe_call GS (hr.mono (by decide)) (by rfl) Sp_.m Sp_.F.kp Sp_.b .nil pass0 (pa_cons (pv 0) (pa_cons (pv 4) pa_nil))))))
      (pss_one (ps_if (pt_cmpR op_ne (pe_callB (call_reprT (by exact hr.units) (by exact hg2) (by exact hnd)) (by rfl) B.repr bt_repr (pa_cons (pe_call GM hr (by rfl) Mt_.m Mt_.F.kp Mt_.b .nil pass0 (pa_cons (pv 4) pa_nil)) pa_nil)) (pe_callB (call_reprT (by exact hr.units) (by exact hg2) (by exact hnd)) (by rfl) B.repr bt_repr (pa_cons (pe_call GD (hr.mono (by decide)) (by rfl) Du.m Du.F.kp Du.b .nil pass0 (pa_cons (pv 4) pa_nil)) pa_nil)) (nomark _)) (pss_one (ps_ret pe_bl)) pss_nil)))))
    (pss_one (ps_ret pe_bl))))), ?_⟩
  have hpl := plain_mono d (show n ≤ 30 by omega) hv.pl
  have hdep := depth_of_plain d _ hv.pl
  have hln : (txt d).length ≤ 2553062 := Nat.le_trans hv.ln ((by decide +kernel : ∀ n < 10, vb n ≤ 2553062) n (by omega))
  have hbig : (txt d).length < big := by have : big = 2 ^ 24 := rfl; omega
  have h8 := k8_plain d _ hv.pl
  have h22 : (txt d).length < 2 ^ 22 := by omega
  refine ⟨_, rfl, x, d, rfl, by omega, ax, hv.ok, h8, hbig, fun H1 z s1 ez => ?_⟩
  have hzl : z.length = (txt d).length := by rw [TL.len_tl, ez]
  have hz22 : z.length < 2 ^ 22 := by omega
  have ax1 := ax.keep (Same.keep s1)
  refine ⟨_, rfl, x, d, rfl, ax1, hbig, fun H2 s2 => ⟨_, _, rfl, rfl, _, rfl, ?_⟩⟩
  rw [hpl]
  refine ite2 (fun c => by cases c) (fun _ => ?_)
  have s12 := Same.trans s1 s2
  have ax2 := ax.keep (Same.keep s12)
  have d2 := hd.same s12
  refine ⟨_, rfl, _, rfl, da, x, d, rfl, by omega, ax2, hv.ok, h8, h22, d2, fun H3 y e k3 d3 ay we => ?_⟩
  have ws := way_same we hv.ok
  have k13 : Kp da H H3 := (Kp.of_same s12).trans k3
  refine ⟨y, e, rfl, ay, by rw [ws.tx]; exact hbig, fun _ => ws.ok, fun _ H4 z2 s4 ez2 => ?_, fun hp => ?_⟩
  rotate_left
  · rw [ws.pl, hpl] at hp
    cases hp
  have ezz : z2 = z := TL.ext_tl (by rw [ez2, ws.tx, ez])
  subst ezz
  have k14 := k13.trans (Kp.of_same s4)
  have d4 := d3.same s4
  refine ⟨_, rfl, rfl, _, rfl, ?_⟩
  refine iteNS rfl ?_
  refine repr_ne (w := w) (i := 2) (z := z2) rfl hz22 fun H5 s5 => ?_
  have k15 := k14.trans (Kp.of_same s5)
  have d5 := d4.same s5
  refine ite_ff' ?_
  have hdue : readD (.str z2) = some (srt d) := by
    show dueOf (tl z2) = _
    rw [ez]
    exact due_txt hv.ok hpl
  refine ⟨_, rfl, .str z2, .str z2, rfl, .str z2, fun y hy => by cases hy; exact hz22, fun dd hdd H6 v s6 av => ?_, fun hn => ?_⟩
  rotate_left
  · rw [hdue] at hn; cases hn
  rw [hdue] at hdd
  have hdd := Option.some.inj hdd
  subst hdd
  have k16 := k15.trans (Kp.of_same s6)
  have d6 := d5.same s6
  refine ⟨_, rfl, d, 30, hv.ok, hpl, by decide, av, ax.keep (k16.keep hd), _, rfl, ?_⟩
  refine ite_ff' ?_
  refine ⟨(5 : Int), rfl, by decide, by decide, ?_⟩
  refine for_range (lo := 0) (n := 5) (fun i σ H' => ∃ o3 o4 o5 : Option V, σ = [some (.ref da), some x, some (.str z2), o3, o4, o5] ∧ Dice H' da ∧ Kp da H H') ⟨none, none, none, rfl, d6, k16⟩ (fun i σ H7 hi hp => ?_) (fun σ H7 hp => ?_)
  · obtain ⟨o3, o4, o5, rfl, d7, k7⟩ := hp
    refine ⟨_, rfl, ?_⟩
    refine ⟨_, rfl, (by show 4 ≤ sizeLine; decide), fun a ha => ?_⟩
    refine ⟨da, .ref a, rfl, d7.new ha, .inl ⟨a, _, rfl, d7.ne ha, SqL.of upd_same, by decide, by decide, fun H8 v k8 d8 _ hv8 => ?_⟩⟩
    obtain ⟨m, rfl, hm⟩ : ∃ m : Nat, v = .int m ∧ m ≤ 3 := by
      simp only [List.mem_cons, List.not_mem_nil, or_false] at hv8
      rcases hv8 with rfl | rfl | rfl | rfl
      · exact ⟨1, rfl, by decide⟩
      · exact ⟨1, rfl, by decide⟩
      · exact ⟨2, rfl, by decide⟩
      · exact ⟨3, rfl, by decide⟩
    have k08 := (k7.trans (Kp.new ha)).trans k8
    refine ⟨(m : Int), rfl, by omega, by omega, ?_⟩
    refine for_range (lo := 0) (n := m) (fun j σ H' => ∃ (y : Str) (o5 : Option V), σ = [some (.ref da), some x, some (.str z2), some (.int (0 + (i : Int))), some (.str y), o5] ∧ y.length ≤ z2.length + 4 * j ∧ Dice H' da ∧ Kp da H H') ⟨z2, o5, rfl, by omega, d8, k08⟩ (fun j σ H9 hj hp => ?_) (fun σ H9 hp => ?_)
    · obtain ⟨y, o5, rfl, hy, d9, k9⟩ := hp
      refine ⟨_, rfl, _, rfl, da, y, rfl, d9, by omega, fun H10 y3 k10 d10 hy3 => ?_⟩
      exact ⟨y3, _, rfl, by omega, d10, k9.trans k10⟩
    · obtain ⟨y, o5, rfl, hy, d9, k9⟩ := hp
      refine repr_ne (w := w) (i := 4) (z := y) rfl (by omega) fun H10 s10 => ?_
      refine ite_ff' ?_
      exact ⟨_, _, _, rfl, d9.same s10, k9.trans (Kp.of_same s10)⟩
  · obtain ⟨o3, o4, o5, rfl, d7, k7⟩ := hp
    exact q H7 k7 d7
end
end K15
end

section
set_option Elab.async false
set_option linter.all false
set_option maxRecDepth 100000
set_option pp.maxSteps 900
namespace K15
open PySem PySem.Spec PyProof.Rows L2 TL

/-! ### what is nested -/
theorem la : leafStr (Str.ofString "a") = true := by decide +kernel
theorem plain_nest (b : Bool) : ∀ (n left : Nat) (d : PyData), plain left (nest b n d) = (decide (n ≤ left) && plain (left - n) d)
  | 0, left, d => by
    show plain left d = _
    rw [decide_eq_true (Nat.zero_le _), Bool.true_and, Nat.sub_zero]
  | n + 1, left, d => by
    cases b with
    | true =>
      have e : nest true (n + 1) d = .dict [(.str "a", nest true n d)] := rfl
      rw [e]
      simp only [plain, plainKv, la, Bool.true_and, Bool.and_true, plain_nest true n (left - 1) d]
      rw [show left - 1 - n = left - (n + 1) by omega]
      by_cases h : n + 1 ≤ left
      · rw [decide_eq_true h, decide_eq_true (show 0 < left by omega), decide_eq_true (show n ≤ left - 1 by omega)]; rfl
      · rw [decide_eq_false h, Bool.false_and]
        by_cases h0 : 0 < left
        · rw [decide_eq_false (show ¬ n ≤ left - 1 by omega), Bool.false_and, Bool.and_false]
        · rw [decide_eq_false h0, Bool.false_and]
    | false =>
      have e : nest false (n + 1) d = .tuple [nest false n d] := rfl
      rw [e]
      simp only [plain, plains, Bool.and_true, plain_nest false n (left - 1) d]
      rw [show left - 1 - n = left - (n + 1) by omega]
      by_cases h : n + 1 ≤ left
      · rw [decide_eq_true h, decide_eq_true (show 0 < left by omega), decide_eq_true (show n ≤ left - 1 by omega)]; rfl
      · rw [decide_eq_false h, Bool.false_and]
        by_cases h0 : 0 < left
        · rw [decide_eq_false (show ¬ n ≤ left - 1 by omega), Bool.false_and, Bool.and_false]
        · rw [decide_eq_false h0, Bool.false_and]
theorem okD_one {k v : PyData} (h1 : okD k = true) (h2 : hasD k = false) (h3 : okD v = true) : okD (.dict [(k, v)]) = true := by
  simp [okD, okKv, txtKv, h1, h2, h3]
theorem k8_one {k v : PyData} (h1 : k8 k = true) (h2 : k.depth ≤ 8) (h3 : k8 v = true) : k8 (.dict [(k, v)]) = true := by
  simp [k8, k8Kv, h1, h2, h3]
theorem okD_nest (b : Bool) : ∀ (n : Nat) (d : PyData), okD d = true → okD (nest b n d) = true
  | 0, d, h => h
  | n + 1, d, h => by
    cases b with
    | true => exact okD_one (by simpa only [okD] using la) rfl (okD_nest true n d h)
    | false =>
      have e : nest false (n + 1) d = .tuple [nest false n d] := rfl
      rw [e]
      simp only [okD, okDs, okD_nest false n d h, Bool.and_self]
theorem k8_nest (b : Bool) : ∀ (n : Nat) (d : PyData), k8 d = true → k8 (nest b n d) = true
  | 0, d, h => h
  | n + 1, d, h => by
    cases b with
    | true => exact k8_one rfl (by simp only [PyData.depth]; omega) (k8_nest true n d h)
    | false =>
      have e : nest false (n + 1) d = .tuple [nest false n d] := rfl
      rw [e]
      simp only [k8, k8s, k8_nest false n d h, Bool.and_self]
theorem depth_one {k v : PyData} : (PyData.dict [(k, v)]).depth ≤ 1 + max k.depth v.depth := by
  simp only [PyData.depth, PyData.depthKv]
  omega
theorem depth_nest (b : Bool) : ∀ (n : Nat) (d : PyData), (nest b n d).depth ≤ n + d.depth
  | 0, d => by show d.depth ≤ _; omega
  | n + 1, d => by
    have ih := depth_nest b n d
    cases b with
    | true =>
      have h := depth_one (k := .str "a") (v := nest true n d)
      have e0 : (PyData.str (Str.ofString "a")).depth = 0 := by simp only [PyData.depth]
      rw [e0] at h
      have e : nest true (n + 1) d = .dict [(.str "a", nest true n d)] := rfl
      rw [e]
      omega
    | false =>
      have e : nest false (n + 1) d = .tuple [nest false n d] := rfl
      rw [e]
      simp only [PyData.depth, PyData.depthAll]
      omega
theorem txt_one (k v : PyData) : (txt (.dict [(k, v)])).length = (txt k).length + (txt v).length + 3 := by
  simp only [txt, txtKv, srtE, insE, List.foldr, List.map_cons, List.map_nil, joinL, List.length_cons, List.length_append, List.length_nil]
  omega
theorem txt_nest (b : Bool) : ∀ (n : Nat) (d : PyData), (txt (nest b n d)).length ≤ 6 * n + (txt d).length
  | 0, d => by show (txt d).length ≤ _; omega
  | n + 1, d => by
    have ih := txt_nest b n d
    cases b with
    | true =>
      have e : nest true (n + 1) d = .dict [(.str "a", nest true n d)] := rfl
      have e0 : (txt (PyData.str (Str.ofString "a"))).length = 3 := by decide +kernel
      rw [e, txt_one, e0]
      omega
    | false =>
      have e : nest false (n + 1) d = .tuple [nest false n d] := rfl
      rw [e]
      simp only [txt, txts, joinL, List.length_cons, List.length_append, List.length_nil]
      omega
theorem hasD_nest : ∀ (n : Nat) (d : PyData), hasD d = false → hasD (nest false n d) = false
  | 0, d, h => h
  | n + 1, d, h => by
    have e : nest false (n + 1) d = .tuple [nest false n d] := rfl
    rw [e]
    simp only [hasD, hasDs, hasD_nest n d h, Bool.or_false]
structure DeepD (d : PyData) (due : Bool) : Prop where
  ok : okD d = true
  k8 : K15.k8 d = true
  dp : d.depth < 40
  ln : (txt d).length < 2 ^ 22
  pl : plain 30 d = due
theorem LeafD.pl {d : PyData} (h : LeafD d) (n : Nat) : plain n d = true := plain_of_depth d n h.ok h.nd (by rw [h.dp]; exact Nat.zero_le _)
theorem deep_nest {b : Bool} {n : Nat} {d : PyData} {due : Bool} (hn : n ≤ 31) (ok : okD d = true) (h8 : k8 d = true) (hd : d.depth ≤ 8) (hl : (txt d).length ≤ 1000) (hp : (decide (n ≤ 30) && plain (30 - n) d) = due) : DeepD (nest b n d) due := by
  have h1 := depth_nest b n d
  have h2 := txt_nest b n d
  exact ⟨okD_nest b n d ok, k8_nest b n d h8, by omega, by omega, by rw [plain_nest]; exact hp⟩
theorem plain_one {k v : PyData} {left : Nat} : plain left (.dict [(k, v)]) = (decide (0 < left) && (plain (min (left - 1) 6) k && plain (left - 1) v)) := by
  simp only [plain, plainKv, Bool.and_true]
theorem deep_key {m n : Nat} {l v : PyData} {due : Bool} (hl : LeafD l) (hv : LeafD v) (hm : m ≤ 7) (hn : n ≤ 29) (hp : decide (m ≤ min (29 - n) 6) = due) : DeepD (nest false n (.dict [(nest false m l, v)])) due := by
  have a1 := depth_nest false m l
  have a2 := txt_nest false m l
  have a3 := hl.dp
  have a4 := hl.ln
  have b3 := hv.dp
  have b4 := hv.ln
  have hk8l : ∀ x, LeafD x → k8 x = true := fun x h => k8_plain x 30 (h.pl 30)
  have c1 := depth_one (k := nest false m l) (v := v)
  have c2 := txt_one (nest false m l) v
  have d1 := depth_nest false n (.dict [(nest false m l, v)])
  have d2 := txt_nest false n (.dict [(nest false m l, v)])
  refine ⟨okD_nest _ _ _ (okD_one (okD_nest _ _ _ hl.ok) (hasD_nest _ _ hl.nd) hv.ok), k8_nest _ _ _ (k8_one (k8_nest _ _ _ (hk8l l hl)) (by omega) (hk8l v hv)), by omega, by omega, ?_⟩
  rw [plain_nest, plain_one, plain_nest, hl.pl, hv.pl, Bool.and_true, Bool.and_true, decide_eq_true (show n ≤ 30 by omega), decide_eq_true (show 0 < 30 - n by omega), Bool.true_and, Bool.true_and, show 30 - n - 1 = 29 - n by omega]
  exact hp
theorem due_none {d : PyData} (h : okD d = true) (hp : plain 30 d = false) : dueOf (txt d) = none := by
  have := rd_txt d h 30 30 [] (Nat.le_refl _) (fun c hc => by simp at hc)
  rw [List.append_nil, hp, if_neg Bool.false_ne_true] at this
  unfold dueOf
  rw [this]
theorem disp_at {w : World} {H : Hp} {p : Addr} {x y : V} {kd vd : PyData} {ku vu : Value} {o : Obj} {u : HO} (hp : H p = some (Bld w p [])) (ak : At w H x kd) (av : At w H y vd) (rk : RelV x ku) (rv : RelV y vu) (ho : DicObj w o [(keyOf kd, ku, vu)]) (hsys : (p == sysModules) = false) :
    At w (upd H p (.frz o u)) (.ref p) (.dict [(kd, vd)]) := by
  have km : Keep H (upd H p (.frz o u)) := Keep.mut (by rw [hp]; trivial)
  exact .dic upd_same ho hsys (.cons rk (ak.keep km) rv (av.keep km) .nil)
theorem disp_same {H H2 : Hp} {p : Addr} {o u : HO} (hp : H p = none) (s : Same (upd H p o) H2) : Same H (upd H2 p u) := fun b v hb => by
  rw [upd_ne (ne_of_none hb hp)]
  exact s b v (by rw [upd_ne (ne_of_none hb hp)]; exact hb)
/-- what is tried -/
def DeepL (w : World) (H : Hp) (xs : List V) : Prop := ∀ v ∈ xs, ∃ (t : Addr) (x : V) (d : PyData) (due : Bool), v = .ref t ∧ H t = some (.tup [x, .bl due]) ∧ At w H x d ∧ DeepD d due
theorem DeepL.keep {w : World} {H H' : Hp} {xs : List V} (h : DeepL w H xs) (k : Keep H H') : DeepL w H' xs := fun v hv => by
  obtain ⟨t, x, d, due, e, ht, ax, dd⟩ := h v hv
  exact ⟨t, x, d, due, e, k.tups _ _ ht, ax.keep k, dd⟩
theorem DeepL.app {w : World} {H : Hp} {xs ys : List V} (h : DeepL w H xs) (g : DeepL w H ys) : DeepL w H (xs ++ ys) := fun v hv => (List.mem_append.mp hv).elim (h v) (g v)
theorem DeepL.one {w : World} {H : Hp} {t : Addr} {x : V} {d : PyData} {due : Bool} (ht : H t = some (.tup [x, .bl due])) (ax : At w H x d) (dd : DeepD d due) : DeepL w H [.ref t] := fun v hv => by
  rw [List.mem_singleton] at hv
  exact ⟨t, x, d, due, hv, ht, ax, dd⟩
/-- how it stands: the dice, the leaf, what is tried so far -/
structure St8 (w : World) (H0 : Hp) (da : Addr) (lv : V) (ld : PyData) (Hx : Hp) (xs : List V) : Prop where
  k : Kp da H0 Hx
  d : Dice Hx da
  a : At w Hx lv ld
  l : DeepL w Hx xs
theorem St8.same {w : World} {H0 Hx Hy : Hp} {da : Addr} {lv : V} {ld : PyData} {xs : List V} (s : St8 w H0 da lv ld Hx xs) (e : Same Hx Hy) : St8 w H0 da lv ld Hy xs := ⟨s.k.trans (Kp.of_same e), s.d.same e, s.a.keep (Same.keep e), s.l.keep (Same.keep e)⟩
theorem St8.add {w : World} {H0 Hx : Hp} {da t : Addr} {lv x : V} {ld d : PyData} {due : Bool} {xs : List V} (s : St8 w H0 da lv ld Hx xs) (ht : Hx t = none) (ax : At w Hx x d) (dd : DeepD d due) : St8 w H0 da lv ld (upd Hx t (.tup [x, .bl due])) (xs ++ [.ref t]) := by
  have e := s.same (Same.new (o := HO.tup [x, .bl due]) ht)
  exact ⟨e.k, e.d, e.a, e.l.app (DeepL.one upd_same (ax.keep (Keep.new ht)) dd)⟩
theorem St8.free {w : World} {H0 Hx : Hp} {da p : Addr} {lv : V} {ld : PyData} {xs : List V} (s : St8 w H0 da lv ld Hx xs) (h : Hx p = none) : H0 p = none := by
  cases hh : H0 p with
  | none => rfl
  | some o =>
    have := s.k p o (s.d.ne h) hh
    rw [this] at h; cases h
theorem St8.mut {w : World} {H0 Hx : Hp} {da p : Addr} {lv : V} {ld : PyData} {xs ys zs : List V} (s : St8 w H0 da lv ld Hx xs) (h0 : H0 p = none) (hp : Hx p = some (.lst ys)) (hne : p ≠ da) : St8 w H0 da lv ld (upd Hx p (.lst zs)) xs := by
  have km : Keep Hx (upd Hx p (.lst zs)) := Keep.mut (by rw [hp]; trivial)
  obtain ⟨g', t', q', r'⟩ := s.d
  exact ⟨s.k.updN h0, ⟨g', t', by rw [upd_ne (Ne.symm hne)]; exact q', r'⟩, s.a.keep km, s.l.keep km⟩
abbrev sDeep : Stmt := topS 43
theorem scDeep : FnScope ["dice", "leaf", "is_dict", "some", "deep", "value", "due", "text"] ["dice"] (defScope sDeep) := ⟨rfl, rfl, rfl, by decide +kernel, rfl, by decide +kernel, by decide +kernel⟩
def spDeep : Sp := fun vs H Q _ => ∃ da : Addr, vs = [.ref da] ∧ Dice H da ∧ ∀ H', Kp da H H' → Dice H' da → Q (.bl true) H'
section
variable {P : Program} {w : World} {K : PySem.W.Frag} {mg : Str → Option Value} {base : Heap} {f lf r nn pt ip mt du : Addr} {fd lfd rd_ nnd ptd ipd mtd dud : FuncData}
set_option maxHeartbeats 4000000 in
theorem ok_deep (D : Df K mg "_law_deep_right" sDeep ["dice"] f fd) (B : Bn mg) (hnd : base.NoDigits) (Lf : Df K mg "_law_leaf" sLeaf ["dice"] lf lfd) (R : Df K mg "_law_roll" sRoll ["dice", "total"] r rd_) (Nn : Df K mg "_law_nested" sNested ["value", "deep", "is_dict"] nn nnd)
    (Pt : Df K mg "_law_plain_text" sPlainText ["value"] pt ptd) (Ip : Df K mg "is_plain" sIsPlain ["value"] ip ipd) (Mt_ : Df K mg "_law_met" sMet ["text"] mt mtd) (Du : Df K mg "_law_due" sDue ["text"] du dud)
    (GL : FnOk P w K mg base CX0 4 lf lfd ["dice"] (spLeaf w)) (GR : FnOk P w K mg base CX0 1 r rd_ ["dice", "total"] spRoll) (GN : FnOk P w K mg base CX0 1 nn nnd ["value", "deep", "is_dict"] (spNested w)) (GPT : FnOk P w K mg base CX0 40 pt ptd ["value"] (spPText w 40)) (GIP : FnOk P w K mg base CX0 34 ip ipd ["value"] (spIsPlain w))
    (GM : FnOk P w K mg base CX0 105 mt mtd ["text"] (spMet w)) (GD : FnOk P w K mg base CX0 73 du dud ["text"] (spDue w)) : FnG P w K mg base 106 f fd ["dice"] spDeep := by
  refine FnG.ofFun D.F scDeep (fun vs H Q E h => ?_) (fun cdv A outer s H vs Q E hg hr h => ?_)
  · obtain ⟨da, rfl, _⟩ := h
    rfl
  obtain ⟨da, rfl, hd, q⟩ := h
  have nd := scDeep.nd
  have hg2 := deeper_guards (env := envOfC "_law_deep_right" (defScope sDeep) s.heap.objs.size f cdv) hg
  refine ⟨_, pss_cons (ps_par (i := 1) (j := 2) (by rfl) nd rfl rfl (by decide) rfl rfl (pa_cons (pe_call GL (hr.mono (by decide)) (by rfl) Lf.m Lf.F.kp Lf.b .nil pass0 (pa_cons (pv 0) pa_nil)) (pa_cons (pe_cmpR op_eq (pe_call GR (hr.mono (by decide)) (by rfl) R.m R.F.kp R.b .nil pass0 (pa_cons (pv 0) (pa_cons pe_int pa_nil))) pe_int (nomark _)) pa_nil)) (by rfl))
    (pss_cons (ps_set (i := 3) nd rfl (.inl rfl) (pe_lst (pa_cons (pe_tup (pa_cons (pe_call GN (hr.mono (by decide)) (by rfl) Nn.m Nn.F.kp Nn.b .nil pass0 (pa_cons (pv 1) (pa_cons pe_int (pa_cons (pv 2) pa_nil)))) (pa_cons pe_bl pa_nil)))
      (pa_cons (pe_tup (pa_cons (pe_call GN (hr.mono (by decide)) (by rfl) Nn.m Nn.F.kp Nn.b .nil pass0 (pa_cons (pv 1) (pa_cons pe_int (pa_cons (pv 2) pa_nil)))) (pa_cons pe_bl pa_nil)))
      (pa_cons (pe_tup (pa_cons (pe_call GN (hr.mono (by decide)) (by rfl) Nn.m Nn.F.kp Nn.b .nil pass0 (pa_cons (pe_tup pa_nil) (pa_cons pe_int (pa_cons (pv 2) pa_nil)))) (pa_cons pe_bl pa_nil))) pa_nil)))))
    (pss_cons (ps_set (i := 3) nd rfl (.inl rfl) (pe_op op_cat (pv 3) (pe_lst (pa_cons (pe_tup (pa_cons (pe_call GN (hr.mono (by decide)) (by rfl) Nn.m Nn.F.kp Nn.b .nil pass0 (pa_cons (pe_seal pe_dnewR) (pa_cons pe_int (pa_cons (pv 2) pa_nil)))) (pa_cons pe_bl pa_nil)))
      (pa_cons (pe_tup (pa_cons (pe_disp1 (by exact hr.units) (pe_call GN (hr.mono (by decide)) (by rfl) Nn.m Nn.F.kp Nn.b .nil pass0 (pa_cons (pv 1) (pa_cons pe_int (pa_cons pe_bl pa_nil)))) (pv 1)) (pa_cons pe_bl pa_nil)))
      (pa_cons (pe_tup (pa_cons (pe_disp1 (by exact hr.units) (pe_call GN (hr.mono (by decide)) (by rfl) Nn.m Nn.F.kp Nn.b .nil pass0 (pa_cons (pv 1) (pa_cons pe_int (pa_cons pe_bl pa_nil)))) pe_int) (pa_cons pe_bl pa_nil))) pa_nil))))))
    (pss_cons (ps_for PassesOwn.never rfl (pi_tup (pe_tup (pa_cons pe_int (pa_cons pe_int (pa_cons pe_int (pa_cons pe_int pa_nil)))))) (pg_name (i := 4) nd rfl (Or.inl rfl))
      (pss_cons (ps_expr (pe_bm PySem.F.plainAttrs_list PySem.F.slot_list_append PySem.F.type_list_append mt_append (pv 3) (pa_cons (pe_tup (pa_cons (pe_call GN (hr.mono (by decide)) (by rfl) Nn.m Nn.F.kp Nn.b .nil pass0 (pa_cons (pe_disp1 (by exact hr.units) (pe_call GN (hr.mono (by decide)) (by rfl) Nn.m Nn.F.kp Nn.b .nil pass0 (pa_cons (pv 1) (pa_cons (pe_op op_sub pe_int (pv 4)) (pa_cons pe_bl pa_nil)))) (pv 1)) (pa_cons (pv 4) (pa_cons pe_bl pa_nil))))
        (pa_cons (pe_cmpR op_le (pe_op op_sub pe_int (pv 4)) pe_int (nomark _)) pa_nil))) pa_nil)))
      (pss_one (ps_expr (pe_bm PySem.F.plainAttrs_list PySem.F.slot_list_append PySem.F.type_list_append mt_append (pv 3) (pa_cons (pe_tup (pa_cons (pe_call GN (hr.mono (by decide)) (by rfl) Nn.m Nn.F.kp Nn.b .nil pass0 (pa_cons (pe_disp1 (by exact hr.units) (pe_call GN (hr.mono (by decide)) (by rfl) Nn.m Nn.F.kp Nn.b .nil pass0 (pa_cons (pv 1) (pa_cons (pe_callB (call_min2 (by rfl)) (by rfl) B.min bt_min (pa_cons pe_int (pa_cons (pe_op op_sub pe_int (pv 4)) pa_nil))) (pa_cons pe_bl pa_nil)))) (pv 1)) (pa_cons (pv 4) (pa_cons pe_bl pa_nil))))
        (pa_cons (pe_cmpR op_gt (pe_op op_sub pe_int (pv 4)) pe_int (nomark _)) pa_nil))) pa_nil))))))
    (pss_cons (ps_for PassesOwn.never rfl (pi_list (pv 3)) (pg_tup (by rfl) (pgs_cons (pg_name (i := 5) nd rfl (Or.inl rfl)) (pgs_cons (pg_name (i := 6) nd rfl (Or.inl rfl)) pgs_nil)))
      (pss_cons (ps_set (i := 7) nd rfl (.inl rfl) (pe_call GPT (hr.mono (by decide)) (by rfl) Pt.m Pt.F.kp Pt.b .nil pass0 (pa_cons (pv 5) pa_nil)))
      (pss_one (ps_if (pw_or (pt_cmpR op_ne (pe_callB call_reprB (by rfl) B.repr bt_repr (pa_cons (pe_call GIP (hr.mono (by decide)) (by rfl) Ip.m Ip.F.kp Ip.b .nil pass0 (pa_cons (pv 5) pa_nil)) pa_nil)) (pe_callB call_reprB (by rfl) B.repr bt_repr (pa_cons (pv 6) pa_nil)) (nomark _))
        (pw_or (pt_cmpR op_ne (pe_callB (call_reprT (by exact hr.units) (by exact hg2) (by exact hnd)) (by rfl) B.repr bt_repr (pa_cons (pe_call GM hr (by rfl) Mt_.m Mt_.F.kp Mt_.b .nil pass0 (pa_cons (pv 7) pa_nil)) pa_nil)) (pe_callB (call_reprT (by exact hr.units) (by exact hg2) (by exact hnd)) (by rfl) B.repr bt_repr (pa_cons (pe_call GD (hr.mono (by decide)) (by rfl) Du.m Du.F.kp Du.b .nil pass0 (pa_cons (pv 7) pa_nil)) pa_nil)) (nomark _))
        (pw_or1 (pt_cmpR op_ne (pe_cmpR op_eq (pe_ix ix_tup (pe_call GD (hr.mono (by decide)) (by rfl) Du.m Du.F.kp Du.b .nil pass0 (pa_cons (pv 7) pa_nil)) pe_int (fun _ _ => rfl)) pe_str (nomark _)) (pv 6) (nomark _))))).pt (pss_one (ps_ret pe_bl)) pss_nil))))
    (pss_one (ps_ret pe_bl)))))), ?_⟩
  refine ⟨_, rfl, da, rfl, hd, fun H1 lv ld k1 d1 al hl => ?_⟩
  refine ⟨_, rfl, da, 2, rfl, d1, by decide, by decide, fun H2 y k2 d2 _ _ y0 y1 => ⟨rfl, _, _, rfl, ?_⟩⟩
  obtain ⟨b, hb⟩ : ∃ b, decide (V.int y = V.int 0) = b := ⟨_, rfl⟩
  rw [hb]
  have S2 : St8 w H da lv ld H2 [] := ⟨k1.trans k2, d2, al.keep (k2.keep d1), fun v hv => by cases hv⟩
  have hl8 : k8 ld = true := k8_plain ld 30 (hl.pl 30)
  have hl0 := hl.dp
  have hlt := hl.ln
  have h2 : (2 : Nat) ≤ sizeLine := by decide
  -- three
  refine ⟨_, rfl, _, rfl, lv, ld, 30, b, rfl, by decide, S2.a, fun H3 y3 s3 a3 => ⟨h2, fun t3 ht3 => ?_⟩⟩
  have S3 := (S2.same s3).add ht3 a3 (deep_nest (b := b) (n := 30) (due := true) (by decide) hl.ok hl8 (by omega) (by omega) (by rw [hl.pl]; rfl))
  refine ⟨_, rfl, _, rfl, lv, ld, 31, b, rfl, by decide, S3.a, fun H4 y4 s4 a4 => ⟨h2, fun t4 ht4 => ?_⟩⟩
  have S4 := (S3.same s4).add ht4 a4 (deep_nest (b := b) (n := 31) (due := false) (by decide) hl.ok hl8 (by omega) (by omega) rfl)
  refine ⟨(by show 0 ≤ sizeLine; decide), fun e0 he0 => ?_⟩
  have S4e := S4.same (Same.new (o := HO.tup []) he0)
  refine ⟨_, rfl, .ref e0, .tuple [], 29, b, rfl, by decide, .tup upd_same .nil, fun H5 y5 s5 a5 => ⟨h2, fun t5 ht5 => ?_⟩⟩
  have S5 := (S4e.same s5).add ht5 a5 (deep_nest (b := b) (n := 29) (due := true) (by decide) (by simp [okD, okDs]) (by simp [k8, k8s]) (by simp [PyData.depth, PyData.depthAll]) (by decide +kernel) (by simp [plain, plains]))
  refine ⟨(by show 3 ≤ sizeLine; decide), fun l1 hl1 => ?_⟩
  have S6 := S5.same (Same.new (o := HO.lst [.ref t3, .ref t4, .ref t5]) hl1)
  have hL1 : upd (upd H5 t5 (.tup [y5, .bl true])) l1 (.lst [.ref t3, .ref t4, .ref t5]) l1 = some (.lst [.ref t3, .ref t4, .ref t5]) := upd_same
  generalize upd (upd H5 t5 (.tup [y5, .bl true])) l1 (.lst [.ref t3, .ref t4, .ref t5]) = H6 at S6 hL1
  -- three more
  refine ⟨_, rfl, fun p7 hp7 hs7 => ⟨p7, [], rfl, upd_same, fun o7 u7 ho7 => ?_⟩⟩
  have s67 : Same H6 (upd (upd H6 p7 (Bld w p7 [])) p7 (.frz o7 u7)) := disp_same hp7 (Same.refl _)
  have S7 := S6.same s67
  have a7 : At w (upd (upd H6 p7 (Bld w p7 [])) p7 (.frz o7 u7)) (.ref p7) (.dict []) := .dic upd_same ho7 hs7 .nil
  refine ⟨_, rfl, .ref p7, .dict [], 30, b, rfl, by decide, a7, fun H8 y8 s8 a8 => ⟨h2, fun t8 ht8 => ?_⟩⟩
  have S8 := (S7.same s8).add ht8 a8 (deep_nest (b := b) (n := 30) (due := false) (by decide) (by simp [okD, okKv, txtKv]) (by simp [k8, k8Kv]) (by simp [PyData.depth, PyData.depthKv]) (by decide +kernel) (by simp [plain]))
  have sL8 : Same H6 (upd H8 t8 (.tup [y8, .bl false])) := Same.trans (Same.trans s67 s8) (Same.new ht8)
  have hsh_ : ∀ m, hsh (nest false m ld) = true := fun m => hsh_of _ (okD_nest _ _ _ hl.ok) (hasD_nest _ _ hl.nd)
  have dp_ : ∀ m, m ≤ 7 → (nest false m ld).depth ≤ 8 := fun m hm => by
    have := depth_nest false m ld
    omega
  have L0 : LeafD (.int 0) := leaf_int (by decide)
  -- a key six deep
  refine fun p9 hp9 hs9 => ?_
  refine ⟨_, rfl, lv, ld, 6, false, rfl, by decide, S8.a.keep (Keep.new hp9), fun H9 y9 s9 a9 => ?_⟩
  have al9 := S8.a.keep ((Keep.new (o := Bld w p9 []) hp9).trans (Same.keep s9))
  refine ⟨_, rfl, s9 _ _ upd_same, nest false 6 ld, ld, a9, al9, hsh_ 6, dp_ 6 (by decide), fun o9 u9 ku9 vu9 rk9 rv9 ho9 => ⟨h2, fun t9 ht9 => ?_⟩⟩
  have s89 := disp_same (u := HO.frz o9 u9) hp9 s9
  have S9 := (S8.same s89).add ht9 (disp_at (s9 _ _ upd_same) a9 al9 rk9 rv9 ho9 hs9) (deep_key (m := 6) (n := 0) (due := true) hl hl (by decide) (by decide) (by decide))
  have sL9 := Same.trans (Same.trans sL8 s89) (Same.new (o := HO.tup [.ref p9, .bl true]) ht9)
  -- a key seven deep
  refine fun p10 hp10 hs10 => ?_
  refine ⟨_, rfl, lv, ld, 7, false, rfl, by decide, S9.a.keep (Keep.new hp10), fun H10 y10 s10 a10 => ?_⟩
  refine ⟨s10 _ _ upd_same, nest false 7 ld, .int 0, a10, .int 0, hsh_ 7, dp_ 7 (by decide), fun o10 u10 ku10 vu10 rk10 rv10 ho10 => ⟨h2, fun t10 ht10 => ?_⟩⟩
  have s910 := disp_same (u := HO.frz o10 u10) hp10 s10
  have S10 := (S9.same s910).add ht10 (disp_at (s10 _ _ upd_same) a10 (.int 0) rk10 rv10 ho10 hs10) (deep_key (m := 7) (n := 0) (due := false) hl L0 (by decide) (by decide) (by decide))
  have sL10 := Same.trans (Same.trans sL9 s910) (Same.new (o := HO.tup [.ref p10, .bl false]) ht10)
  refine ⟨(by show 3 ≤ sizeLine; decide), fun l2 hl2 => ?_⟩
  have S11 := S10.same (Same.new (o := HO.lst [.ref t8, .ref t9, .ref t10]) hl2)
  have sL11 := Same.trans sL10 (Same.new (o := HO.lst [.ref t8, .ref t9, .ref t10]) hl2)
  refine ⟨l1, l2, _, _, rfl, rfl, sL11 _ _ hL1, upd_same, (by show 6 ≤ sizeLine; decide), fun lp hlp => ?_⟩
  have S12 := S11.same (Same.new (o := HO.lst ([.ref t3, .ref t4, .ref t5] ++ [.ref t8, .ref t9, .ref t10])) hlp)
  have h0lp := S11.free hlp
  have hne : lp ≠ da := S11.d.ne hlp
  generalize hXs : ([] ++ [V.ref t3] ++ [.ref t4] ++ [.ref t5] ++ [.ref t8] ++ [.ref t9] ++ [.ref t10]) = Xs at S12
  have eXs : [V.ref t3, .ref t4, .ref t5] ++ [.ref t8, .ref t9, .ref t10] = Xs := by rw [← hXs]; rfl
  rw [eXs] at S12 ⊢
  have hXl : Xs.length = 6 := by rw [← eXs]; rfl
  have hLP : ∀ Hq : Hp, upd Hq lp (.lst Xs) lp = some (.lst Xs) := fun Hq => upd_same
  refine ⟨(by show 4 ≤ sizeLine; decide), fun tp htp => ?_⟩
  have S13 := S12.same (Same.new (o := HO.tup [.int 23, .int 24, .int 26, .int 29]) htp)
  have hLP13 := (Same.new (o := HO.tup [.int 23, .int 24, .int 26, .int 29]) htp) lp _ (hLP _)
  refine ⟨tp, rfl, ⟨_, SqT.of upd_same⟩, ?_⟩
  have hTP : ∀ Hq : Hp, upd Hq tp (.tup [.int 23, .int 24, .int 26, .int 29]) tp = some (.tup [.int 23, .int 24, .int 26, .int 29]) := fun Hq => upd_same
  have hTP13 := hTP (upd (upd (upd (upd H10 p10 (.frz o10 u10)) t10 (.tup [.ref p10, .bl false])) l2 (.lst [.ref t8, .ref t9, .ref t10])) lp (.lst Xs))
  refine for_tup (xs := [.int 23, .int 24, .int 26, .int 29]) (fun i σ H' => ∃ (xs : List V) (o4 : Option V), σ = [some (.ref da), some lv, some (.bl b), some (.ref lp), o4, none, none, none] ∧ St8 w H da lv ld H' xs ∧ H' lp = some (.lst xs) ∧ H' tp = some (.tup [.int 23, .int 24, .int 26, .int 29]) ∧ xs.length ≤ 6 + 2 * i) ⟨Xs, none, rfl, S13, hLP13, hTP13, by omega⟩ (fun i σ H' _ hp => by obtain ⟨_, _, _, _, _, h4, _⟩ := hp; exact SqT.of h4) (fun i v σ H14 hv hp => ?_) (fun σ H14 hp => ?_)
  · obtain ⟨xs, o4, rfl, S, hL, hT, hxl⟩ := hp
    have hi4 : i < 4 := (List.getElem?_eq_some_iff.mp hv).1
    obtain ⟨m, rfl, hm⟩ : ∃ m : Nat, v = .int m ∧ (m = 23 ∨ m = 24 ∨ m = 26 ∨ m = 29) := by
      have hv := List.mem_of_getElem? hv
      simp only [List.mem_cons, List.not_mem_nil, or_false] at hv
      rcases hv with rfl | rfl | rfl | rfl
      · exact ⟨23, rfl, by decide⟩
      · exact ⟨24, rfl, by decide⟩
      · exact ⟨26, rfl, by decide⟩
      · exact ⟨29, rfl, by decide⟩
    have em : (29 : Int) - (m : Nat) = ((29 - m : Nat) : Int) := by omega
    refine ⟨_, rfl, .inl ⟨rfl, _, SqL.of hL⟩, ?_⟩
    refine fun p1 hp1 hs1 => ?_
    refine ⟨_, rfl, _, rfl, _, _, rfl, rfl, lv, ld, 29 - m, false, congrArg (fun x => [lv, V.int x, .bl false]) em, by omega, S.a.keep (Keep.new hp1), fun Ha ya sa aa => ?_⟩
    have ala := S.a.keep ((Keep.new (o := Bld w p1 []) hp1).trans (Same.keep sa))
    refine ⟨_, rfl, sa _ _ upd_same, nest false (29 - m) ld, ld, aa, ala, hsh_ _, dp_ _ (by omega), fun oa ua kua vua rka rva hoa => ?_⟩
    have sHa := disp_same (u := HO.frz oa ua) hp1 sa
    have ada := disp_at (u := ua) (sa _ _ upd_same) aa ala rka rva hoa hs1
    refine ⟨_, rfl, .ref p1, _, m, false, rfl, by omega, ada, fun Hb yb sb ab => ?_⟩
    have sHb := Same.trans sHa sb
    refine ⟨_, rfl, _, _, rfl, rfl, _, _, rfl, rfl, h2, fun tb htb => ?_⟩
    have Sb := (S.same sHb).add htb ab (deep_key (m := 29 - m) (n := m) (due := decide ((29 : Int) - (m : Nat) ≤ 6)) hl hl (by omega) (by omega) (decide_eq_decide.mpr (by omega)))
    have hLb := Same.trans sHb (Same.new (o := HO.tup [yb, .bl (decide ((29 : Int) - (m : Nat) ≤ 6))]) htb) _ _ hL
    have hTb := Same.trans sHb (Same.new (o := HO.tup [yb, .bl (decide ((29 : Int) - (m : Nat) ≤ 6))]) htb) _ _ hT
    refine ⟨lp, _, _, rfl, rfl, hLb, by rw [sizeLine_eq]; omega, ?_⟩
    have htl : tp ≠ lp := fun z => by rw [z, hL] at hT; cases hT
    have Sc := Sb.mut (zs := xs ++ [.ref tb]) h0lp hLb hne
    have hLc : ∀ Hq : Hp, upd Hq lp (.lst (xs ++ [.ref tb])) lp = some (.lst (xs ++ [.ref tb])) := fun Hq => upd_same
    have hLc := hLc (upd Hb tb (.tup [yb, .bl (decide ((29 : Int) - (m : Nat) ≤ 6))]))
    have hTc : upd (upd Hb tb (.tup [yb, .bl (decide ((29 : Int) - (m : Nat) ≤ 6))])) lp (.lst (xs ++ [.ref tb])) tp = some (.tup [.int 23, .int 24, .int 26, .int 29]) := by rw [upd_ne htl]; exact hTb
    generalize upd (upd Hb tb (.tup [yb, .bl (decide ((29 : Int) - (m : Nat) ≤ 6))])) lp (.lst (xs ++ [.ref tb])) = Hc at Sc hLc hTc
    -- the second
    refine ⟨_, rfl, .inl ⟨rfl, _, SqL.of hLc⟩, ?_⟩
    refine fun p1 hp1 hs1 => ?_
    have em6 : (if (30 : Int) - (m : Nat) < 6 then (30 : Int) - (m : Nat) else 6) = ((min 6 (30 - m) : Nat) : Int) := by split <;> omega
    refine ⟨_, rfl, _, rfl, _, _, rfl, rfl, _, _, rfl, lv, ld, min 6 (30 - m), false, congrArg (fun x => [lv, V.int x, .bl false]) em6, by omega, Sc.a.keep (Keep.new hp1), fun Ha ya sa aa => ?_⟩
    have ala := Sc.a.keep ((Keep.new (o := Bld w p1 []) hp1).trans (Same.keep sa))
    refine ⟨_, rfl, sa _ _ upd_same, nest false (min 6 (30 - m)) ld, ld, aa, ala, hsh_ _, dp_ _ (by omega), fun oa ua kua vua rka rva hoa => ?_⟩
    have sHa := disp_same (u := HO.frz oa ua) hp1 sa
    have ada := disp_at (u := ua) (sa _ _ upd_same) aa ala rka rva hoa hs1
    refine ⟨_, rfl, .ref p1, _, m, false, rfl, by omega, ada, fun Hd yd sd ad => ?_⟩
    have sHd := Same.trans sHa sd
    refine ⟨_, rfl, _, _, rfl, rfl, _, _, rfl, rfl, h2, fun td htd => ?_⟩
    have Sd := (Sc.same sHd).add htd ad (deep_key (m := min 6 (30 - m)) (n := m) (due := decide (6 < (30 : Int) - (m : Nat))) hl hl (by omega) (by omega) (decide_eq_decide.mpr (by omega)))
    have hLd := Same.trans sHd (Same.new (o := HO.tup [yd, .bl (decide (6 < (30 : Int) - (m : Nat)))]) htd) _ _ hLc
    have hTd := Same.trans sHd (Same.new (o := HO.tup [yd, .bl (decide (6 < (30 : Int) - (m : Nat)))]) htd) _ _ hTc
    refine ⟨lp, _, _, rfl, rfl, hLd, by rw [List.length_append, List.length_singleton, sizeLine_eq]; omega, ?_⟩
    refine ⟨xs ++ [.ref tb] ++ [.ref td], _, rfl, Sd.mut h0lp hLd hne, upd_same, by rw [upd_ne htl]; exact hTd, ?_⟩
    rw [List.length_append, List.length_append, List.length_singleton, List.length_singleton]
    omega
  · obtain ⟨xs, o4, rfl, S, hL, hT, hxl⟩ := hp
    refine ⟨_, rfl, lp, rfl, ⟨_, SqL.of hL⟩, ?_⟩
    refine for_list (xs := xs) (fun i σ H' => ∃ o5 o6 o7 : Option V, σ = [some (.ref da), some lv, some (.bl b), some (.ref lp), o4, o5, o6, o7] ∧ St8 w H da lv ld H' xs ∧ H' lp = some (.lst xs)) ⟨none, none, none, rfl, S, hL⟩ (fun i σ H' _ hp => by obtain ⟨_, _, _, _, _, h4⟩ := hp; exact SqL.of h4) (fun i v σ H15 hv hp => ?_) (fun σ H15 hp => ?_)
    · obtain ⟨o5, o6, o7, rfl, S, hL⟩ := hp
      obtain ⟨t, x, d, due, rfl, ht, ax, dd⟩ := S.l v (List.mem_of_getElem? hv)
      refine ⟨t, _, rfl, SqT.of ht, rfl, _, _, rfl, _, _, rfl, rfl, ?_⟩
      have hbig : (txt d).length < big := by have := dd.ln; have : big = 2 ^ 24 := rfl; omega
      refine ⟨_, rfl, x, d, rfl, dd.dp, ax, dd.ok, dd.k8, hbig, fun Ha z sa ez => ?_⟩
      have hz22 : z.length < 2 ^ 22 := by rw [TL.len_tl, ez]; exact dd.ln
      have Sa := S.same sa
      refine ⟨_, rfl, x, d, rfl, ax.keep (Same.keep sa), hbig, fun Hb sb => ⟨_, rfl, _, rfl, due, rfl, rfl, _, rfl, ?_⟩⟩
      rw [dd.pl, decide_eq_true rfl]
      refine ite_ff' ?_
      refine repr_ne (w := w) (i := 7) (z := z) rfl hz22 fun Hc sc => ?_
      refine ite_ff' ?_
      refine ⟨_, rfl, z, rfl, hz22, fun Hd v sd av => ?_⟩
      have Sd := ((Sa.same sb).same sc).same sd
      have hLd := sd _ _ (sc _ _ (sb _ _ (sa _ _ hL)))
      have hm : metD (.str z) = if due = true then .tuple [.str "told", srt d] else .tuple [.str "parse", .none] := by
        show (match dueOf (tl z) with
          | some e => PyData.tuple [.str "told", e]
          | none => PyData.tuple [.str "parse", .none]) = _
        rw [ez]
        cases due with
        | true => rw [due_txt dd.ok dd.pl]; rfl
        | false => rw [due_none dd.ok dd.pl]; rfl
      rw [hm] at av
      cases due with
      | true =>
        rw [if_pos rfl] at av
        obtain ⟨p, ys, rfl, hp, hys⟩ := av.inv_tup
        cases hys with
        | cons h1 h2 =>
          cases h1
          refine ⟨p, _, ((0 : Nat) : Int), .str "told", rfl, rfl, SqT.of hp, atI_nat (j := 0) rfl, rfl, _, rfl, rfl, _, rfl, ?_⟩
          refine ite_ff' ?_
          exact ⟨_, _, _, rfl, Sd, hLd⟩
      | false =>
        rw [if_neg Bool.false_ne_true] at av
        obtain ⟨p, ys, rfl, hp, hys⟩ := av.inv_tup
        cases hys with
        | cons h1 h2 =>
          cases h1
          refine ⟨p, _, ((0 : Nat) : Int), .str "parse", rfl, rfl, SqT.of hp, atI_nat (j := 0) rfl, rfl, _, rfl, rfl, _, rfl, ?_⟩
          refine ite_ff' ?_
          exact ⟨_, _, _, rfl, Sd, hLd⟩
    · obtain ⟨o5, o6, o7, rfl, S, hL⟩ := hp
      exact q H15 S.k S.d
end
end K15
end

section
set_option Elab.async false
set_option linter.all false
set_option maxRecDepth 100000
set_option pp.maxSteps 900
namespace K15
open PySem PySem.Spec PyProof.Rows L2 TL

/-- a list is sealed -/
def tSealL (t : TE) : TE := fun σ H Q => t σ H fun x H1 => ∃ p xs, x = .ref p ∧ H1 p = some (.lst xs) ∧ ∀ o u vs n, o.cls = .type "list" → o.data = .seq vs n → Q (.ref p) (upd H1 p (.frz o u))
theorem pe_sealL {X : Cx} {e : Expr} {t : TE} (h : PE X e t) : PE X e (tSealL t) := by
  refine ⟨fun pins s σ H Q I hq => ?_⟩
  refine thn (h.run pins s σ H _ I hq) fun u s1 ⟨x, H1, I1, r, p, xs, ex, hp, q⟩ => ?_
  subst ex
  obtain ⟨_, its, n, _, ho⟩ := I1.hok p _ hp
  have I2 : Inv X pins σ (upd H1 p (.frz _ (.ext fun _ => True))) { s1 with heap := s1.heap, toks := s1.toks } :=
    I1.write (t' := s1.toks) (by rw [hp]; exact True.intro) (.inl rfl) (fun _ _ _ e => e) ⟨_, ho⟩ ⟨ho, True.intro, ⟨_, ho⟩, fun _ _ _ _ => True.intro⟩
  exact ⟨.ref p, _, I2, r, q _ _ _ _ rfl rfl⟩
structure OddD (d : PyData) : Prop where
  np : ∀ n, plain n d = false
  ln : (txt d).length ≤ 50
  dp : d.depth ≤ 1
  hs : (tyOf d == "list") = true ∨ hsh d = true
structure Odd1 (d : PyData) : Prop where
  ln : (txt d).length ≤ 1000
  np : plain 30 d = false
def OddL (w : World) (H : Hp) (xs : List V) : Prop := ∀ v ∈ xs, ∃ d, At w H v d ∧ Odd1 d
theorem OddL.keep {w : World} {H H' : Hp} {xs : List V} (h : OddL w H xs) (k : Keep H H') : OddL w H' xs := fun v hv => by
  obtain ⟨d, a, b⟩ := h v hv
  exact ⟨d, a.keep k, b⟩
theorem OddL.nil {w : World} {H : Hp} : OddL w H [] := fun v hv => by cases hv
theorem OddL.cons {w : World} {H : Hp} {x : V} {d : PyData} {xs : List V} (a : At w H x d) (b : Odd1 d) (h : OddL w H xs) : OddL w H (x :: xs) := fun v hv => by
  rcases List.mem_cons.mp hv with e | hv
  · rw [e]; exact ⟨d, a, b⟩
  · exact h v hv
theorem OddL.app {w : World} {H : Hp} {xs ys : List V} (h : OddL w H xs) (g : OddL w H ys) : OddL w H (xs ++ ys) := fun v hv => (List.mem_append.mp hv).elim (h v) (g v)
theorem odd_str {s : Str} (h : leafStr s = false) (hl : s.length ≤ 40) : OddD (.str s) := by
  refine ⟨fun n => by simpa only [plain] using h, ?_, by simp only [PyData.depth]; omega, .inr rfl⟩
  simp only [txt, List.length_cons, List.length_append, List.length_nil]
  rw [← TL.len_tl]
  omega
theorem odd_bl (b : Bool) : OddD (.bool b) := ⟨fun n => by simp only [plain], by simp only [txt, List.length_nil]; omega, by simp only [PyData.depth]; omega, .inr rfl⟩
theorem odd_lst : OddD (.list []) := ⟨fun n => by simp only [plain], by simp only [txt, List.length_nil]; omega, by decide +kernel, .inl rfl⟩
abbrev sOdd : Stmt := topS 45
theorem scOdd : FnScope ["dice", "odd", "some", "value"] ["dice"] (defScope sOdd) := ⟨rfl, rfl, rfl, by decide +kernel, rfl, by decide +kernel, by decide +kernel⟩
section
variable {P : Program} {w : World} {K : PySem.W.Frag} {mg : Str → Option Value} {base : Heap} {f pk ip rf mt : Addr} {fd pkd ipd rfd mtd : FuncData}
set_option maxHeartbeats 4000000 in
theorem ok_odd (D : Df K mg "_law_odd_right" sOdd ["dice"] f fd) (B : Bn mg) (Pk : Df K mg "_law_pick" sPick ["dice", "items"] pk pkd) (Ip : Df K mg "is_plain" sIsPlain ["value"] ip ipd) (Rf : Df K mg "_law_refused" sRefused ["value"] rf rfd) (Mt_ : Df K mg "_law_met" sMet ["text"] mt mtd)
    (GP : FnOk P w K mg base CX0 2 pk pkd ["dice", "items"] (spPick K)) (GIP : FnOk P w K mg base CX0 34 ip ipd ["value"] (spIsPlain w)) (GRF : FnOk P w K mg base CX0 36 rf rfd ["value"] (spRefused w)) (GM : FnOk P w K mg base CX0 105 mt mtd ["text"] (spMet w)) : FnOk P w K mg base CX0 106 f fd ["dice"] spDeep := by
  refine D.F.ok scOdd (fun vs H Q E h => ?_) (fun cdv A outer s H vs Q E hr h => ?_)
  · obtain ⟨da, rfl, hd, q⟩ := h
    rfl
  obtain ⟨da, rfl, hd, q⟩ := h
  have nd := scOdd.nd
  refine ⟨_, pss_cons (ps_set (i := 1) nd rfl (.inl rfl) (pe_call GP (hr.mono (by decide)) (by rfl) Pk.m Pk.F.kp Pk.b .nil pass0 (pa_cons (pv 0) (pa_cons (pe_lst (pa_cons pe_bl (pa_cons pe_bl (pa_cons (pe_sealL (pe_lst pa_nil)) (pa_cons (pe_sealL (pe_lst (pa_cons pe_str pa_nil)))
      (pa_cons pe_str (pa_cons pe_str (pa_cons pe_str (pa_cons pe_str (pa_cons pe_str (pa_cons pe_str (pa_cons pe_str (pa_cons pe_str (pa_cons pe_str pa_nil)))))))))))))) pa_nil))))
    (pss_cons (ps_set (i := 2) nd rfl (.inl rfl) (pe_lst (pa_cons (pv 1) (pa_cons (pe_tup (pa_cons (pv 1) pa_nil)) (pa_cons (pe_tup (pa_cons pe_int (pa_cons (pe_tup (pa_cons (pv 1) (pa_cons pe_int pa_nil))) pa_nil)))
      (pa_cons (pe_disp1 (by exact hr.units) pe_str (pv 1)) (pa_cons (pe_disp1 (by exact hr.units) pe_str (pe_tup (pa_cons pe_int (pa_cons (pe_disp1 (by exact hr.units) pe_int (pv 1)) pa_nil)))) pa_nil)))))))
    (pss_cons (ps_set (i := 2) nd rfl (.inl rfl) (pe_op op_cat (pv 2) (pe_ifExp (pt_not (pt_val (pe_callB call_isiA (by rfl) B.isinstance bt_isinstance (pa_cons (pv 1) (pa_cons (pe_bltn (v := .ty "list") (by rfl) B.list bt_list rfl) pa_nil)))))
      (pe_lst (pa_cons (pe_disp1 (by exact hr.units) (pv 1) pe_int) (pa_cons (pe_tup (pa_cons (pe_disp1 (by exact hr.units) (pe_tup (pa_cons (pv 1) pa_nil)) pe_int) pa_nil)) pa_nil))) (pe_lst pa_nil))))
    (pss_cons (ps_if (pt_cmpR (op_ne_nil (by exact hr.units)) (pe_lc (own := [("value", 3)]) (g := gName 3) (tt := tOr (tTest (tOp rNotB (tCall (spIsPlain w) [] E0 (tCons (tVar 3) tNil)) (tC (.bl false)))) (tNot (tB (tCall (spRefused w) [] E0 (tCons (tVar 3) tNil))))) rfl nd (pi_list (pv 2)) (blkOk_by (N := ["dice", "odd", "some", "value"]) (sc := defScope sOdd) (by decide +kernel))
        (fun _ _ _ _ _ => pg_name (i := 3) nd rfl (Or.inl rfl)) (fun _ _ _ _ _ => pts_one (pw_or (pt_cmpR op_notBl (pe_call GIP (hr.mono (by decide)) (by rfl) Ip.m Ip.F.kp Ip.b .nil pass0 (pa_cons (pv 3) pa_nil)) pe_bl (nomark _)) (pw_or1 (pt_not (pt_val (pe_call GRF (hr.mono (by decide)) (by rfl) Rf.m Rf.F.kp Rf.b .nil pass0 (pa_cons (pv 3) pa_nil)))))).pt) (fun _ _ _ _ _ => pv 3)) (pe_lst pa_nil) (nomark _)) (pss_one (ps_ret pe_bl)) pss_nil)
    (pss_cons (ps_for PassesOwn.never rfl (pi_tup (pe_tup (pa_cons pe_non (pa_cons pe_int (pa_cons (pe_tup pa_nil) (pa_cons (pe_seal pe_dnewR) (pa_cons (pe_sealL (pe_lst (pa_cons pe_str pa_nil))) (pa_cons pe_bl (pa_cons (pe_tup (pa_cons pe_str pa_nil)) pa_nil))))))))) (pg_name (i := 3) nd rfl (Or.inl rfl))
      (pss_one (ps_if (pt_cmpR (op_neA (by exact hr.units)) (pe_call GM hr (by rfl) Mt_.m Mt_.F.kp Mt_.b .nil pass0 (pa_cons (pv 3) pa_nil)) (pe_tup (pa_cons pe_str (pa_cons pe_non pa_nil))) (nomark _)) (pss_one (ps_ret pe_bl)) pss_nil)))
    (pss_one (ps_ret pe_bl)))))), ?_⟩
  have h1s : (1 : Nat) ≤ sizeLine := by decide
  have h2s : (2 : Nat) ≤ sizeLine := by decide
  refine ⟨_, rfl, (by show 0 ≤ sizeLine; decide), fun l1 hl1 => ⟨l1, [], rfl, upd_same, fun o1 u1 vs1 n1 c1 e1 => ?_⟩⟩
  have sA : Same H (upd (upd H l1 (.lst [])) l1 (.frz o1 u1)) := disp_same hl1 (Same.refl _)
  have aA : At w (upd (upd H l1 (.lst [])) l1 (.frz o1 u1)) (.ref l1) (.list []) := .lst upd_same c1 e1
  generalize upd (upd H l1 (.lst [])) l1 (.frz o1 u1) = Ha at sA aA
  refine ⟨h1s, fun l2 hl2 => ⟨l2, _, rfl, upd_same, fun o2 u2 vs2 n2 c2 e2 => ?_⟩⟩
  have sB : Same Ha (upd (upd Ha l2 (.lst [.str "a"])) l2 (.frz o2 u2)) := disp_same hl2 (Same.refl _)
  have aB : At w (upd (upd Ha l2 (.lst [.str "a"])) l2 (.frz o2 u2)) (.ref l2) (.list []) := .lst upd_same c2 e2
  generalize upd (upd Ha l2 (.lst [.str "a"])) l2 (.frz o2 u2) = Hb at sB aB
  refine ⟨(by show 13 ≤ sizeLine; decide), fun l hl => ?_⟩
  have sC : Same Hb (upd Hb l (.lst [.bl true, .bl false, .ref l1, .ref l2, .str "A", .str "a1", .str "a_", .str "a-b", .str "\"", .str "a\n", .str "1", .str "(", .str "\t"])) := Same.new hl
  have sHC := Same.trans (Same.trans sA sB) sC
  refine ⟨da, .ref l, rfl, hd.same sHC, .inl ⟨l, _, rfl, (hd.same (Same.trans sA sB)).ne hl, SqL.of upd_same, (by show 0 < 13; decide), (by show 13 < 2 ^ 20; decide), fun H1 ov k1 d1 _ hx => ?_⟩⟩
  have kk := k1.keep (hd.same sHC)
  obtain ⟨od, a1, oo⟩ : ∃ od, At w H1 ov od ∧ OddD od := by
    simp only [List.mem_cons, List.not_mem_nil, or_false] at hx
    rcases hx with rfl | rfl | rfl | rfl | rfl | rfl | rfl | rfl | rfl | rfl | rfl | rfl | rfl
    · exact ⟨_, .bl true, odd_bl true⟩
    · exact ⟨_, .bl false, odd_bl false⟩
    · exact ⟨_, (aA.keep (Same.keep (Same.trans sB sC))).keep kk, odd_lst⟩
    · exact ⟨_, (aB.keep (Same.keep sC)).keep kk, odd_lst⟩
    all_goals exact ⟨_, .str _, odd_str (by decide +kernel) (by decide +kernel)⟩
  have k01 : Kp da H H1 := (Kp.of_same sHC).trans k1
  have np := oo.np
  have ol := oo.ln
  have odp := oo.dp
  -- some
  refine ⟨_, rfl, _, rfl, h1s, fun t1 ht1 => ?_⟩
  have s1 : Same H1 (upd H1 t1 (.tup [ov])) := Same.new ht1
  have b1 : At w (upd H1 t1 (.tup [ov])) (.ref t1) (.tuple [od]) := .tup upd_same (.cons (a1.keep (Same.keep s1)) .nil)
  generalize upd H1 t1 (.tup [ov]) = H2 at s1 b1
  refine ⟨_, rfl, h2s, fun t2 ht2 => ⟨h2s, fun t3 ht3 => ?_⟩⟩
  have s2a : Same H2 (upd H2 t2 (.tup [ov, .int 1])) := Same.new ht2
  have b2 : At w (upd H2 t2 (.tup [ov, .int 1])) (.ref t2) (.tuple [od, .int 1]) := .tup upd_same (.cons ((a1.keep (Same.keep s1)).keep (Same.keep s2a)) (.cons (.int 1) .nil))
  have s2b : Same (upd H2 t2 (.tup [ov, .int 1])) (upd (upd H2 t2 (.tup [ov, .int 1])) t3 (.tup [.int 0, .ref t2])) := Same.new ht3
  have b3 : At w (upd (upd H2 t2 (.tup [ov, .int 1])) t3 (.tup [.int 0, .ref t2])) (.ref t3) (.tuple [.int 0, .tuple [od, .int 1]]) := .tup upd_same (.cons (.int 0) (.cons (b2.keep (Same.keep s2b)) .nil))
  have s2 := Same.trans s2a s2b
  generalize upd (upd H2 t2 (.tup [ov, .int 1])) t3 (.tup [.int 0, .ref t2]) = H3 at s2 b3
  have s13 := Same.trans s1 s2
  refine fun p4 hp4 hs4 => ⟨_, rfl, upd_same, .str "a", od, .str _, a1.keep (Same.keep (Same.trans s13 (Same.new hp4))), rfl, by decide +kernel, fun o4 u4 ku4 vu4 rk4 rv4 ho4 => ?_⟩
  have s3 := disp_same (o := Bld w p4 []) (u := HO.frz o4 u4) hp4 (Same.refl _)
  have b4 := disp_at (u := u4) (upd_same (H := H3) (a := p4) (o := Bld w p4 [])) (.str "a") (a1.keep (Same.keep (Same.trans s13 (Same.new hp4)))) rk4 rv4 ho4 hs4
  have s14 := Same.trans s13 s3
  refine fun p5 hp5 hs5 => ?_
  refine fun p6 hp6 hs6 => ?_
  have q5 := Same.new (o := Bld w p5 []) hp5
  have q56 := Same.new (o := Bld w p6 []) hp6
  have a6 := a1.keep (Same.keep (Same.trans (Same.trans s14 q5) q56))
  refine ⟨_, rfl, upd_same, .int 2, od, .int 2, a6, rfl, by decide +kernel, fun o6 u6 ku6 vu6 rk6 rv6 ho6 => ?_⟩
  have s6 := disp_same (o := Bld w p6 []) (u := HO.frz o6 u6) hp6 (Same.refl _)
  have b6 := disp_at (u := u6) upd_same (.int 2) a6 rk6 rv6 ho6 hs6
  have e5 := s6 p5 (Bld w p5 []) upd_same
  refine ⟨h2s, fun t7 ht7 => ?_⟩
  have s7 := Same.new (o := HO.tup [.int 1, .ref p6]) ht7
  have b7 : At w _ (.ref t7) (.tuple [.int 1, .dict [(.int 2, od)]]) := .tup upd_same (.cons (.int 1) (.cons (b6.keep (Same.keep s7)) .nil))
  refine ⟨s7 _ _ e5, .str "a", _, .str _, b7, rfl, by decide +kernel, fun o5 u5 ku5 vu5 rk5 rv5 ho5 => ?_⟩
  have s5 := disp_same (u := HO.frz o5 u5) hp5 (Same.trans s6 s7)
  have b5 := disp_at (u := u5) (s7 _ _ e5) (.str "a") b7 rk5 rv5 ho5 hs5
  have s18 := Same.trans s14 s5
  refine ⟨(by show 5 ≤ sizeLine; decide), fun l3 hl3 => ?_⟩
  have s9 := Same.new (o := HO.lst [ov, .ref t1, .ref t3, .ref p4, .ref p5]) hl3
  have O1 : Odd1 od := ⟨by omega, np 30⟩
  have lt1 : ∀ d : PyData, (txt (.tuple [d])).length = (txt d).length + 2 := fun d => by simp only [txt, txts, joinL, List.length_cons, List.length_append, List.length_nil]
  have lt2 : ∀ d e : PyData, (txt (.tuple [d, e])).length = (txt d).length + (txt e).length + 3 := fun d e => by simp only [txt, txts, joinL, List.length_cons, List.length_append, List.length_nil]; omega
  have la : (txt (.str "a")).length = 3 := by decide +kernel
  have li0 : (txt (.int 0)).length = 1 := by decide +kernel
  have li1 : (txt (.int 1)).length = 1 := by decide +kernel
  have li2 : (txt (.int 2)).length = 1 := by decide +kernel
  have O2 : Odd1 (.tuple [od]) := ⟨by rw [lt1]; omega, by simp [plain, plains, np]⟩
  have O3 : Odd1 (.tuple [.int 0, .tuple [od, .int 1]]) := ⟨by rw [lt2, lt2, li0, li1]; omega, by simp [plain, plains, np]⟩
  have O4 : Odd1 (.dict [(.str "a", od)]) := ⟨by rw [txt_one, la]; omega, by simp [plain, plainKv, np]⟩
  have O5 : Odd1 (.dict [(.str "a", .tuple [.int 1, .dict [(.int 2, od)]])]) := ⟨by rw [txt_one, la, lt2, txt_one, li1, li2]; omega, by simp [plain, plains, plainKv, np]⟩
  have L8 := OddL.cons (a1.keep (Same.keep s18)) O1 (.cons (b1.keep (Same.keep (Same.trans (Same.trans s2 s3) s5))) O2 (.cons (b3.keep (Same.keep (Same.trans s3 s5))) O3 (.cons (b4.keep (Same.keep s5)) O4 (.cons b5 O5 OddL.nil))))
  have L9 := L8.keep (Same.keep s9)
  have s19 := Same.trans s18 s9
  have e9 : ∀ Hq : Hp, upd Hq l3 (.lst [ov, .ref t1, .ref t3, .ref p4, .ref p5]) l3 = some (.lst [ov, .ref t1, .ref t3, .ref p4, .ref p5]) := fun Hq => upd_same
  have a9 := a1.keep (Same.keep s19)
  -- some more
  refine ⟨_, rfl, _, rfl, ov, od, _, _, rfl, a9, kit_list od, _, rfl, ?_⟩
  refine ite2 (fun c => ?ga) (fun c => ?gb)
  case' ga =>
    have hh : hsh od = true := by
      rcases oo.hs with h | h
      · rw [h] at c; cases c
      · exact h
    refine fun pa hpa hsa => ⟨_, rfl, upd_same, od, .int 1, a9.keep (Keep.new hpa), .int 1, hh, by omega, fun oa ua kua vua rka rva hoa => ?ga2⟩
    have sX1 := disp_same (o := Bld w pa []) (u := HO.frz oa ua) hpa (Same.refl _)
    have bX1 := disp_at (u := ua) upd_same (a9.keep (Keep.new hpa)) (.int 1) rka rva hoa hsa
    refine fun pb hpb hsb => ⟨_, rfl, h1s, fun tb htb => ?ga3⟩
    have qb := Same.new (o := Bld w pb []) hpb
    have sX2 := Same.new (o := HO.tup [ov]) htb
    have bX2 : At w _ (.ref tb) (.tuple [od]) := .tup upd_same (.cons (a9.keep (Same.keep (Same.trans (Same.trans sX1 qb) sX2))) .nil)
    have hh2 : hsh (.tuple [od]) = true := by simp [hsh, hshs, hh]
    have hd2 : (PyData.tuple [od]).depth ≤ 8 := by simp only [PyData.depth, PyData.depthAll]; omega
    refine ⟨sX2 _ _ upd_same, .tuple [od], .int 0, bX2, .int 0, hh2, hd2, fun ob ub kub vub rkb rvb hob => ⟨h1s, fun tc htc => ⟨h2s, fun l4 hl4 => ?gm⟩⟩⟩
    have sX3 := disp_same (u := HO.frz ob ub) hpb sX2
    have bX3 := disp_at (u := ub) (sX2 _ _ upd_same) bX2 (.int 0) rkb rvb hob hsb
    have sX4 := Same.new (o := HO.tup [.ref pb]) htc
    have bX4 : At w _ (.ref tc) (.tuple [.dict [(.tuple [od], .int 0)]]) := .tup upd_same (.cons (bX3.keep (Same.keep sX4)) .nil)
    have O6 : Odd1 (.dict [(od, .int 1)]) := ⟨by rw [txt_one, li1]; omega, by simp [plain, plainKv, np]⟩
    have O7 : Odd1 (.tuple [.dict [(.tuple [od], .int 0)]]) := ⟨by rw [lt1, txt_one, lt1, li0]; omega, by simp [plain, plains, plainKv, np]⟩
    have sX5 := Same.new (o := HO.lst [.ref pa, .ref tc]) hl4
    have sX := Same.trans (Same.trans (Same.trans sX1 sX3) sX4) sX5
    have LX := OddL.cons (bX1.keep (Same.keep (Same.trans (Same.trans sX3 sX4) sX5))) O6 (.cons (bX4.keep (Same.keep sX5)) O7 OddL.nil)
  case' gb =>
    refine ⟨(by show 0 ≤ sizeLine; decide), fun l4 hl4 => ?gm⟩
    have sX := Same.new (o := HO.lst []) hl4
    have LX := (OddL.nil (w := w)).keep (Same.keep sX)
  all_goals
    refine ⟨l3, l4, _, _, rfl, rfl, sX _ _ (e9 _), upd_same, by simp only [List.length_cons, List.length_nil, sizeLine_eq]; omega, fun l5 hl5 => ?_⟩
    have Lz := (L9.keep (Same.keep sX)).app LX
    have sF := fun zs => Same.trans sX (Same.new (o := HO.lst zs) hl5)
    have kF := fun zs => Same.keep (Same.new (o := HO.lst zs) hl5)
    refine ⟨_, rfl, l5, rfl, ⟨_, SqL.of upd_same⟩, fun Da hDa => ?_⟩
    refine lc_list (fun i H' => H' Da = some (.lst []) ∧ Same _ H') ⟨upd_same, Same.new hDa⟩ (fun i H' _ hp => SqL.of (hp.2 _ _ upd_same)) (fun i y H' hy hp => ?_) (fun H' hp => ?_)
    · obtain ⟨hp1, hp2⟩ := hp
      obtain ⟨d, ad, O⟩ := Lz y (List.mem_of_getElem? hy)
      have ad2 := (ad.keep (kF _)).keep (Same.keep hp2)
      have hb : (txt d).length < big := by have := O.ln; have : big = 2 ^ 24 := rfl; omega
      refine ⟨rfl, ?_⟩
      refine ⟨_, rfl, y, d, rfl, ad2, hb, fun Hb sb => ⟨_, _, rfl, rfl, _, rfl, ?_⟩⟩
      rw [O.np]
      refine ite2 (fun c => by cases c) (fun _ => ?_)
      refine ⟨_, rfl, y, d, rfl, ad2.keep (Same.keep sb), hb, O.np, fun Hc sc => ⟨_, rfl, ?_⟩⟩
      refine ite_ff' ?_
      exact ⟨sc _ _ (sb _ _ hp1), Same.trans (Same.trans hp2 sb) sc⟩
    · obtain ⟨hp1, hp2⟩ := hp
      refine ⟨(by show 0 ≤ sizeLine; decide), fun l6 hl6 => ⟨Da, l6, [], rfl, rfl, SqL.of ((Same.new hl6) _ _ hp1), SqL.of upd_same, _, rfl, ?_⟩⟩
      refine ite_ff' ?_
      have s29 := Same.trans (Same.trans (Same.trans s19 (sF _)) hp2) (Same.new (o := HO.lst []) hl6)
      -- what is no text
      refine ⟨(by show 0 ≤ sizeLine; decide), fun v1 hv1 => ?_⟩
      refine fun v2 hv2 hs2 => ⟨v2, [], rfl, upd_same, fun o2 u2 ho2 => ?_⟩
      refine ⟨h1s, fun v3 hv3 => ⟨v3, _, rfl, upd_same, fun o3 u3 vs3 n3 c3 e3 => ?_⟩⟩
      refine ⟨h1s, fun v4 hv4 => ?_⟩
      refine ⟨(by show 7 ≤ sizeLine; decide), fun tp htp => ?_⟩
      have m1 := Same.new (o := HO.tup []) hv1
      have m2 := disp_same (o := Bld w v2 []) (u := HO.frz o2 u2) hv2 (Same.refl _)
      have m3 := disp_same (o := HO.lst [.str "1"]) (u := HO.frz o3 u3) hv3 (Same.refl _)
      have m4 := Same.new (o := HO.tup [.str "1"]) hv4
      have m5 := Same.new (o := HO.tup [.non, .int 5, .ref v1, .ref v2, .ref v3, .bl true, .ref v4]) htp
      have mm := Same.trans (Same.trans (Same.trans (Same.trans m1 m2) m3) m4) m5
      have s30 := Same.trans s29 mm
      refine ⟨tp, rfl, ⟨_, SqT.of upd_same⟩, ?_⟩
      have shn : ∀ d, (∀ z, d ≠ .str z) → shortS d := fun d h z e => absurd e (h z)
      refine for_tup (xs := [.non, .int 5, .ref v1, .ref v2, .ref v3, .bl true, .ref v4]) (fun i σ H' => ∃ o3 : Option V, σ = [some (.ref da), some ov, some (.ref l5), o3] ∧ Same _ H') ⟨none, rfl, Same.refl _⟩ (fun i σ H' _ hp => by obtain ⟨_, _, h2⟩ := hp; exact SqT.of (h2 _ _ upd_same)) (fun i v σ H7 hv hp => ?_) (fun σ H7 hp => ?_)
      · obtain ⟨o3, rfl, s7⟩ := hp
        obtain ⟨d, ad, hmd, hsd⟩ : ∃ d, At w H7 v d ∧ metD d = .tuple [.str "parse", .none] ∧ shortS d := by
          have hv := List.mem_of_getElem? hv
          simp only [List.mem_cons, List.not_mem_nil, or_false] at hv
          rcases hv with rfl | rfl | rfl | rfl | rfl | rfl | rfl
          · exact ⟨_, .non, rfl, shn _ fun z => by intro e; cases e⟩
          · exact ⟨_, .int 5, rfl, shn _ fun z => by intro e; cases e⟩
          · exact ⟨.tuple [], .tup (s7 _ _ (m5 _ _ (m4 _ _ (m3 _ _ (m2 _ _ upd_same))))) .nil, rfl, shn _ fun z => by intro e; cases e⟩
          · exact ⟨.dict [], .dic (s7 _ _ (m5 _ _ (m4 _ _ (m3 _ _ upd_same)))) ho2 hs2 .nil, rfl, shn _ fun z => by intro e; cases e⟩
          · exact ⟨.list [], .lst (s7 _ _ (m5 _ _ (m4 _ _ upd_same))) c3 e3, rfl, shn _ fun z => by intro e; cases e⟩
          · exact ⟨_, .bl true, rfl, shn _ fun z => by intro e; cases e⟩
          · exact ⟨.tuple [.str "1"], .tup (s7 _ _ (m5 _ _ upd_same)) (.cons (.str _) .nil), rfl, shn _ fun z => by intro e; cases e⟩
        refine ⟨_, rfl, v, d, rfl, ad, hsd, fun Hb m sb am => ⟨h2s, fun t ht => ?_⟩⟩
        rw [hmd] at am
        have es : srt (.tuple [.str "parse", .none]) = .tuple [.str "parse", .none] := by simp only [srt, srts]
        have ok1 : okD (.tuple [.str "parse", .none]) = true := by decide +kernel
        have pl1 : plain 30 (.tuple [.str "parse", .none]) = true := by decide +kernel
        refine ⟨.tuple [.str "parse", .none], 30, ok1, pl1, by decide, by rw [es]; exact am.keep (Keep.new ht), .tup upd_same (.cons (.str _) (.cons .non .nil)), _, rfl, ?_⟩
        refine ite_ff' ?_
        exact ⟨_, rfl, Same.trans (Same.trans s7 sb) (Same.new ht)⟩
      · obtain ⟨o3, rfl, s7⟩ := hp
        have s31 := Same.trans s30 s7
        exact q H7 (k01.trans (Kp.of_same s31)) (d1.same s31)
end
end K15
end

section
set_option Elab.async false
set_option linter.all false
set_option maxRecDepth 100000
set_option pp.maxSteps 900
namespace K15
open PySem PySem.Spec PyProof.Rows L2 TL

/-! ### the written texts -/
def wA : List Str := ["{(1 2) 0 (1) 1}", "{(1) 1 (1 2) 0}", "{-1 0 1 0}", "{1 0 -1 0}", "{\"a b\" 0 \"a\" 1}", "{\"a\" 1 \"a b\" 0}", "{10 0 9 0}", "{9 0 10 0}"]
def wB : List Str := ["{() 0 none 0}", "{none 0 () 0}", "{{} 0}", "{({}) 0}", "{1 0 1 1}", "{1}", "{1 }", "{ }", "( )", "(1  2)", "((1)(2))", "(1)(2)"]
def wC : List Str := ["nonenone", "none none"]
def wD : List Str := ["\"none\"", "\"a", "a", "-", "--1", "-0", "00", "0", "- 1", "1 ", " 1", "", "{1 {2 {3 4}}}", "(none \"\" () {} 0)"]
def wE : List Str := ["{\"\" \"\"}", "(\"a\"\"b\")", "(\"a\" \"b\")"]
def wAll : List Str := wA ++ wB ++ wC ++ wD ++ wE
theorem wAll_len : ∀ t ∈ wAll, t.length ≤ 20 := by decide +kernel
def tagOf (t : Str) : Str := if (dueOf (tl t)).isSome = true then "told" else "parse"
def tags9 : List Str := ["told", "parse", "told", "parse", "told", "parse", "told", "parse", "told"]
theorem tags_are : (wAll.take 9).map tagOf = tags9 := by decide +kernel
theorem met_head (z : Str) : ∃ ds, metD (.str z) = .tuple (.str (tagOf z) :: ds) := by
  have e : metD (.str z) = match dueOf (tl z) with
    | some e => .tuple [.str "told", e]
    | none => .tuple [.str "parse", .none] := rfl
  rw [e]
  unfold tagOf
  cases dueOf (tl z) with
  | none => exact ⟨_, rfl⟩
  | some d => exact ⟨_, rfl⟩
theorem dp_strs {K : PySem.W.Frag} {H : Hp} : ∀ ss : List Str, DpAll K H (ss.map V.str) (ss.map PyData.str)
  | [] => .nil
  | s :: r => .cons (.str s) (dp_strs r)
abbrev sWritten : Stmt := topS 46
theorem scWritten : FnScope ["some", "told", "text"] [] (defScope sWritten) := ⟨rfl, rfl, rfl, by decide +kernel, rfl, by decide +kernel, by decide +kernel⟩
def spWritten : Sp := fun vs H Q _ => vs = [] ∧ ∀ H', Same H H' → Q (.bl true) H'
section
variable {P : Program} {w : World} {K : PySem.W.Frag} {mg : Str → Option Value} {base : Heap} {f mt du : Addr} {fd mtd dud : FuncData}
set_option maxHeartbeats 4000000 in
theorem ok_written (D : Df K mg "_law_written_right" sWritten [] f fd) (B : Bn mg) (hnd : base.NoDigits) (Mt_ : Df K mg "_law_met" sMet ["text"] mt mtd) (Du : Df K mg "_law_due" sDue ["text"] du dud)
    (GM : FnOk P w K mg base CX0 105 mt mtd ["text"] (spMet w)) (GD : FnOk P w K mg base CX0 73 du dud ["text"] (spDue w)) : FnG P w K mg base 106 f fd [] spWritten := by
  refine FnG.ofFun D.F scWritten (fun vs H Q E h => ?_) (fun cdv A outer s H vs Q E hg hr h => ?_)
  · obtain ⟨rfl, _⟩ := h
    rfl
  obtain ⟨rfl, q⟩ := h
  have nd := scWritten.nd
  have hg2 := deeper_guards (env := envOfC "_law_written_right" (defScope sWritten) s.heap.objs.size f cdv) hg
  refine ⟨_, pss_cons (ps_set (i := 0) nd rfl (.inl rfl) (pe_lst (pa_cons pe_str (pa_cons pe_str (pa_cons pe_str (pa_cons pe_str (pa_cons pe_str (pa_cons pe_str (pa_cons pe_str (pa_cons pe_str pa_nil))))))))))
    (pss_cons (ps_set (i := 0) nd rfl (.inl rfl) (pe_op op_cat (pv 0) (pe_lst (pa_cons pe_str (pa_cons pe_str (pa_cons pe_str (pa_cons pe_str (pa_cons pe_str (pa_cons pe_str (pa_cons pe_str (pa_cons pe_str (pa_cons pe_str (pa_cons pe_str (pa_cons pe_str (pa_cons pe_str pa_nil)))))))))))))))
    (pss_cons (ps_set (i := 0) nd rfl (.inl rfl) (pe_op op_cat (pv 0) (pe_lst (pa_cons pe_str (pa_cons pe_str pa_nil)))))
    (pss_cons (ps_set (i := 0) nd rfl (.inl rfl) (pe_op op_cat (pv 0) (pe_lst (pa_cons pe_str (pa_cons pe_str (pa_cons pe_str (pa_cons pe_str (pa_cons pe_str (pa_cons pe_str (pa_cons pe_str (pa_cons pe_str (pa_cons pe_str (pa_cons pe_str (pa_cons pe_str (pa_cons pe_str (pa_cons pe_str (pa_cons pe_str pa_nil)))))))))))))))))
    (pss_cons (ps_set (i := 0) nd rfl (.inl rfl) (pe_op op_cat (pv 0) (pe_lst (pa_cons pe_str (pa_cons pe_str (pa_cons pe_str pa_nil))))))
    (pss_cons (ps_setLc (i := 1) (own := [("text", 2)]) (g := gName 2) (tt := tYes) (te := tOp (rIxT K) (tCall (spDue w) [] E0 (tCons (tVar 2) tNil)) (tC (.int 0))) rfl nd rfl rfl (sw_true rfl rfl rfl (by decide +kernel)) (pi_list (pv 0)) (blkOk_by (N := ["some", "told", "text"]) (sc := defScope sWritten) (by decide +kernel))
        (fun _ _ _ _ _ => pg_name (i := 2) nd rfl (Or.inl rfl)) (fun _ _ _ _ _ => pts_nil) (fun _ _ _ _ _ => pe_ix ix_tup (pe_call GD (hr.mono (by decide)) (by rfl) Du.m Du.F.kp Du.b .nil pass0 (pa_cons (pv 2) pa_nil)) pe_int (fun _ _ => rfl)))
    (pss_cons (ps_if (pt_cmpR (op_neD (by exact hr.units)) (pe_slice sl_list (pv 1) po_none (po_some pe_int)) (pe_lst (pa_cons pe_str (pa_cons pe_str (pa_cons pe_str (pa_cons pe_str (pa_cons pe_str (pa_cons pe_str (pa_cons pe_str (pa_cons pe_str (pa_cons pe_str pa_nil)))))))))) (nomark _)) (pss_one (ps_ret pe_bl)) pss_nil)
    (pss_one (ps_ret (pe_cmpR (op_eq_nil (by exact hr.units)) (pe_lc (own := [("text", 2)]) (g := gName 2) (tt := tTest (tOp rNe (tMR w 2) (tDR w 2))) rfl nd (pi_list (pv 0)) (blkOk_by (N := ["some", "told", "text"]) (sc := defScope sWritten) (by decide +kernel))
        (fun _ _ _ _ _ => pg_name (i := 2) nd rfl (Or.inl rfl))
        (fun _ _ _ _ _ => pts_one (pt_cmpR op_ne (pe_callB (call_reprT (by exact hr.units) (by exact hg2) (by exact hnd)) (by rfl) B.repr bt_repr (pa_cons (pe_call GM hr (by rfl) Mt_.m Mt_.F.kp Mt_.b .nil pass0 (pa_cons (pv 2) pa_nil)) pa_nil)) (pe_callB (call_reprT (by exact hr.units) (by exact hg2) (by exact hnd)) (by rfl) B.repr bt_repr (pa_cons (pe_call GD (hr.mono (by decide)) (by rfl) Du.m Du.F.kp Du.b .nil pass0 (pa_cons (pv 2) pa_nil)) pa_nil)) (nomark _)))
        (fun _ _ _ _ _ => pv 2)) (pe_lst pa_nil) (nomark _)))))))))), ?_⟩
  refine ⟨(by show 8 ≤ sizeLine; decide), fun x1 h1 => ?_⟩
  have s1 := Same.new (o := HO.lst (wA.map V.str)) h1
  refine ⟨_, rfl, (by show 12 ≤ sizeLine; decide), fun x2 h2 => ⟨x1, x2, wA.map V.str, wB.map V.str, rfl, rfl, Same.new h2 _ _ upd_same, upd_same, by decide +kernel, fun x3 h3 => ?_⟩⟩
  have s3 := Same.trans (Same.trans s1 (Same.new (o := HO.lst (wB.map V.str)) h2)) (Same.new (o := HO.lst (wA.map V.str ++ wB.map V.str)) h3)
  refine ⟨_, rfl, (by show 2 ≤ sizeLine; decide), fun x4 h4 => ⟨x3, x4, wA.map V.str ++ wB.map V.str, wC.map V.str, rfl, rfl, Same.new h4 _ _ upd_same, upd_same, by decide +kernel, fun x5 h5 => ?_⟩⟩
  have s5 := Same.trans (Same.trans s3 (Same.new (o := HO.lst (wC.map V.str)) h4)) (Same.new (o := HO.lst (wA.map V.str ++ wB.map V.str ++ wC.map V.str)) h5)
  refine ⟨_, rfl, (by show 14 ≤ sizeLine; decide), fun x6 h6 => ⟨x5, x6, wA.map V.str ++ wB.map V.str ++ wC.map V.str, wD.map V.str, rfl, rfl, Same.new h6 _ _ upd_same, upd_same, by decide +kernel, fun x7 h7 => ?_⟩⟩
  have s7 := Same.trans (Same.trans s5 (Same.new (o := HO.lst (wD.map V.str)) h6)) (Same.new (o := HO.lst (wA.map V.str ++ wB.map V.str ++ wC.map V.str ++ wD.map V.str)) h7)
  refine ⟨_, rfl, (by show 3 ≤ sizeLine; decide), fun x8 h8 => ⟨x7, x8, wA.map V.str ++ wB.map V.str ++ wC.map V.str ++ wD.map V.str, wE.map V.str, rfl, rfl, Same.new h8 _ _ upd_same, upd_same, by decide +kernel, fun lp h9 => ?_⟩⟩
  have s9 := Same.trans (Same.trans s7 (Same.new (o := HO.lst (wE.map V.str)) h8)) (Same.new (o := HO.lst (wA.map V.str ++ wB.map V.str ++ wC.map V.str ++ wD.map V.str ++ wE.map V.str)) h9)
  have eAll : wA.map V.str ++ wB.map V.str ++ wC.map V.str ++ wD.map V.str ++ wE.map V.str = wAll.map V.str := by
    unfold wAll
    rw [List.map_append, List.map_append, List.map_append, List.map_append]
  rw [eAll] at s9 ⊢
  have hL : ∀ Hq : Hp, upd Hq lp (.lst (wAll.map V.str)) lp = some (.lst (wAll.map V.str)) := fun Hq => upd_same
  have hlen : wAll.length = 39 := by decide +kernel
  have short : ∀ t ∈ wAll, t.length < 2 ^ 22 := fun t ht => by have := wAll_len t ht; omega
  -- told
  refine ⟨_, rfl, lp, rfl, ⟨_, SqL.of upd_same⟩, fun Da hDa => ?_⟩
  refine lc_list (xs := wAll.map V.str) (fun i H' => H' Da = some (.lst (((wAll.take i).map tagOf).map V.str)) ∧ Same _ H') ⟨upd_same, Same.new hDa⟩ (fun i H' _ hp => SqL.of (hp.2 _ _ (hL _))) (fun i y H' hy hp => ?_) (fun H' hp => ?_)
  · obtain ⟨hp1, hp2⟩ := hp
    rw [List.getElem?_map] at hy
    obtain ⟨z, hz, rfl⟩ := Option.map_eq_some_iff.mp hy
    have hi : i < wAll.length := (List.getElem?_eq_some_iff.mp hz).1
    refine ⟨rfl, ?_⟩
    refine tYes_if ?_
    obtain ⟨ds, hm⟩ := met_head z
    refine ⟨_, rfl, z, rfl, short z (List.mem_of_getElem? hz), fun Hb v sb av => ?_⟩
    rw [hm] at av
    obtain ⟨p, ys, rfl, hpp, hys⟩ := av.inv_tup
    cases hys with
    | cons h1 h2 =>
      cases h1
      refine ⟨p, _, ((0 : Nat) : Int), .str (tagOf z), rfl, rfl, SqT.of hpp, atI_nat (j := 0) rfl, _, sb _ _ hp1, by rw [List.length_map, List.length_map, List.length_take, sizeLine_eq]; omega, ?_, ?_⟩
      · rw [upd_same, List.take_succ, hz, List.map_append, List.map_append]
        rfl
      · have hDn := hDa
        exact same_upd hDn (Same.trans hp2 sb)
  · obtain ⟨hp1, hp2⟩ := hp
    rw [List.length_map, List.take_of_length_le (Nat.le_refl _)] at hp1
    rw [List.map_map] at hp1
    have e9 : cutV (wAll.map (V.str ∘ tagOf)) none (some 9) = tags9.map V.str := by
      have e1 := cutM0 (V.str ∘ tagOf) wAll 9
      have e2 : (wAll.take 9).map (V.str ∘ tagOf) = tags9.map V.str := by rw [← tags_are, List.map_map]
      exact e1.trans e2
    refine ⟨_, rfl, _, rfl, Da, _, rfl, SqL.of hp1, fun y1 hy1 => ?_⟩
    rw [e9]
    have t1 := Same.new (o := HO.lst (tags9.map V.str)) hy1
    refine ⟨(by show 9 ≤ sizeLine; decide), fun y2 hy2 => ?_⟩
    have t2 := Same.new (o := HO.lst (tags9.map V.str)) hy2
    have shp : PySem.SeqAt.shaped (.list (tags9.map PyData.str)) = true := by decide +kernel
    have eqv : PyData.eqv (.list (tags9.map PyData.str)) (.list (tags9.map PyData.str)) = true := by decide +kernel
    refine ⟨.list (tags9.map PyData.str), .list (tags9.map PyData.str), .lst (SqL.of (t2 _ _ upd_same)) (dp_strs tags9), .lst (SqL.of (upd_same (o := HO.lst (tags9.map V.str)))) (dp_strs tags9), shp, shp, _, rfl, ?_⟩
    rw [eqv]
    refine ite_ff' ?_
    have hLc := (Same.trans (Same.trans hp2 t1) t2) _ _ (hL _)
    have s10 := Same.trans s9 (Same.trans (Same.trans hp2 t1) t2)
    refine ⟨_, rfl, lp, rfl, ⟨_, SqL.of hLc⟩, fun Db hDb => ?_⟩
    refine lc_list (xs := wAll.map V.str) (fun i H' => H' Db = some (.lst []) ∧ Same _ H') ⟨upd_same, Same.new hDb⟩ (fun i H' _ hp => SqL.of (hp.2 _ _ hLc)) (fun i y H' hy hp => ?_) (fun H' hp => ?_)
    · obtain ⟨g1, g2⟩ := hp
      rw [List.getElem?_map] at hy
      obtain ⟨z, hz, rfl⟩ := Option.map_eq_some_iff.mp hy
      refine ⟨rfl, ?_⟩
      refine repr_ne (w := w) (i := 2) (z := z) rfl (short z (List.mem_of_getElem? hz)) fun Hc sc => ?_
      refine ite_ff' ?_
      exact ⟨sc _ _ g1, Same.trans g2 sc⟩
    · obtain ⟨g1, g2⟩ := hp
      refine ⟨(by show 0 ≤ sizeLine; decide), fun y6 hy6 => ⟨Db, y6, [], rfl, rfl, SqL.of ((Same.new hy6) _ _ g1), SqL.of upd_same, ?_⟩⟩
      exact q _ (Same.trans (Same.trans s10 g2) (Same.new hy6))
end
end K15
end

section
set_option Elab.async false
set_option linter.all false
set_option maxRecDepth 100000
set_option pp.maxSteps 900
namespace K15
open PySem PySem.Spec PyProof.Rows L2 TL

abbrev sLaw : Stmt := topS 47
theorem scLaw : FnScope ["script", "spot", "dice", "deep"] ["script"] (defScope sLaw) := ⟨rfl, rfl, rfl, by decide +kernel, rfl, by decide +kernel, by decide +kernel⟩
def spLaw (K : PySem.W.Frag) : Sp := fun vs H Q _ => ∃ (a : Addr) (ns : List Int), vs = [.ref a] ∧ SqL K H a (ns.map V.int) ∧ ns.length ≤ 63 ∧ ∀ H', Q (.bl true) H'
section
variable {P : Program} {w : World} {K : PySem.W.Frag} {mg : Str → Option Value} {base : Heap} {f dc vl vr dp od wr : Addr} {fd dcd vld vrd dpd odd wrd : FuncData}
set_option maxHeartbeats 2000000 in
theorem ok_law (D : Df K mg "law" sLaw ["script"] f fd) (B : Bn mg) (Dc : Df K mg "_law_dice" sDice ["script", "spot"] dc dcd) (Vl : Df K mg "_law_value" sValue ["dice", "deep"] vl vld) (Vr : Df K mg "_law_value_right" sVRight ["dice", "value"] vr vrd) (Dp_ : Df K mg "_law_deep_right" sDeep ["dice"] dp dpd)
    (Od : Df K mg "_law_odd_right" sOdd ["dice"] od odd) (Wr : Df K mg "_law_written_right" sWritten [] wr wrd)
    (GDc : FnOk P w K mg base CX0 1 dc dcd ["script", "spot"] (spDice K)) (GVl : FnOk P w K mg base CX0 21 vl vld ["dice", "deep"] (spVal w 10)) (GVr : FnG P w K mg base 106 vr vrd ["dice", "value"] (spVRight w)) (GDp : FnG P w K mg base 106 dp dpd ["dice"] spDeep)
    (GOd : FnOk P w K mg base CX0 106 od odd ["dice"] spDeep) (GWr : FnG P w K mg base 106 wr wrd [] spWritten) : FnG P w K mg base 107 f fd ["script"] (spLaw K) := by
  refine FnG.ofFun D.F scLaw (fun vs H Q E h => ?_) (fun cdv A outer s H vs Q E hg hr h => ?_)
  · obtain ⟨a, ns, rfl, _⟩ := h
    rfl
  obtain ⟨a, ns, rfl, hS, h63, q⟩ := h
  have nd := scLaw.nd
  have hg2 := deeper_guards (env := envOfC "law" (defScope sLaw) s.heap.objs.size f cdv) hg
  refine ⟨_, pss_cons (ps_for PassesOwn.never rfl (pi_range1 (by rfl) B.range (pa_cons (pe_callB (call_max2 (by rfl)) (by rfl) B.max bt_max (pa_cons pe_int (pa_cons (pe_callB (call_min2 (by rfl)) (by rfl) B.min bt_min (pa_cons pe_int (pa_cons (pe_callB call_len_seq (by rfl) B.len bt_len (pa_cons (pv 0) pa_nil)) pa_nil))) pa_nil))) pa_nil)) (pg_name (i := 1) nd rfl (Or.inl rfl))
      (pss_cons (ps_set (i := 2) nd rfl (.inl rfl) (pe_call GDc (hr.mono (by decide)) (by rfl) Dc.m Dc.F.kp Dc.b .nil pass0 (pa_cons (pv 0) (pa_cons (pv 1) pa_nil))))
      (pss_cons (ps_for PassesOwn.never rfl (pi_tup (pe_tup (pa_cons pe_int (pa_cons pe_int (pa_cons pe_int (pa_cons pe_int (pa_cons pe_int (pa_cons pe_int pa_nil)))))))) (pg_name (i := 3) nd rfl (Or.inl rfl))
        (pss_one (ps_if (pt_not (pt_val (pe_callG GVr (by exact hg2) hr (by rfl) Vr.m Vr.F.kp Vr.b (pa_cons (pv 2) (pa_cons (pe_call GVl (hr.mono (by decide)) (by rfl) Vl.m Vl.F.kp Vl.b .nil pass0 (pa_cons (pv 2) (pa_cons (pv 3) pa_nil))) pa_nil))))) (pss_one (ps_ret pe_bl)) pss_nil)))
      (pss_one (ps_if (pw_or (pt_not (pt_val (pe_callG GDp (by exact hg2) hr (by rfl) Dp_.m Dp_.F.kp Dp_.b (pa_cons (pv 2) pa_nil)))) (pw_or1 (pt_not (pt_val (pe_call GOd hr (by rfl) Od.m Od.F.kp Od.b .nil pass0 (pa_cons (pv 2) pa_nil)))))).pt (pss_one (ps_ret pe_bl)) pss_nil)))))
    (pss_one (ps_ret (pe_callG0 GWr (by exact hg2) hr (by rfl) Wr.m Wr.F.kp Wr.b))), ?_⟩
  obtain ⟨m, hm, hm3⟩ : ∃ m : Nat, (if (if ((ns.map V.int).length : Int) < 3 then ((ns.map V.int).length : Int) else 3) > 1 then (if ((ns.map V.int).length : Int) < 3 then ((ns.map V.int).length : Int) else 3) else 1) = (m : Int) ∧ m ≤ 3 := by
    rw [List.length_map]
    refine ⟨max 1 (min ns.length 3), ?_, by omega⟩
    split <;> split at * <;> omega
  refine ⟨_, rfl, a, _, rfl, .inl hS, _, _, rfl, _, _, rfl, (m : Int), by rw [← hm], by omega, by omega, ?_⟩
  refine for_range (lo := 0) (n := m) (fun i σ H' => ∃ o1 o2 o3 : Option V, σ = [some (.ref a), o1, o2, o3] ∧ Same H H') ⟨none, none, none, rfl, Same.refl H⟩ (fun i σ H1 hi hp => ?_) (fun σ H1 hp => ?_)
  · obtain ⟨o1, o2, o3, rfl, s1⟩ := hp
    refine ⟨_, rfl, _, rfl, a, ns, 0 + i, congrArg (fun x => [V.ref a, V.int x]) (show (0 : Int) + (i : Int) = ((0 + i : Nat) : Int) by omega), s1.seq hS, h63, fun H2 da s2 hda d2 => ?_⟩
    refine ⟨(by show 6 ≤ sizeLine; decide), fun tp htp => ?_⟩
    refine ⟨tp, rfl, ⟨_, SqT.of upd_same⟩, ?_⟩
    have hta : tp ≠ da := d2.ne htp
    refine for_tup (xs := [.int 2, .int 4, .int 6, .int 9, .int 5, .int 3]) (fun j σ H' => ∃ o3 : Option V, σ = [some (.ref a), some (.int (0 + (i : Int))), some (.ref da), o3] ∧ Dice H' da ∧ Kp da H2 H' ∧ H' tp = some (.tup [.int 2, .int 4, .int 6, .int 9, .int 5, .int 3])) ⟨o3, rfl, d2.new htp, Kp.new htp, upd_same⟩ (fun j σ H' _ hp => by obtain ⟨_, _, _, _, h4⟩ := hp; exact SqT.of h4) (fun j v σ H3 hv hp => ?_) (fun σ H3 hp => ?_)
    · obtain ⟨o3, rfl, d3, k3, t3⟩ := hp
      obtain ⟨e, rfl, he⟩ : ∃ e : Int, v = .int e ∧ 0 ≤ e ∧ e < 10 := by
        have hv := List.mem_of_getElem? hv
        simp only [List.mem_cons, List.not_mem_nil, or_false] at hv
        rcases hv with rfl | rfl | rfl | rfl | rfl | rfl
        all_goals exact ⟨_, rfl, by decide, by decide⟩
      refine ⟨_, rfl, _, rfl, _, rfl, da, e, rfl, by omega, he.2, d3, fun H4 x d k4 d4 ax vd => ?_⟩
      refine ⟨da, x, d, e.toNat, rfl, ax, by omega, vd, d4, fun H5 k5 d5 => ⟨_, rfl, ?_⟩⟩
      refine ite_ff' ?_
      exact ⟨_, rfl, d5, (k3.trans k4).trans k5, k5 _ _ hta (k4 _ _ hta t3)⟩
    · obtain ⟨o3, rfl, d3, k3, t3⟩ := hp
      refine ⟨_, rfl, da, rfl, d3, fun H4 k4 d4 => ⟨_, rfl, ?_⟩⟩
      refine ite_ff' ?_
      refine ⟨_, rfl, da, rfl, d4, fun H5 k5 d5 => ⟨_, rfl, ?_⟩⟩
      refine ite_ff' ?_
      exact ⟨_, _, _, rfl, Same.trans s1 (Same.ofKp s2 hda ((k3.trans k4).trans k5))⟩
  · obtain ⟨o1, o2, o3, rfl, s1⟩ := hp
    exact ⟨rfl, fun H2 s2 => q H2⟩
end
end K15
end

section
set_option Elab.async false
set_option linter.all false
set_option maxRecDepth 100000
set_option maxHeartbeats 4000000
set_option pp.maxSteps 900
namespace K15
open PySem PySem.Spec PyProof.Rows L2 TL

/-! ### the end -/
section
variable {K : PySem.W.Frag} {mg : Str → Option Value} {h : Heap}
theorem df_mk {x : Str} {st : Stmt} {ps : List Str} {f : Addr} {oc : Value} {od an : Option Addr} {osl : Array (Option Value)} {kV doc pm cdv ct : Value} (X : K.In h) (G : h.Ns mainGlobals mg)
    (hb : ∀ (kV doc pm : Value) (an : Option Addr) (cdv ct : Value) (us : List Value), us.length = ps.length → bindArgs (PySem.W.fnOf x x (defArgs st) (defBody st) (defScope st) .none kV doc pm an cdv ct) ⟨us, []⟩ = pure (ps.zip us))
    (a : PySem.W.nsIn K mainGlobals x = some (some (.ref f)))
    (l : K.lookup f = some ⟨oc, od, .func (PySem.W.fnOf x x (defArgs st) (defBody st) (defScope st) .none kV doc pm an cdv ct), osl⟩)
    (c : PySem.W.codeIn K cdv x = true) (k : PySem.W.keepIn K (.ref f) = true) : ∃ fd, Df K mg x st ps f fd :=
  have F := fun_mk (st := st) l c k
  ⟨_, F, F.binds hb, PySem.W.mg_of X G a⟩
theorem mt_mk {C : Addr} {x qual : Str} {st : Stmt} {ps : List Str} {f : Addr} {oc : Value} {od an : Option Addr} {osl : Array (Option Value)} {kV doc pm cdv ct : Value}
    (hb : ∀ (kV doc pm : Value) (an : Option Addr) (cdv ct : Value) (us : List Value), us.length = ps.length → bindArgs (PySem.W.fnOf x qual (defArgs st) (defBody st) (defScope st) .none kV doc pm an cdv ct) ⟨us, []⟩ = pure (ps.zip us))
    (a : PySem.W.findIn K (.ref C) x = some (some (.ref f))) (i : PySem.W.isFn K (.ref f) = true)
    (l : K.lookup f = some ⟨oc, od, .func (PySem.W.fnOf x qual (defArgs st) (defBody st) (defScope st) .none kV doc pm an cdv ct), osl⟩)
    (c : PySem.W.codeIn K cdv qual = true) (k : PySem.W.keepIn K (.ref f) = true) : ∃ fd, Mt K C x qual st ps f fd :=
  have F := fun_mk (st := st) l c k
  ⟨_, F, F.binds hb, ⟨a, i, k⟩⟩
end
theorem exm_self {K : PySem.W.Frag} {S : Addr} (h1 : PySem.W.subIn K (.ref S) (.type "BaseException") = some true) (h2 : PySem.W.isClsIn K S = true) (h3 : PySem.W.typeIn K (.ref S) = some (.type "type")) (h4 : PySem.W.subIn K (.ref S) (.ref S) = some true) :
    PySem.W.exmOne K (.ref S) (.ref S) = some true := by
  have e1 : (PySem.W.subIn K (.ref S) (.type "BaseException") == some true) = true := by rw [h1] <;> rfl
  have e2 : ((PySem.W.clsIn K S).isSome && PySem.W.typeIn K (.ref S) == some (.type "type")) = true := by
    have h2' : (PySem.W.clsIn K S).isSome = true := h2
    rw [h2', h3] <;> rfl
  show (if (PySem.W.subIn K (.ref S) (.type "BaseException") == some true) = true then (if ((PySem.W.clsIn K S).isSome && PySem.W.typeIn K (.ref S) == some (.type "type")) = true then PySem.W.subIn K (.ref S) (.ref S) else none) else none) = some true
  rw [if_pos e1, if_pos e2]
  exact h4
/-- the law's own promise, from what the top has written -/
theorem all_law {P : Program} {w : World} {K : PySem.W.Frag} {mg : Str → Option Value} {base : Heap} {C CP CI fI pO : Addr}
    {f5 f15 f16 f17 f18 f20 f21 f22 f24 f25 f26 f27 f28 f29 f30 f31 f32 f33 f34 f35 f36 f37 f38 f39 f40 f41 f42 f43 f44 f45 f46 f47 m0 m1 m2 m3 m4 m5 m6 m7 m8 m9 : Addr} {b5 b15 b16 b17 b18 b20 b21 b22 b24 b25 b26 b27 b28 b29 b30 b31 b32 b33 b34 b35 b36 b37 b38 b39 b40 b41 b42 b43 b44 b45 b46 b47 c0 c1 c2 c3 c4 c5 c6 c7 c8 c9 : FuncData}
    (B : Bn mg) (R : Rc K mg C) (T : PTxt P K mg CP fI) (O : OTxt K mg CI) (hnd : base.NoDigits)
    (d5 : Df K mg "is_whole" sIsWhole ["value"] f5 b5)
    (d15 : Df K mg "is_short_whole" sShort ["value"] f15 b15)
    (d16 : Df K mg "is_plain_in" sPlain ["value", "left"] f16 b16)
    (d17 : Df K mg "text_in" sTextIn ["value"] f17 b17)
    (d18 : Df K mg "has_dict" sHas ["value"] f18 b18)
    (d20 : Df K mg "is_plain" sIsPlain ["value"] f20 b20)
    (d21 : Df K mg "value_text" sVText ["value"] f21 b21)
    (d22 : Df K mg "read_value" sReadV ["value"] f22 b22)
    (d24 : Df K mg "_law_dice" sDice ["script", "spot"] f24 b24)
    (d25 : Df K mg "_law_roll" sRoll ["dice", "total"] f25 b25)
    (d26 : Df K mg "_law_pick" sPick ["dice", "items"] f26 b26)
    (d27 : Df K mg "_law_shaken" sShaken ["dice", "items"] f27 b27)
    (d28 : Df K mg "_law_plain_text" sPlainText ["value"] f28 b28)
    (d29 : Df K mg "_law_letters" sLetters ["dice", "many"] f29 b29)
    (d30 : Df K mg "_law_leaf" sLeaf ["dice"] f30 b30)
    (d31 : Df K mg "_law_great" sGreat ["dice", "many"] f31 b31)
    (d32 : Df K mg "_law_key" sKey ["dice", "deep"] f32 b32)
    (d33 : Df K mg "_law_value" sValue ["dice", "deep"] f33 b33)
    (d34 : Df K mg "_law_word" sWord ["text", "at"] f34 b34)
    (d35 : Df K mg "_law_read" sLRead ["text", "at", "left"] f35 b35)
    (d36 : Df K mg "_law_has_dict" sLHas ["value"] f36 b36)
    (d37 : Df K mg "_law_due" sDue ["text"] f37 b37)
    (d38 : Df K mg "_law_met" sMet ["text"] f38 b38)
    (d39 : Df K mg "_law_spoilt" sSpoilt ["dice", "text"] f39 b39)
    (d40 : Df K mg "_law_other_way" sOther ["dice", "value"] f40 b40)
    (d41 : Df K mg "_law_value_right" sVRight ["dice", "value"] f41 b41)
    (d42 : Df K mg "_law_nested" sNested ["value", "deep", "is_dict"] f42 b42)
    (d43 : Df K mg "_law_deep_right" sDeep ["dice"] f43 b43)
    (d44 : Df K mg "_law_refused" sRefused ["value"] f44 b44)
    (d45 : Df K mg "_law_odd_right" sOdd ["dice"] f45 b45)
    (d46 : Df K mg "_law_written_right" sWritten [] f46 b46)
    (d47 : Df K mg "law" sLaw ["script"] f47 b47)
    (e0 : Fun K "__init__" "Reading.__init__" (rdSt 0) m0 c0) (eb0 : Binds K c0 ["self", "text"] []) (MK : Mk K C m0)
    (e1 : Fun K "is_over" "Reading.is_over" (rdSt 1) m1 c1) (eb1 : Binds K c1 ["self"] []) (PO : PropOf K C "is_over" pO m1)
    (e2 : Mt K C "has" "Reading.has" (rdSt 2) ["self", "word"] m2 c2)
    (e3 : Mt K C "take" "Reading.take" (rdSt 3) ["self", "word"] m3 c3)
    (e4 : Mt K C "row_of" "Reading.row_of" (rdSt 4) ["self", "signs"] m4 c4)
    (e5 : Mt K C "value" "Reading.value" (rdSt 5) ["self", "left"] m5 c5)
    (e6 : Mt K C "string" "Reading.string" (rdSt 6) ["self"] m6 c6)
    (e7 : Mt K C "members" "Reading.members" (rdSt 7) ["self", "left"] m7 c7)
    (e8 : Mt K C "pairs" "Reading.pairs" (rdSt 8) ["self", "left"] m8 c8)
    (e9 : Mt K C "whole" "Reading.whole" (rdSt 9) ["self"] m9 c9)
    (gMOSTTEXT : Gv mg "MOST_TEXT" (.int 4000))
    (gMOSTKEY : Gv mg "MOST_KEY" (.int 6))
    (gMOSTNESTED : Gv mg "MOST_NESTED" (.int 30))
    (gFARTHEST : Gv mg "FARTHEST" (.int (10 ^ 64)))
    (gSIGNS : Gv mg "SIGNS" (.str "abcdefghijklmnopqrstuvwxyz "))
    (gDIGITS : Gv mg "DIGITS" (.str "0123456789"))
    (gNONE : Gv mg "NONE" (.str "none"))
    (gQUOTE : Gv mg "QUOTE" (.str "\"")) :
    FnG P w K mg base 107 f47 b47 ["script"] (spLaw K) := by
  have roll := ok_roll (P := P) (w := w) (base := base) d25 B.int
  have pick := ok_pick d26 d25 B.len roll
  have letters := ok_letters d29 d26 B.range pick
  have great := ok_great d31 d25 B roll
  have leaf : FnOk P w K mg base CX0 4 f30 b30 ["dice"] (spLeaf w) := ok_leaf (r1 := f25) d30 d25 d26 d29 d31 roll pick letters great
  have key : FnOk P w K mg base CX0 11 f32 b32 ["dice", "deep"] (spKey w 7) := ok_key d32 d25 d26 d30 B roll pick leaf 7
  have value : FnOk P w K mg base CX0 21 f33 b33 ["dice", "deep"] (spVal w 10) := ok_value d33 d25 d26 d30 d32 B roll pick leaf key 10
  have shaken := ok_shaken d27 d25 B roll
  have other : FnOk P w K mg base CX0 42 f40 b40 ["dice", "value"] (spOther w 40) := ok_other d40 d27 B shaken 40
  have whole : FnOk P w K mg base CX0 1 f5 b5 ["value"] (spIsWhole w) := ok_isWhole d5 B
  have short := ok_short d15 d5 B gFARTHEST gMOSTTEXT whole
  have plain : FnOk P w K mg base CX0 33 f16 b16 ["value", "left"] (spPlain w 31) := ok_plain d16 d15 B gSIGNS gMOSTKEY gMOSTTEXT short 31
  have isPlain := ok_isPlain d20 d16 gMOSTNESTED plain
  have textIn : FnOk P w K mg base CX0 31 f17 b17 ["value"] (spText w 31) := ok_textIn d17 B hnd gNONE gQUOTE 31
  have plainText : FnOk P w K mg base CX0 40 f28 b28 ["value"] (spPText w 40) := ok_plainText d28 B hnd 40
  have has : FnOk P w K mg base CX0 40 f18 b18 ["value"] (spHas w 40) := ok_has d18 B 40
  have lhas : FnOk P w K mg base CX0 40 f36 b36 ["value"] (spHas w 40) := ok_lhas d36 B 40
  have word : FnOk P w K mg base CX0 1 f34 b34 ["text", "at"] (spWord w) := ok_word d34 B hnd
  have lread : FnOk P w K mg base CX0 72 f35 b35 ["text", "at", "left"] (spLRead w 31) := ok_lread d35 d34 d36 B word lhas 31
  have nested : FnOk P w K mg base CX0 1 f42 b42 ["value", "deep", "is_dict"] (spNested w) := ok_nested d42 B
  have due : FnOk P w K mg base CX0 73 f37 b37 ["text"] (spDue w) := ok_due (n := 0) d37 d35 B lread
  have rinit : FnOk P w K mg base CX0 1 m0 c0 ["self", "text"] (spRInit C) := ok_rinit e0 R
  have over : FnOk P w K mg base CX0 1 m1 c1 ["self"] (spOver C) := ok_over e1 R B
  have rhas : FnOk P w K mg base CX0 1 m2 c2 ["self", "word"] (spRHas C) := ok_rhas e2 R
  have take := ok_take e3 e2 R B T rhas
  have row := ok_row e4 R PO eb1 over
  have rstr := ok_rstr e6 R B T e3 e4 gQUOTE gSIGNS gMOSTTEXT take row
  have rwhole := ok_whole e9 R B hnd T e3 e4 e2 gDIGITS gMOSTTEXT rhas take row
  have rval : FnOk P w K mg base (L2.CX P w) 103 m5 c5 ["self", "left"] (spRVal w C CP 31) := ok_rval e5 R B T e3 e2 e7 e8 e6 e9 d18 gNONE gQUOTE gMOSTKEY rhas take rstr rwhole has 31
  have readV := ok_readV d22 R B T MK eb0 e5 PO eb1 gMOSTNESTED rinit over rval
  have vtext := ok_vtext d21 O d20 d17 isPlain textIn
  have met := ok_met d38 T d22 readV
  have refused := ok_refused d44 O d21 vtext
  have dice : FnOk P w K mg base CX0 1 f24 b24 ["script", "spot"] (spDice K) := ok_dice d24 B
  have spoilt := ok_spoilt d39 d25 d26 B roll pick
  have vright := ok_vright d41 B hnd d28 d20 d21 d40 d38 d37 d22 d26 d39 plainText isPlain vtext other met due readV pick spoilt
  have deep := ok_deep d43 B hnd d30 d25 d42 d28 d20 d38 d37 leaf roll nested plainText isPlain met due
  have odd := ok_odd d45 B d26 d20 d44 d38 pick isPlain refused met
  have written := ok_written d46 B hnd d38 d37 met due
  exact ok_law d47 B d24 d33 d41 d43 d45 d46 dice value vright deep odd written
theorem all_mk {P : Program} {w : World} {K : PySem.W.Frag} {h : Heap} {mg : Str → Option Value} {fa C : Addr} (X : K.In h) (G : h.Ns mainGlobals mg) (hfa : mg "law" = some (.ref fa))
    {f5 : Addr} {oc5 kV5 dc5 pm5 cd5 ct5 : Value} {od5 an5 : Option Addr} {sl5 : Array (Option Value)}
    {f15 : Addr} {oc15 kV15 dc15 pm15 cd15 ct15 : Value} {od15 an15 : Option Addr} {sl15 : Array (Option Value)}
    {f16 : Addr} {oc16 kV16 dc16 pm16 cd16 ct16 : Value} {od16 an16 : Option Addr} {sl16 : Array (Option Value)}
    {f17 : Addr} {oc17 kV17 dc17 pm17 cd17 ct17 : Value} {od17 an17 : Option Addr} {sl17 : Array (Option Value)}
    {f18 : Addr} {oc18 kV18 dc18 pm18 cd18 ct18 : Value} {od18 an18 : Option Addr} {sl18 : Array (Option Value)}
    {f20 : Addr} {oc20 kV20 dc20 pm20 cd20 ct20 : Value} {od20 an20 : Option Addr} {sl20 : Array (Option Value)}
    {f21 : Addr} {oc21 kV21 dc21 pm21 cd21 ct21 : Value} {od21 an21 : Option Addr} {sl21 : Array (Option Value)}
    {f22 : Addr} {oc22 kV22 dc22 pm22 cd22 ct22 : Value} {od22 an22 : Option Addr} {sl22 : Array (Option Value)}
    {f24 : Addr} {oc24 kV24 dc24 pm24 cd24 ct24 : Value} {od24 an24 : Option Addr} {sl24 : Array (Option Value)}
    {f25 : Addr} {oc25 kV25 dc25 pm25 cd25 ct25 : Value} {od25 an25 : Option Addr} {sl25 : Array (Option Value)}
    {f26 : Addr} {oc26 kV26 dc26 pm26 cd26 ct26 : Value} {od26 an26 : Option Addr} {sl26 : Array (Option Value)}
    {f27 : Addr} {oc27 kV27 dc27 pm27 cd27 ct27 : Value} {od27 an27 : Option Addr} {sl27 : Array (Option Value)}
    {f28 : Addr} {oc28 kV28 dc28 pm28 cd28 ct28 : Value} {od28 an28 : Option Addr} {sl28 : Array (Option Value)}
    {f29 : Addr} {oc29 kV29 dc29 pm29 cd29 ct29 : Value} {od29 an29 : Option Addr} {sl29 : Array (Option Value)}
    {f30 : Addr} {oc30 kV30 dc30 pm30 cd30 ct30 : Value} {od30 an30 : Option Addr} {sl30 : Array (Option Value)}
    {f31 : Addr} {oc31 kV31 dc31 pm31 cd31 ct31 : Value} {od31 an31 : Option Addr} {sl31 : Array (Option Value)}
    {f32 : Addr} {oc32 kV32 dc32 pm32 cd32 ct32 : Value} {od32 an32 : Option Addr} {sl32 : Array (Option Value)}
    {f33 : Addr} {oc33 kV33 dc33 pm33 cd33 ct33 : Value} {od33 an33 : Option Addr} {sl33 : Array (Option Value)}
    {f34 : Addr} {oc34 kV34 dc34 pm34 cd34 ct34 : Value} {od34 an34 : Option Addr} {sl34 : Array (Option Value)}
    {f35 : Addr} {oc35 kV35 dc35 pm35 cd35 ct35 : Value} {od35 an35 : Option Addr} {sl35 : Array (Option Value)}
    {f36 : Addr} {oc36 kV36 dc36 pm36 cd36 ct36 : Value} {od36 an36 : Option Addr} {sl36 : Array (Option Value)}
    {f37 : Addr} {oc37 kV37 dc37 pm37 cd37 ct37 : Value} {od37 an37 : Option Addr} {sl37 : Array (Option Value)}
    {f38 : Addr} {oc38 kV38 dc38 pm38 cd38 ct38 : Value} {od38 an38 : Option Addr} {sl38 : Array (Option Value)}
    {f39 : Addr} {oc39 kV39 dc39 pm39 cd39 ct39 : Value} {od39 an39 : Option Addr} {sl39 : Array (Option Value)}
    {f40 : Addr} {oc40 kV40 dc40 pm40 cd40 ct40 : Value} {od40 an40 : Option Addr} {sl40 : Array (Option Value)}
    {f41 : Addr} {oc41 kV41 dc41 pm41 cd41 ct41 : Value} {od41 an41 : Option Addr} {sl41 : Array (Option Value)}
    {f42 : Addr} {oc42 kV42 dc42 pm42 cd42 ct42 : Value} {od42 an42 : Option Addr} {sl42 : Array (Option Value)}
    {f43 : Addr} {oc43 kV43 dc43 pm43 cd43 ct43 : Value} {od43 an43 : Option Addr} {sl43 : Array (Option Value)}
    {f44 : Addr} {oc44 kV44 dc44 pm44 cd44 ct44 : Value} {od44 an44 : Option Addr} {sl44 : Array (Option Value)}
    {f45 : Addr} {oc45 kV45 dc45 pm45 cd45 ct45 : Value} {od45 an45 : Option Addr} {sl45 : Array (Option Value)}
    {f46 : Addr} {oc46 kV46 dc46 pm46 cd46 ct46 : Value} {od46 an46 : Option Addr} {sl46 : Array (Option Value)}
    {f47 : Addr} {oc47 kV47 dc47 pm47 cd47 ct47 : Value} {od47 an47 : Option Addr} {sl47 : Array (Option Value)}
    {m0 : Addr} {uc0 uV0 ud0 up0 ue0 ut0 : Value} {uo0 ua0 : Option Addr} {us0 : Array (Option Value)}
    {pO : Addr} {rest : List Value}
    {m1 : Addr} {uc1 uV1 ud1 up1 ue1 ut1 : Value} {uo1 ua1 : Option Addr} {us1 : Array (Option Value)}
    {m2 : Addr} {uc2 uV2 ud2 up2 ue2 ut2 : Value} {uo2 ua2 : Option Addr} {us2 : Array (Option Value)}
    {m3 : Addr} {uc3 uV3 ud3 up3 ue3 ut3 : Value} {uo3 ua3 : Option Addr} {us3 : Array (Option Value)}
    {m4 : Addr} {uc4 uV4 ud4 up4 ue4 ut4 : Value} {uo4 ua4 : Option Addr} {us4 : Array (Option Value)}
    {m5 : Addr} {uc5 uV5 ud5 up5 ue5 ut5 : Value} {uo5 ua5 : Option Addr} {us5 : Array (Option Value)}
    {m6 : Addr} {uc6 uV6 ud6 up6 ue6 ut6 : Value} {uo6 ua6 : Option Addr} {us6 : Array (Option Value)}
    {m7 : Addr} {uc7 uV7 ud7 up7 ue7 ut7 : Value} {uo7 ua7 : Option Addr} {us7 : Array (Option Value)}
    {m8 : Addr} {uc8 uV8 ud8 up8 ue8 ut8 : Value} {uo8 ua8 : Option Addr} {us8 : Array (Option Value)}
    {m9 : Addr} {uc9 uV9 ud9 up9 ue9 ut9 : Value} {uo9 ua9 : Option Addr} {us9 : Array (Option Value)}
    {tMOSTTEXT : Tok}
    {tMOSTKEY : Tok}
    {tMOSTNESTED : Tok}
    {tFARTHEST : Tok}
    {tSIGNS : Tok}
    {tDIGITS : Tok}
    {tNONE : Tok}
    {tQUOTE : Tok}
    {CP GE fI N cc : Addr} {nm q : Str} {bs : List Value} {sn : List Str} {sub : List Value} {ab : Bool} {col : Option Bool} {dd : Option Addr} {x0 x1 x2 x3 x5 : Option Value} {poc pkV pdoc ppm pct : Value} {pod pan : Option Addr} {pcda : Addr} {posl : Array (Option Value)} {pvs : Array Value} {pfile : Str} {ptf : Tok} {pccl pcl : Value} {pcdd pcld : Option Addr} {pccs pcsl : Array (Option Value)}
    {CI : Addr}
    (a5 : PySem.W.nsIn K mainGlobals "is_whole" = some (some (.ref f5)))
    (l5 : K.lookup f5 = some ⟨oc5, od5, .func (PySem.W.fnOf "is_whole" "is_whole" (defArgs sIsWhole) (defBody sIsWhole) (defScope sIsWhole) .none kV5 dc5 pm5 an5 cd5 ct5), sl5⟩)
    (k5 : PySem.W.codeIn K cd5 "is_whole" = true)
    (q5 : PySem.W.keepIn K (.ref f5) = true)
    (a15 : PySem.W.nsIn K mainGlobals "is_short_whole" = some (some (.ref f15)))
    (l15 : K.lookup f15 = some ⟨oc15, od15, .func (PySem.W.fnOf "is_short_whole" "is_short_whole" (defArgs sShort) (defBody sShort) (defScope sShort) .none kV15 dc15 pm15 an15 cd15 ct15), sl15⟩)
    (k15 : PySem.W.codeIn K cd15 "is_short_whole" = true)
    (q15 : PySem.W.keepIn K (.ref f15) = true)
    (a16 : PySem.W.nsIn K mainGlobals "is_plain_in" = some (some (.ref f16)))
    (l16 : K.lookup f16 = some ⟨oc16, od16, .func (PySem.W.fnOf "is_plain_in" "is_plain_in" (defArgs sPlain) (defBody sPlain) (defScope sPlain) .none kV16 dc16 pm16 an16 cd16 ct16), sl16⟩)
    (k16 : PySem.W.codeIn K cd16 "is_plain_in" = true)
    (q16 : PySem.W.keepIn K (.ref f16) = true)
    (a17 : PySem.W.nsIn K mainGlobals "text_in" = some (some (.ref f17)))
    (l17 : K.lookup f17 = some ⟨oc17, od17, .func (PySem.W.fnOf "text_in" "text_in" (defArgs sTextIn) (defBody sTextIn) (defScope sTextIn) .none kV17 dc17 pm17 an17 cd17 ct17), sl17⟩)
    (k17 : PySem.W.codeIn K cd17 "text_in" = true)
    (q17 : PySem.W.keepIn K (.ref f17) = true)
    (a18 : PySem.W.nsIn K mainGlobals "has_dict" = some (some (.ref f18)))
    (l18 : K.lookup f18 = some ⟨oc18, od18, .func (PySem.W.fnOf "has_dict" "has_dict" (defArgs sHas) (defBody sHas) (defScope sHas) .none kV18 dc18 pm18 an18 cd18 ct18), sl18⟩)
    (k18 : PySem.W.codeIn K cd18 "has_dict" = true)
    (q18 : PySem.W.keepIn K (.ref f18) = true)
    (a20 : PySem.W.nsIn K mainGlobals "is_plain" = some (some (.ref f20)))
    (l20 : K.lookup f20 = some ⟨oc20, od20, .func (PySem.W.fnOf "is_plain" "is_plain" (defArgs sIsPlain) (defBody sIsPlain) (defScope sIsPlain) .none kV20 dc20 pm20 an20 cd20 ct20), sl20⟩)
    (k20 : PySem.W.codeIn K cd20 "is_plain" = true)
    (q20 : PySem.W.keepIn K (.ref f20) = true)
    (a21 : PySem.W.nsIn K mainGlobals "value_text" = some (some (.ref f21)))
    (l21 : K.lookup f21 = some ⟨oc21, od21, .func (PySem.W.fnOf "value_text" "value_text" (defArgs sVText) (defBody sVText) (defScope sVText) .none kV21 dc21 pm21 an21 cd21 ct21), sl21⟩)
    (k21 : PySem.W.codeIn K cd21 "value_text" = true)
    (q21 : PySem.W.keepIn K (.ref f21) = true)
    (a22 : PySem.W.nsIn K mainGlobals "read_value" = some (some (.ref f22)))
    (l22 : K.lookup f22 = some ⟨oc22, od22, .func (PySem.W.fnOf "read_value" "read_value" (defArgs sReadV) (defBody sReadV) (defScope sReadV) .none kV22 dc22 pm22 an22 cd22 ct22), sl22⟩)
    (k22 : PySem.W.codeIn K cd22 "read_value" = true)
    (q22 : PySem.W.keepIn K (.ref f22) = true)
    (a24 : PySem.W.nsIn K mainGlobals "_law_dice" = some (some (.ref f24)))
    (l24 : K.lookup f24 = some ⟨oc24, od24, .func (PySem.W.fnOf "_law_dice" "_law_dice" (defArgs sDice) (defBody sDice) (defScope sDice) .none kV24 dc24 pm24 an24 cd24 ct24), sl24⟩)
    (k24 : PySem.W.codeIn K cd24 "_law_dice" = true)
    (q24 : PySem.W.keepIn K (.ref f24) = true)
    (a25 : PySem.W.nsIn K mainGlobals "_law_roll" = some (some (.ref f25)))
    (l25 : K.lookup f25 = some ⟨oc25, od25, .func (PySem.W.fnOf "_law_roll" "_law_roll" (defArgs sRoll) (defBody sRoll) (defScope sRoll) .none kV25 dc25 pm25 an25 cd25 ct25), sl25⟩)
    (k25 : PySem.W.codeIn K cd25 "_law_roll" = true)
    (q25 : PySem.W.keepIn K (.ref f25) = true)
    (a26 : PySem.W.nsIn K mainGlobals "_law_pick" = some (some (.ref f26)))
    (l26 : K.lookup f26 = some ⟨oc26, od26, .func (PySem.W.fnOf "_law_pick" "_law_pick" (defArgs sPick) (defBody sPick) (defScope sPick) .none kV26 dc26 pm26 an26 cd26 ct26), sl26⟩)
    (k26 : PySem.W.codeIn K cd26 "_law_pick" = true)
    (q26 : PySem.W.keepIn K (.ref f26) = true)
    (a27 : PySem.W.nsIn K mainGlobals "_law_shaken" = some (some (.ref f27)))
    (l27 : K.lookup f27 = some ⟨oc27, od27, .func (PySem.W.fnOf "_law_shaken" "_law_shaken" (defArgs sShaken) (defBody sShaken) (defScope sShaken) .none kV27 dc27 pm27 an27 cd27 ct27), sl27⟩)
    (k27 : PySem.W.codeIn K cd27 "_law_shaken" = true)
    (q27 : PySem.W.keepIn K (.ref f27) = true)
    (a28 : PySem.W.nsIn K mainGlobals "_law_plain_text" = some (some (.ref f28)))
    (l28 : K.lookup f28 = some ⟨oc28, od28, .func (PySem.W.fnOf "_law_plain_text" "_law_plain_text" (defArgs sPlainText) (defBody sPlainText) (defScope sPlainText) .none kV28 dc28 pm28 an28 cd28 ct28), sl28⟩)
    (k28 : PySem.W.codeIn K cd28 "_law_plain_text" = true)
    (q28 : PySem.W.keepIn K (.ref f28) = true)
    (a29 : PySem.W.nsIn K mainGlobals "_law_letters" = some (some (.ref f29)))
    (l29 : K.lookup f29 = some ⟨oc29, od29, .func (PySem.W.fnOf "_law_letters" "_law_letters" (defArgs sLetters) (defBody sLetters) (defScope sLetters) .none kV29 dc29 pm29 an29 cd29 ct29), sl29⟩)
    (k29 : PySem.W.codeIn K cd29 "_law_letters" = true)
    (q29 : PySem.W.keepIn K (.ref f29) = true)
    (a30 : PySem.W.nsIn K mainGlobals "_law_leaf" = some (some (.ref f30)))
    (l30 : K.lookup f30 = some ⟨oc30, od30, .func (PySem.W.fnOf "_law_leaf" "_law_leaf" (defArgs sLeaf) (defBody sLeaf) (defScope sLeaf) .none kV30 dc30 pm30 an30 cd30 ct30), sl30⟩)
    (k30 : PySem.W.codeIn K cd30 "_law_leaf" = true)
    (q30 : PySem.W.keepIn K (.ref f30) = true)
    (a31 : PySem.W.nsIn K mainGlobals "_law_great" = some (some (.ref f31)))
    (l31 : K.lookup f31 = some ⟨oc31, od31, .func (PySem.W.fnOf "_law_great" "_law_great" (defArgs sGreat) (defBody sGreat) (defScope sGreat) .none kV31 dc31 pm31 an31 cd31 ct31), sl31⟩)
    (k31 : PySem.W.codeIn K cd31 "_law_great" = true)
    (q31 : PySem.W.keepIn K (.ref f31) = true)
    (a32 : PySem.W.nsIn K mainGlobals "_law_key" = some (some (.ref f32)))
    (l32 : K.lookup f32 = some ⟨oc32, od32, .func (PySem.W.fnOf "_law_key" "_law_key" (defArgs sKey) (defBody sKey) (defScope sKey) .none kV32 dc32 pm32 an32 cd32 ct32), sl32⟩)
    (k32 : PySem.W.codeIn K cd32 "_law_key" = true)
    (q32 : PySem.W.keepIn K (.ref f32) = true)
    (a33 : PySem.W.nsIn K mainGlobals "_law_value" = some (some (.ref f33)))
    (l33 : K.lookup f33 = some ⟨oc33, od33, .func (PySem.W.fnOf "_law_value" "_law_value" (defArgs sValue) (defBody sValue) (defScope sValue) .none kV33 dc33 pm33 an33 cd33 ct33), sl33⟩)
    (k33 : PySem.W.codeIn K cd33 "_law_value" = true)
    (q33 : PySem.W.keepIn K (.ref f33) = true)
    (a34 : PySem.W.nsIn K mainGlobals "_law_word" = some (some (.ref f34)))
    (l34 : K.lookup f34 = some ⟨oc34, od34, .func (PySem.W.fnOf "_law_word" "_law_word" (defArgs sWord) (defBody sWord) (defScope sWord) .none kV34 dc34 pm34 an34 cd34 ct34), sl34⟩)
    (k34 : PySem.W.codeIn K cd34 "_law_word" = true)
    (q34 : PySem.W.keepIn K (.ref f34) = true)
    (a35 : PySem.W.nsIn K mainGlobals "_law_read" = some (some (.ref f35)))
    (l35 : K.lookup f35 = some ⟨oc35, od35, .func (PySem.W.fnOf "_law_read" "_law_read" (defArgs sLRead) (defBody sLRead) (defScope sLRead) .none kV35 dc35 pm35 an35 cd35 ct35), sl35⟩)
    (k35 : PySem.W.codeIn K cd35 "_law_read" = true)
    (q35 : PySem.W.keepIn K (.ref f35) = true)
    (a36 : PySem.W.nsIn K mainGlobals "_law_has_dict" = some (some (.ref f36)))
    (l36 : K.lookup f36 = some ⟨oc36, od36, .func (PySem.W.fnOf "_law_has_dict" "_law_has_dict" (defArgs sLHas) (defBody sLHas) (defScope sLHas) .none kV36 dc36 pm36 an36 cd36 ct36), sl36⟩)
    (k36 : PySem.W.codeIn K cd36 "_law_has_dict" = true)
    (q36 : PySem.W.keepIn K (.ref f36) = true)
    (a37 : PySem.W.nsIn K mainGlobals "_law_due" = some (some (.ref f37)))
    (l37 : K.lookup f37 = some ⟨oc37, od37, .func (PySem.W.fnOf "_law_due" "_law_due" (defArgs sDue) (defBody sDue) (defScope sDue) .none kV37 dc37 pm37 an37 cd37 ct37), sl37⟩)
    (k37 : PySem.W.codeIn K cd37 "_law_due" = true)
    (q37 : PySem.W.keepIn K (.ref f37) = true)
    (a38 : PySem.W.nsIn K mainGlobals "_law_met" = some (some (.ref f38)))
    (l38 : K.lookup f38 = some ⟨oc38, od38, .func (PySem.W.fnOf "_law_met" "_law_met" (defArgs sMet) (defBody sMet) (defScope sMet) .none kV38 dc38 pm38 an38 cd38 ct38), sl38⟩)
    (k38 : PySem.W.codeIn K cd38 "_law_met" = true)
    (q38 : PySem.W.keepIn K (.ref f38) = true)
    (a39 : PySem.W.nsIn K mainGlobals "_law_spoilt" = some (some (.ref f39)))
    (l39 : K.lookup f39 = some ⟨oc39, od39, .func (PySem.W.fnOf "_law_spoilt" "_law_spoilt" (defArgs sSpoilt) (defBody sSpoilt) (defScope sSpoilt) .none kV39 dc39 pm39 an39 cd39 ct39), sl39⟩)
    (k39 : PySem.W.codeIn K cd39 "_law_spoilt" = true)
    (q39 : PySem.W.keepIn K (.ref f39) = true)
    (a40 : PySem.W.nsIn K mainGlobals "_law_other_way" = some (some (.ref f40)))
    (l40 : K.lookup f40 = some ⟨oc40, od40, .func (PySem.W.fnOf "_law_other_way" "_law_other_way" (defArgs sOther) (defBody sOther) (defScope sOther) .none kV40 dc40 pm40 an40 cd40 ct40), sl40⟩)
    (k40 : PySem.W.codeIn K cd40 "_law_other_way" = true)
    (q40 : PySem.W.keepIn K (.ref f40) = true)
    (a41 : PySem.W.nsIn K mainGlobals "_law_value_right" = some (some (.ref f41)))
    (l41 : K.lookup f41 = some ⟨oc41, od41, .func (PySem.W.fnOf "_law_value_right" "_law_value_right" (defArgs sVRight) (defBody sVRight) (defScope sVRight) .none kV41 dc41 pm41 an41 cd41 ct41), sl41⟩)
    (k41 : PySem.W.codeIn K cd41 "_law_value_right" = true)
    (q41 : PySem.W.keepIn K (.ref f41) = true)
    (a42 : PySem.W.nsIn K mainGlobals "_law_nested" = some (some (.ref f42)))
    (l42 : K.lookup f42 = some ⟨oc42, od42, .func (PySem.W.fnOf "_law_nested" "_law_nested" (defArgs sNested) (defBody sNested) (defScope sNested) .none kV42 dc42 pm42 an42 cd42 ct42), sl42⟩)
    (k42 : PySem.W.codeIn K cd42 "_law_nested" = true)
    (q42 : PySem.W.keepIn K (.ref f42) = true)
    (a43 : PySem.W.nsIn K mainGlobals "_law_deep_right" = some (some (.ref f43)))
    (l43 : K.lookup f43 = some ⟨oc43, od43, .func (PySem.W.fnOf "_law_deep_right" "_law_deep_right" (defArgs sDeep) (defBody sDeep) (defScope sDeep) .none kV43 dc43 pm43 an43 cd43 ct43), sl43⟩)
    (k43 : PySem.W.codeIn K cd43 "_law_deep_right" = true)
    (q43 : PySem.W.keepIn K (.ref f43) = true)
    (a44 : PySem.W.nsIn K mainGlobals "_law_refused" = some (some (.ref f44)))
    (l44 : K.lookup f44 = some ⟨oc44, od44, .func (PySem.W.fnOf "_law_refused" "_law_refused" (defArgs sRefused) (defBody sRefused) (defScope sRefused) .none kV44 dc44 pm44 an44 cd44 ct44), sl44⟩)
    (k44 : PySem.W.codeIn K cd44 "_law_refused" = true)
    (q44 : PySem.W.keepIn K (.ref f44) = true)
    (a45 : PySem.W.nsIn K mainGlobals "_law_odd_right" = some (some (.ref f45)))
    (l45 : K.lookup f45 = some ⟨oc45, od45, .func (PySem.W.fnOf "_law_odd_right" "_law_odd_right" (defArgs sOdd) (defBody sOdd) (defScope sOdd) .none kV45 dc45 pm45 an45 cd45 ct45), sl45⟩)
    (k45 : PySem.W.codeIn K cd45 "_law_odd_right" = true)
    (q45 : PySem.W.keepIn K (.ref f45) = true)
    (a46 : PySem.W.nsIn K mainGlobals "_law_written_right" = some (some (.ref f46)))
    (l46 : K.lookup f46 = some ⟨oc46, od46, .func (PySem.W.fnOf "_law_written_right" "_law_written_right" (defArgs sWritten) (defBody sWritten) (defScope sWritten) .none kV46 dc46 pm46 an46 cd46 ct46), sl46⟩)
    (k46 : PySem.W.codeIn K cd46 "_law_written_right" = true)
    (q46 : PySem.W.keepIn K (.ref f46) = true)
    (a47 : PySem.W.nsIn K mainGlobals "law" = some (some (.ref f47)))
    (l47 : K.lookup f47 = some ⟨oc47, od47, .func (PySem.W.fnOf "law" "law" (defArgs sLaw) (defBody sLaw) (defScope sLaw) .none kV47 dc47 pm47 an47 cd47 ct47), sl47⟩)
    (k47 : PySem.W.codeIn K cd47 "law" = true)
    (q47 : PySem.W.keepIn K (.ref f47) = true)
    (aC : PySem.W.nsIn K mainGlobals "Reading" = some (some (.ref C)))
    (ma0 : PySem.W.findIn K (.ref C) "__init__" = some (some (.ref m0)))
    (mi0 : PySem.W.isFn K (.ref m0) = true)
    (ml0 : K.lookup m0 = some ⟨uc0, uo0, .func (PySem.W.fnOf "__init__" "Reading.__init__" (defArgs (rdSt 0)) (defBody (rdSt 0)) (defScope (rdSt 0)) .none uV0 ud0 up0 ua0 ue0 ut0), us0⟩)
    (mk0 : PySem.W.codeIn K ue0 "Reading.__init__" = true)
    (mq0 : PySem.W.keepIn K (.ref m0) = true)
    (ma1 : PySem.W.findIn K (.ref C) "is_over" = some (some (.ref pO)))
    (mg1 : PySem.W.specialIn K (.ref pO) "__get__" = some (some (.builtin "property.__get__")))
    (mt1 : PySem.W.takesIn K (.ref pO) = some true)
    (mr1 : PySem.W.recIn K pO "property" = some (.ref m1 :: rest))
    (ml1 : K.lookup m1 = some ⟨uc1, uo1, .func (PySem.W.fnOf "is_over" "Reading.is_over" (defArgs (rdSt 1)) (defBody (rdSt 1)) (defScope (rdSt 1)) .none uV1 ud1 up1 ua1 ue1 ut1), us1⟩)
    (mk1 : PySem.W.codeIn K ue1 "Reading.is_over" = true)
    (mq1 : PySem.W.keepIn K (.ref m1) = true)
    (ma2 : PySem.W.findIn K (.ref C) "has" = some (some (.ref m2)))
    (mi2 : PySem.W.isFn K (.ref m2) = true)
    (ml2 : K.lookup m2 = some ⟨uc2, uo2, .func (PySem.W.fnOf "has" "Reading.has" (defArgs (rdSt 2)) (defBody (rdSt 2)) (defScope (rdSt 2)) .none uV2 ud2 up2 ua2 ue2 ut2), us2⟩)
    (mk2 : PySem.W.codeIn K ue2 "Reading.has" = true)
    (mq2 : PySem.W.keepIn K (.ref m2) = true)
    (ma3 : PySem.W.findIn K (.ref C) "take" = some (some (.ref m3)))
    (mi3 : PySem.W.isFn K (.ref m3) = true)
    (ml3 : K.lookup m3 = some ⟨uc3, uo3, .func (PySem.W.fnOf "take" "Reading.take" (defArgs (rdSt 3)) (defBody (rdSt 3)) (defScope (rdSt 3)) .none uV3 ud3 up3 ua3 ue3 ut3), us3⟩)
    (mk3 : PySem.W.codeIn K ue3 "Reading.take" = true)
    (mq3 : PySem.W.keepIn K (.ref m3) = true)
    (ma4 : PySem.W.findIn K (.ref C) "row_of" = some (some (.ref m4)))
    (mi4 : PySem.W.isFn K (.ref m4) = true)
    (ml4 : K.lookup m4 = some ⟨uc4, uo4, .func (PySem.W.fnOf "row_of" "Reading.row_of" (defArgs (rdSt 4)) (defBody (rdSt 4)) (defScope (rdSt 4)) .none uV4 ud4 up4 ua4 ue4 ut4), us4⟩)
    (mk4 : PySem.W.codeIn K ue4 "Reading.row_of" = true)
    (mq4 : PySem.W.keepIn K (.ref m4) = true)
    (ma5 : PySem.W.findIn K (.ref C) "value" = some (some (.ref m5)))
    (mi5 : PySem.W.isFn K (.ref m5) = true)
    (ml5 : K.lookup m5 = some ⟨uc5, uo5, .func (PySem.W.fnOf "value" "Reading.value" (defArgs (rdSt 5)) (defBody (rdSt 5)) (defScope (rdSt 5)) .none uV5 ud5 up5 ua5 ue5 ut5), us5⟩)
    (mk5 : PySem.W.codeIn K ue5 "Reading.value" = true)
    (mq5 : PySem.W.keepIn K (.ref m5) = true)
    (ma6 : PySem.W.findIn K (.ref C) "string" = some (some (.ref m6)))
    (mi6 : PySem.W.isFn K (.ref m6) = true)
    (ml6 : K.lookup m6 = some ⟨uc6, uo6, .func (PySem.W.fnOf "string" "Reading.string" (defArgs (rdSt 6)) (defBody (rdSt 6)) (defScope (rdSt 6)) .none uV6 ud6 up6 ua6 ue6 ut6), us6⟩)
    (mk6 : PySem.W.codeIn K ue6 "Reading.string" = true)
    (mq6 : PySem.W.keepIn K (.ref m6) = true)
    (ma7 : PySem.W.findIn K (.ref C) "members" = some (some (.ref m7)))
    (mi7 : PySem.W.isFn K (.ref m7) = true)
    (ml7 : K.lookup m7 = some ⟨uc7, uo7, .func (PySem.W.fnOf "members" "Reading.members" (defArgs (rdSt 7)) (defBody (rdSt 7)) (defScope (rdSt 7)) .none uV7 ud7 up7 ua7 ue7 ut7), us7⟩)
    (mk7 : PySem.W.codeIn K ue7 "Reading.members" = true)
    (mq7 : PySem.W.keepIn K (.ref m7) = true)
    (ma8 : PySem.W.findIn K (.ref C) "pairs" = some (some (.ref m8)))
    (mi8 : PySem.W.isFn K (.ref m8) = true)
    (ml8 : K.lookup m8 = some ⟨uc8, uo8, .func (PySem.W.fnOf "pairs" "Reading.pairs" (defArgs (rdSt 8)) (defBody (rdSt 8)) (defScope (rdSt 8)) .none uV8 ud8 up8 ua8 ue8 ut8), us8⟩)
    (mk8 : PySem.W.codeIn K ue8 "Reading.pairs" = true)
    (mq8 : PySem.W.keepIn K (.ref m8) = true)
    (ma9 : PySem.W.findIn K (.ref C) "whole" = some (some (.ref m9)))
    (mi9 : PySem.W.isFn K (.ref m9) = true)
    (ml9 : K.lookup m9 = some ⟨uc9, uo9, .func (PySem.W.fnOf "whole" "Reading.whole" (defArgs (rdSt 9)) (defBody (rdSt 9)) (defScope (rdSt 9)) .none uV9 ud9 up9 ua9 ue9 ut9), us9⟩)
    (mk9 : PySem.W.codeIn K ue9 "Reading.whole" = true)
    (mq9 : PySem.W.keepIn K (.ref m9) = true)
    (pg : PySem.W.plainGet K C Str.empty = true)
    (hd : PySem.W.hasDictIn K C = true)
    (po : PySem.W.plainOver K C = true)
    (sa : PySem.W.findIn K (.ref C) "__setattr__" = some (some (.builtin "object.__setattr__")))
    (mkC : PySem.W.makesIn K C = true)
    (kC : PySem.W.keepIn K (.ref C) = true)
    (nT : PySem.W.findIn K (.ref C) "own_text" = some none)
    (nA : PySem.W.findIn K (.ref C) "own_at" = some none)
    (z_isinstance : PySem.W.nsIn K mainGlobals "isinstance" = some none)
    (z_int : PySem.W.nsIn K mainGlobals "int" = some none)
    (z_bool : PySem.W.nsIn K mainGlobals "bool" = some none)
    (z_str : PySem.W.nsIn K mainGlobals "str" = some none)
    (z_tuple : PySem.W.nsIn K mainGlobals "tuple" = some none)
    (z_dict : PySem.W.nsIn K mainGlobals "dict" = some none)
    (z_list : PySem.W.nsIn K mainGlobals "list" = some none)
    (z_len : PySem.W.nsIn K mainGlobals "len" = some none)
    (z_all : PySem.W.nsIn K mainGlobals "all" = some none)
    (z_any : PySem.W.nsIn K mainGlobals "any" = some none)
    (z_sorted : PySem.W.nsIn K mainGlobals "sorted" = some none)
    (z_min : PySem.W.nsIn K mainGlobals "min" = some none)
    (z_max : PySem.W.nsIn K mainGlobals "max" = some none)
    (z_abs : PySem.W.nsIn K mainGlobals "abs" = some none)
    (z_range : PySem.W.nsIn K mainGlobals "range" = some none)
    (z_repr : PySem.W.nsIn K mainGlobals "repr" = some none)
    (z_enumerate : PySem.W.nsIn K mainGlobals "enumerate" = some none)
    (z_zip : PySem.W.nsIn K mainGlobals "zip" = some none)
    (z_sum : PySem.W.nsIn K mainGlobals "sum" = some none)
    (vMOSTTEXT : PySem.W.nsIn K mainGlobals "MOST_TEXT" = some (some (.int 4000 tMOSTTEXT)))
    (vMOSTKEY : PySem.W.nsIn K mainGlobals "MOST_KEY" = some (some (.int 6 tMOSTKEY)))
    (vMOSTNESTED : PySem.W.nsIn K mainGlobals "MOST_NESTED" = some (some (.int 30 tMOSTNESTED)))
    (vFARTHEST : PySem.W.nsIn K mainGlobals "FARTHEST" = some (some (.int (10 ^ 64) tFARTHEST)))
    (vSIGNS : PySem.W.nsIn K mainGlobals "SIGNS" = some (some (.str "abcdefghijklmnopqrstuvwxyz " tSIGNS)))
    (vDIGITS : PySem.W.nsIn K mainGlobals "DIGITS" = some (some (.str "0123456789" tDIGITS)))
    (vNONE : PySem.W.nsIn K mainGlobals "NONE" = some (some (.str "none" tNONE)))
    (vQUOTE : PySem.W.nsIn K mainGlobals "QUOTE" = some (some (.str "\"" tQUOTE)))
    (pC : PySem.W.nsIn K mainGlobals "ParseError" = some (some (.ref CP)))
    (pL : K.lookup CP = some (excClassObj nm q CP N bs [.ref GE, .type "ValueError", .type "Exception", .type "BaseException", .type "object"] true sn sub ab col dd x0 x1 x2 x3 x5 "ValueError.__new__"))
    (psa : PySem.W.findIn K (.ref CP) "__setattr__" = some (some (.builtin "object.__setattr__")))
    (pga : PySem.W.findIn K (.ref CP) "__getattribute__" = some (some (.builtin "BaseException.__getattribute__")))
    (pgg : PySem.W.findIn K (.ref CP) "__getattr__" = some none)
    (pno : PySem.W.findIn K (.ref CP) "spot" = some none)
    (piC : PySem.W.findIn K (.ref CP) "__init__" = some (some (.ref fI)))
    (ptC : PySem.W.typeIn K (.ref fI) = some (.type "function"))
    (pkC : PySem.W.keepIn K (.ref CP) = true)
    (pex : PySem.W.subIn K (.ref CP) (.type "BaseException") = some true)
    (pve : PySem.W.subIn K (.ref CP) (.type "ValueError") = some true)
    (pty : PySem.W.typeIn K (.ref CP) = some (.type "type"))
    (phd : PySem.W.hasDictIn K CP = true)
    (pis : PySem.W.isClsIn K CP = true)
    (psf : PySem.W.subIn K (.ref CP) (.ref CP) = some true)
    (pmro : PySem.W.mroIn K CP (.ref CP) = some true)
    (pop : PySem.W.nsIn K cStatics "thirdparty.any" = some none)
    (psn : PySem.W.nsIn K mainGlobals "super" = some none)
    (psup : PySem.W.ks_superIn K CP CP "__init__" = some (some (.builtin "ValueError.__init__")))
    (pts : (P.main.scope.names.lookup ("super" : Str)).isSome = false)
    (pl1 : K.lookup fI = some ⟨poc, pod, .func (PySem.W.ksFn "__init__" "ParseError.__init__" (defArgs sPI) (defBody sPI) (defScope sPI) .none pkV pdoc ppm pan (.ref pcda) pct cc), posl⟩)
    (pl2 : PySem.W.codeIn K (.ref pcda) "ParseError.__init__" = true)
    (pl3 : K.lookup pcda = some ⟨pccl, pcdd, .fields pvs, pccs⟩)
    (pl4 : pvs[2]? = some (.str pfile ptf))
    (pl5 : ((P.main.file : Str) == pfile) = true)
    (pl6 : K.lookup cc = some ⟨pcl, pcld, .cell (some (.ref CP)), pcsl⟩)
    (iC : PySem.W.nsIn K mainGlobals "InvalidOperation" = some (some (.ref CI)))
    (ixP : PySem.W.excIn K CI [.type "ValueError", .type "Exception", .type "BaseException", .type "object"] "ValueError.__new__" = true)
    (ikP : PySem.W.keepIn K (.ref CI) = true)
    (ibP : PySem.W.subIn K (.ref CI) (.type "BaseException") = some true)
    (itP : PySem.W.typeIn K (.ref CI) = some (.type "type"))
    (iis : PySem.W.isClsIn K CI = true)
    (isf : PySem.W.subIn K (.ref CI) (.ref CI) = some true) :
    ∃ fd : FuncData, (∀ (s : Shared) (v : Value), BindsTo s fd ⟨[v], []⟩ [("script", v)]) ∧ ∀ base : Heap, K.In base → base.Ns mainGlobals mg → base.NoDigits → FnG P w K mg base 107 fa fd ["script"] (spLaw K) := by
  have e := hfa.symm.trans (PySem.W.mg_of X G a47)
  cases e
  obtain ⟨b5, d5⟩ := df_mk (st := sIsWhole) (ps := ["value"]) X G (fun _ _ _ _ _ _ us hl => match us, hl with | [_], _ => rfl) a5 l5 k5 q5
  obtain ⟨b15, d15⟩ := df_mk (st := sShort) (ps := ["value"]) X G (fun _ _ _ _ _ _ us hl => match us, hl with | [_], _ => rfl) a15 l15 k15 q15
  obtain ⟨b16, d16⟩ := df_mk (st := sPlain) (ps := ["value", "left"]) X G (fun _ _ _ _ _ _ us hl => match us, hl with | [_, _], _ => rfl) a16 l16 k16 q16
  obtain ⟨b17, d17⟩ := df_mk (st := sTextIn) (ps := ["value"]) X G (fun _ _ _ _ _ _ us hl => match us, hl with | [_], _ => rfl) a17 l17 k17 q17
  obtain ⟨b18, d18⟩ := df_mk (st := sHas) (ps := ["value"]) X G (fun _ _ _ _ _ _ us hl => match us, hl with | [_], _ => rfl) a18 l18 k18 q18
  obtain ⟨b20, d20⟩ := df_mk (st := sIsPlain) (ps := ["value"]) X G (fun _ _ _ _ _ _ us hl => match us, hl with | [_], _ => rfl) a20 l20 k20 q20
  obtain ⟨b21, d21⟩ := df_mk (st := sVText) (ps := ["value"]) X G (fun _ _ _ _ _ _ us hl => match us, hl with | [_], _ => rfl) a21 l21 k21 q21
  obtain ⟨b22, d22⟩ := df_mk (st := sReadV) (ps := ["value"]) X G (fun _ _ _ _ _ _ us hl => match us, hl with | [_], _ => rfl) a22 l22 k22 q22
  obtain ⟨b24, d24⟩ := df_mk (st := sDice) (ps := ["script", "spot"]) X G (fun _ _ _ _ _ _ us hl => match us, hl with | [_, _], _ => rfl) a24 l24 k24 q24
  obtain ⟨b25, d25⟩ := df_mk (st := sRoll) (ps := ["dice", "total"]) X G (fun _ _ _ _ _ _ us hl => match us, hl with | [_, _], _ => rfl) a25 l25 k25 q25
  obtain ⟨b26, d26⟩ := df_mk (st := sPick) (ps := ["dice", "items"]) X G (fun _ _ _ _ _ _ us hl => match us, hl with | [_, _], _ => rfl) a26 l26 k26 q26
  obtain ⟨b27, d27⟩ := df_mk (st := sShaken) (ps := ["dice", "items"]) X G (fun _ _ _ _ _ _ us hl => match us, hl with | [_, _], _ => rfl) a27 l27 k27 q27
  obtain ⟨b28, d28⟩ := df_mk (st := sPlainText) (ps := ["value"]) X G (fun _ _ _ _ _ _ us hl => match us, hl with | [_], _ => rfl) a28 l28 k28 q28
  obtain ⟨b29, d29⟩ := df_mk (st := sLetters) (ps := ["dice", "many"]) X G (fun _ _ _ _ _ _ us hl => match us, hl with | [_, _], _ => rfl) a29 l29 k29 q29
  obtain ⟨b30, d30⟩ := df_mk (st := sLeaf) (ps := ["dice"]) X G (fun _ _ _ _ _ _ us hl => match us, hl with | [_], _ => rfl) a30 l30 k30 q30
  obtain ⟨b31, d31⟩ := df_mk (st := sGreat) (ps := ["dice", "many"]) X G (fun _ _ _ _ _ _ us hl => match us, hl with | [_, _], _ => rfl) a31 l31 k31 q31
  obtain ⟨b32, d32⟩ := df_mk (st := sKey) (ps := ["dice", "deep"]) X G (fun _ _ _ _ _ _ us hl => match us, hl with | [_, _], _ => rfl) a32 l32 k32 q32
  obtain ⟨b33, d33⟩ := df_mk (st := sValue) (ps := ["dice", "deep"]) X G (fun _ _ _ _ _ _ us hl => match us, hl with | [_, _], _ => rfl) a33 l33 k33 q33
  obtain ⟨b34, d34⟩ := df_mk (st := sWord) (ps := ["text", "at"]) X G (fun _ _ _ _ _ _ us hl => match us, hl with | [_, _], _ => rfl) a34 l34 k34 q34
  obtain ⟨b35, d35⟩ := df_mk (st := sLRead) (ps := ["text", "at", "left"]) X G (fun _ _ _ _ _ _ us hl => match us, hl with | [_, _, _], _ => rfl) a35 l35 k35 q35
  obtain ⟨b36, d36⟩ := df_mk (st := sLHas) (ps := ["value"]) X G (fun _ _ _ _ _ _ us hl => match us, hl with | [_], _ => rfl) a36 l36 k36 q36
  obtain ⟨b37, d37⟩ := df_mk (st := sDue) (ps := ["text"]) X G (fun _ _ _ _ _ _ us hl => match us, hl with | [_], _ => rfl) a37 l37 k37 q37
  obtain ⟨b38, d38⟩ := df_mk (st := sMet) (ps := ["text"]) X G (fun _ _ _ _ _ _ us hl => match us, hl with | [_], _ => rfl) a38 l38 k38 q38
  obtain ⟨b39, d39⟩ := df_mk (st := sSpoilt) (ps := ["dice", "text"]) X G (fun _ _ _ _ _ _ us hl => match us, hl with | [_, _], _ => rfl) a39 l39 k39 q39
  obtain ⟨b40, d40⟩ := df_mk (st := sOther) (ps := ["dice", "value"]) X G (fun _ _ _ _ _ _ us hl => match us, hl with | [_, _], _ => rfl) a40 l40 k40 q40
  obtain ⟨b41, d41⟩ := df_mk (st := sVRight) (ps := ["dice", "value"]) X G (fun _ _ _ _ _ _ us hl => match us, hl with | [_, _], _ => rfl) a41 l41 k41 q41
  obtain ⟨b42, d42⟩ := df_mk (st := sNested) (ps := ["value", "deep", "is_dict"]) X G (fun _ _ _ _ _ _ us hl => match us, hl with | [_, _, _], _ => rfl) a42 l42 k42 q42
  obtain ⟨b43, d43⟩ := df_mk (st := sDeep) (ps := ["dice"]) X G (fun _ _ _ _ _ _ us hl => match us, hl with | [_], _ => rfl) a43 l43 k43 q43
  obtain ⟨b44, d44⟩ := df_mk (st := sRefused) (ps := ["value"]) X G (fun _ _ _ _ _ _ us hl => match us, hl with | [_], _ => rfl) a44 l44 k44 q44
  obtain ⟨b45, d45⟩ := df_mk (st := sOdd) (ps := ["dice"]) X G (fun _ _ _ _ _ _ us hl => match us, hl with | [_], _ => rfl) a45 l45 k45 q45
  obtain ⟨b46, d46⟩ := df_mk (st := sWritten) (ps := []) X G (fun _ _ _ _ _ _ us hl => match us, hl with | [], _ => rfl) a46 l46 k46 q46
  obtain ⟨b47, d47⟩ := df_mk (st := sLaw) (ps := ["script"]) X G (fun _ _ _ _ _ _ us hl => match us, hl with | [_], _ => rfl) a47 l47 k47 q47
  have e0 := fun_mk (st := rdSt 0) ml0 mk0 mq0
  have eb0 := e0.binds (ps := ["self", "text"]) fun _ _ _ _ _ _ us hl => match us, hl with | [_, _], _ => rfl
  have e1 := fun_mk (st := rdSt 1) ml1 mk1 mq1
  have eb1 := e1.binds (ps := ["self"]) fun _ _ _ _ _ _ us hl => match us, hl with | [_], _ => rfl
  obtain ⟨c2, e2⟩ := mt_mk (st := rdSt 2) (ps := ["self", "word"]) (fun _ _ _ _ _ _ us hl => match us, hl with | [_, _], _ => rfl) ma2 mi2 ml2 mk2 mq2
  obtain ⟨c3, e3⟩ := mt_mk (st := rdSt 3) (ps := ["self", "word"]) (fun _ _ _ _ _ _ us hl => match us, hl with | [_, _], _ => rfl) ma3 mi3 ml3 mk3 mq3
  obtain ⟨c4, e4⟩ := mt_mk (st := rdSt 4) (ps := ["self", "signs"]) (fun _ _ _ _ _ _ us hl => match us, hl with | [_, _], _ => rfl) ma4 mi4 ml4 mk4 mq4
  obtain ⟨c5, e5⟩ := mt_mk (st := rdSt 5) (ps := ["self", "left"]) (fun _ _ _ _ _ _ us hl => match us, hl with | [_, _], _ => rfl) ma5 mi5 ml5 mk5 mq5
  obtain ⟨c6, e6⟩ := mt_mk (st := rdSt 6) (ps := ["self"]) (fun _ _ _ _ _ _ us hl => match us, hl with | [_], _ => rfl) ma6 mi6 ml6 mk6 mq6
  obtain ⟨c7, e7⟩ := mt_mk (st := rdSt 7) (ps := ["self", "left"]) (fun _ _ _ _ _ _ us hl => match us, hl with | [_, _], _ => rfl) ma7 mi7 ml7 mk7 mq7
  obtain ⟨c8, e8⟩ := mt_mk (st := rdSt 8) (ps := ["self", "left"]) (fun _ _ _ _ _ _ us hl => match us, hl with | [_, _], _ => rfl) ma8 mi8 ml8 mk8 mq8
  obtain ⟨c9, e9⟩ := mt_mk (st := rdSt 9) (ps := ["self"]) (fun _ _ _ _ _ _ us hl => match us, hl with | [_], _ => rfl) ma9 mi9 ml9 mk9 mq9
  have B : Bn mg := ⟨PySem.W.mg_none_of X G z_isinstance, PySem.W.mg_none_of X G z_int, PySem.W.mg_none_of X G z_bool, PySem.W.mg_none_of X G z_str, PySem.W.mg_none_of X G z_tuple, PySem.W.mg_none_of X G z_dict, PySem.W.mg_none_of X G z_list, PySem.W.mg_none_of X G z_len, PySem.W.mg_none_of X G z_all, PySem.W.mg_none_of X G z_any, PySem.W.mg_none_of X G z_sorted, PySem.W.mg_none_of X G z_min, PySem.W.mg_none_of X G z_max, PySem.W.mg_none_of X G z_abs, PySem.W.mg_none_of X G z_range, PySem.W.mg_none_of X G z_repr, PySem.W.mg_none_of X G z_enumerate, PySem.W.mg_none_of X G z_zip, PySem.W.mg_none_of X G z_sum⟩
  have R : Rc K mg C := ⟨⟨pg, hd, po, sa⟩, nT, nA, PySem.W.mg_of X G aC⟩
  have T : PTxt P K mg CP fI :=
    { gC := PySem.W.mg_of X G pC, cls := ⟨nm, q, N, bs, _, sn, sub, ab, col, dd, x0, x1, x2, x3, x5, pL, by first | rfl | decide +kernel⟩, sa := psa, ga := pga, gg := pgg, noN := pno, iC := piC, tC := ptC, kC := pkC, exC := pex, veC := pve, tyC := pty, hdC := phd, te := exm_self pex pis pty psf,
      mro := pmro, op := pop, sup := psup, msup := PySem.W.mg_none_of X G psn, tsup := pts,
      fn := ⟨_, _, _, _, _, _, _, _, _, _, _, _, _, _, _, _, _, _, _, pl1, pl2, pl3, pl4, pl5, pl6⟩ }
  have O : OTxt K mg CI := ⟨PySem.W.mg_of X G iC, ixP, ikP, ibP, itP, exm_self ibP iis itP isf⟩
  refine ⟨b47, fun s v => ?_, fun base hK hN hD => all_law B R T O hD d5 d15 d16 d17 d18 d20 d21 d22 d24 d25 d26 d27 d28 d29 d30 d31 d32 d33 d34 d35 d36 d37 d38 d39 d40 d41 d42 d43 d44 d45 d46 d47 e0 eb0 ⟨mkC, ma0, mi0, kC⟩ e1 eb1 ⟨ma1, mg1, mt1, _, mr1⟩ e2 e3 e4 e5 e6 e7 e8 e9 ⟨_, PySem.W.mg_of X G vMOSTTEXT, ⟨_, rfl⟩⟩ ⟨_, PySem.W.mg_of X G vMOSTKEY, ⟨_, rfl⟩⟩ ⟨_, PySem.W.mg_of X G vMOSTNESTED, ⟨_, rfl⟩⟩ ⟨_, PySem.W.mg_of X G vFARTHEST, ⟨_, rfl⟩⟩ ⟨_, PySem.W.mg_of X G vSIGNS, ⟨_, rfl⟩⟩ ⟨_, PySem.W.mg_of X G vDIGITS, ⟨_, rfl⟩⟩ ⟨_, PySem.W.mg_of X G vNONE, ⟨_, rfl⟩⟩ ⟨_, PySem.W.mg_of X G vQUOTE, ⟨_, rfl⟩⟩⟩
  obtain ⟨oc, od, kV, doc, pm, an, cdv, ct, osl, rfl, -, -⟩ := d47.F.ex
  exact .of_eq rfl
section
variable {P : Program} {w : World} {K : PySem.W.Frag} {mg mb : Str → Option Value} {a : Addr} {s : Shared} {vs : List Value} {ns : List Int} {H : Hp}
/-- the script's list -/
abbrev scr (vs : List Value) : Obj := { cls := .type "list", data := .seq vs.toArray }
/-- H tells of nothing but the script, and of that nothing but what it holds; the written part does not hold what H tells of -/
structure Told1 (K : PySem.W.Frag) (h : Heap) (H : Hp) (a : Addr) (vs : List Value) (ns : List Int) : Prop where
  obj : h.get? a = some (scr vs)
  one : ∀ b, b ≠ a → H b = none
  at_ : H a = none ∨ (H a = some (.frz (scr vs) (.lst (ns.map V.int))) ∧ K.lookup a = none)
theorem Told1.free (T : Told1 K s.heap H a vs ns) {b : Addr} {o : Obj} (e : s.heap.get? b = some o) (n : o ≠ scr vs) : H b = none :=
  T.one b fun q => n (by subst q; exact Option.some.inj (e.symm.trans T.obj))
theorem Told1.kept (T : Told1 K s.heap H a vs ns) {b : Addr} {o : Obj} (e : s.heap.get? b = some o) (n : o ≠ scr vs) : (hidT s.heap H).get? b = some o := hidT_get e (T.free e n)
theorem Told1.nsp (T : Told1 K s.heap H a vs ns) {b : Addr} {m : Str → Option Value} (N : s.heap.Ns b m) : (hidT s.heap H).Ns b m := by
  obtain ⟨o, es, ep, e, d, r⟩ := N
  refine ⟨o, es, ep, T.kept e fun q => ?_, d, r⟩
  subst q
  exact Data.noConfusion (show Data.seq vs.toArray _ = Data.dict es ep from d)
theorem Told1.kin (T : Told1 K s.heap H a vs ns) (KX : K.In s.heap) : K.In (hidT s.heap H) := fun b o e => by
  refine hidT_get (KX b o e) ?_
  by_cases q : b = a
  · subst q
    rcases T.at_ with z | ⟨_, z⟩
    · exact z
    · rw [z] at e
      cases e
  · exact T.one b q
theorem Told1.env (T : Told1 K s.heap H a vs ns) (KX : K.In s.heap) (hm : s.heap.Ns mainGlobals mg) (hb : s.heap.Ns builtinsNs mb) (hbb : ∀ x : Str, x ≠ "__name__" → mb x = bootBuiltins x) (hl : s.heap.NoLimit) (hg : s.gens = #[])
    (hok : HOk P w H s.heap) : Env0 P w K mg (hidT s.heap H) callerA [] s H where
  frames := rfl
  mod := ⟨T.kin KX, T.nsp hm, ⟨mb, T.nsp hb, hbb⟩, let ⟨mc, h1, h2⟩ := hl; ⟨mc, T.nsp h1, h2⟩⟩
  bs := fun _ _ e => of_hidT e
  bsz := Nat.le_of_eq (hidT_size _ _)
  funs := trivial
  frf := fun _ q => nomatch q
  hok := hok
  bare := .of_eq hg
/-- behind the call: what was there is there -/
theorem Told1.back (T : Told1 K s.heap H a vs ns) (hok : HOk P w H s.heap) {r : Result} {s' : Shared} (c : CR CX0 [] P w H s (fun v _ => v = .bl true) (fun _ _ _ => False) r s') :
    r = .ok (.ret (.bool true)) ∧ OldK s.heap s'.heap ∧ s'.os = s.os ∧ AllBare s'.gens := by
  match r, c with
  | .error _, c => exact False.elim c
  | .ok .next, c => exact False.elim c
  | .ok .brk, c => exact False.elim c
  | .ok .cont, c => exact False.elim c
  | .ok (.ret u), ⟨v, H2, os, bare, un, hok2, rel, (q : v = .bl true)⟩ =>
    subst q
    have rel' : u = Value.bool true := rel
    subst rel'
    refine ⟨rfl, OldK.of_keep fun b o e => ?_, os, bare⟩
    by_cases q : H b = none
    · exact un.keep b o e q (fun z => nomatch z) (by simp)
    · have qa : b = a := Classical.byContradiction fun z => q (T.one b z)
      subst qa
      rcases T.at_ with z | ⟨z, _⟩
      · exact absurd z q
      · have f2 := (hok2 b _ (un.frzs b _ _ z)).1
        rw [T.obj] at e
        cases e
        exact f2
/-- the script as the written part or H tells it -/
theorem told_of (KX : K.In s.heap) (ha : s.heap.get? a = some (scr vs)) (hi : IntsAre vs ns) (hl : ns.length ≤ sizeLine) : ∃ H : Hp, Told1 K s.heap H a vs ns ∧ SqL K H a (ns.map V.int) ∧ HOk P w H s.heap := by
  have rv := vals_ints hi
  match hk : K.lookup a with
  | some o =>
    have e : some (scr vs) = some o := ha.symm.trans (KX a o hk)
    cases e
    exact ⟨fun _ => none, ⟨ha, fun _ _ => rfl, .inl rfl⟩, .inr ⟨_, vs.toArray, _, hk, rfl, rfl, rfl, by rw [List.size_toArray, hi.length]; exact hl, by simpa using rv⟩, fun b u z => nomatch (show (none : Option HO) = some u from z)⟩
  | none =>
    refine ⟨upd (fun _ => none) a (.frz (scr vs) (.lst (ns.map V.int))), ⟨ha, fun b q => upd_ne q, .inr ⟨upd_same, hk⟩⟩, .inl (.inr ⟨scr vs, upd_same⟩), fun b u z => ?_⟩
    by_cases q : b = a
    · subst q
      rw [upd_same] at z
      cases z
      exact ⟨ha, by rw [List.length_map]; exact hl, vs, _, rv, ha⟩
    · rw [upd_ne q] at z
      cases z
end
theorem walkG {l : PySem.W.OpenLaw} {q : Program} {loose : List Str} {XP : (Str → Option Value) → Heap → Prop} {YP : World → Heap → Prop} {d : DefRec} {K : Params → PySem.W.Frag}
    (hn : l.most = some 63) (hdf : d.params.defaults = [])
    (hY : ∀ (w : World) (h : Heap), YP w h → (K w.params).In h)
    (F : ∀ (w : World) (mg : Str → Option Value) (fa : Addr) (h : Heap), (K w.params).In h → h.Ns mainGlobals mg → mg d.name = some (.ref fa) →
      ∃ fd : FuncData, (∀ (s : Shared) (u : Value), BindsTo s fd ⟨[u], []⟩ [("script", u)]) ∧
        ∀ base : Heap, (K w.params).In base → base.Ns mainGlobals mg → base.NoDigits → FnG l.prog w (K w.params) mg base 107 fa fd ["script"] (spLaw (K w.params))) :
    PySem.W.WalkO q loose XP YP l.row.toRowW d [] (fun f vs => PySem.call f vs) := by
  refine Att.attach_call hn hdf fun w s₀ s mg mb fa o pm cd doc a vs ns G Y ho hd hcd hmg hobj hints hlen hg => ?_
  have KX := hY w _ Y
  obtain ⟨fd, hb, hF⟩ := F w mg fa _ KX G.T.g hmg
  obtain ⟨H, T, hS, hok⟩ := told_of (P := l.prog) (w := w) KX hobj hints (Nat.le_trans hlen (by decide))
  have hD : (hidT s.heap H).NoDigits := let ⟨mc, h1, h2⟩ := G.T.nodigits; ⟨mc, T.nsp h1, h2⟩
  exact codeAny_mono ((hF _ (T.kin KX) (T.nsp G.T.g) hD).run callerA [] s H ⟨[.ref a], []⟩ [.ref a] [.ref a] (fun v _ => v = .bl true) (fun _ _ _ => False) rfl ⟨rfl, by decide, by decide⟩ (T.env KX G.T.g G.T.b G.T.builtins G.T.nolimit hg hok) (hb s (.ref a)) (.cons rfl .nil) ⟨a, ns, rfl, hS, hlen, fun _ => rfl⟩)
    fun r s' c => T.back hok c
end K15
end

set_option Elab.async false
set_option maxHeartbeats 0
set_option maxRecDepth 100000
open PySem PySem.W PyProof.Rows
open_top head15 for PySem.Challenge.rw_gatekinds_k15_whole_texts_by_an_own_read

set_option Elab.async false
set_option linter.all false
set_option maxRecDepth 100000
open PySem PySem.W PyProof.Rows
set_option maxRecDepth 100000 in
set_option maxHeartbeats 0 in
theorem PySem.Challenge.cw_gatekinds_k15_whole_texts_by_an_own_read_holds : PySem.Challenge.rw_gatekinds_k15_whole_texts_by_an_own_read.Holds := by
  refine head15 ?_
  k_fill
  refine K15.walkG (l := PySem.Challenge.rw_gatekinds_k15_whole_texts_by_an_own_read) rfl rfl (fun w h Y => PySem.W.kIn_of Y) ?F
  case F =>
    intro w mg fa h KX G hmg
    refine' K15.all_mk KX G hmg ?a5 ?l5 ?k5 ?q5 ?a15 ?l15 ?k15 ?q15 ?a16 ?l16 ?k16 ?q16 ?a17 ?l17 ?k17 ?q17 ?a18 ?l18 ?k18 ?q18 ?a20 ?l20 ?k20 ?q20 ?a21 ?l21 ?k21 ?q21 ?a22 ?l22 ?k22 ?q22 ?a24 ?l24 ?k24 ?q24 ?a25 ?l25 ?k25 ?q25 ?a26 ?l26 ?k26 ?q26 ?a27 ?l27 ?k27 ?q27 ?a28 ?l28 ?k28 ?q28 ?a29 ?l29 ?k29 ?q29 ?a30 ?l30 ?k30 ?q30 ?a31 ?l31 ?k31 ?q31 ?a32 ?l32 ?k32 ?q32 ?a33 ?l33 ?k33 ?q33 ?a34 ?l34 ?k34 ?q34 ?a35 ?l35 ?k35 ?q35 ?a36 ?l36 ?k36 ?q36 ?a37 ?l37 ?k37 ?q37 ?a38 ?l38 ?k38 ?q38 ?a39 ?l39 ?k39 ?q39 ?a40 ?l40 ?k40 ?q40 ?a41 ?l41 ?k41 ?q41 ?a42 ?l42 ?k42 ?q42 ?a43 ?l43 ?k43 ?q43 ?a44 ?l44 ?k44 ?q44 ?a45 ?l45 ?k45 ?q45 ?a46 ?l46 ?k46 ?q46 ?a47 ?l47 ?k47 ?q47 ?aC ?ma0 ?mi0 ?ml0 ?mk0 ?mq0 ?ma1 ?mg1 ?mt1 ?mr1 ?ml1 ?mk1 ?mq1 ?ma2 ?mi2 ?ml2 ?mk2 ?mq2 ?ma3 ?mi3 ?ml3 ?mk3 ?mq3 ?ma4 ?mi4 ?ml4 ?mk4 ?mq4 ?ma5 ?mi5 ?ml5 ?mk5 ?mq5 ?ma6 ?mi6 ?ml6 ?mk6 ?mq6 ?ma7 ?mi7 ?ml7 ?mk7 ?mq7 ?ma8 ?mi8 ?ml8 ?mk8 ?mq8 ?ma9 ?mi9 ?ml9 ?mk9 ?mq9 ?pg ?hd ?po ?sa ?mkC ?kC ?nT ?nA ?z_isinstance ?z_int ?z_bool ?z_str ?z_tuple ?z_dict ?z_list ?z_len ?z_all ?z_any ?z_sorted ?z_min ?z_max ?z_abs ?z_range ?z_repr ?z_enumerate ?z_zip ?z_sum ?vMOSTTEXT ?vMOSTKEY ?vMOSTNESTED ?vFARTHEST ?vSIGNS ?vDIGITS ?vNONE ?vQUOTE ?pC ?pL ?psa ?pga ?pgg ?pno ?piC ?ptC ?pkC ?pex ?pve ?pty ?phd ?pis ?psf ?pmro ?pop ?psn ?psup ?pts ?pl1 ?pl2 ?pl3 ?pl4 ?pl5 ?pl6 ?iC ?ixP ?ikP ?ibP ?itP ?iis ?isf
    (case a5 => k_is)
    (case l5 => k_is)
    (case k5 => k_is)
    (case q5 => k_is)
    (case a15 => k_is)
    (case l15 => k_is)
    (case k15 => k_is)
    (case q15 => k_is)
    (case a16 => k_is)
    (case l16 => k_is)
    (case k16 => k_is)
    (case q16 => k_is)
    (case a17 => k_is)
    (case l17 => k_is)
    (case k17 => k_is)
    (case q17 => k_is)
    (case a18 => k_is)
    (case l18 => k_is)
    (case k18 => k_is)
    (case q18 => k_is)
    (case a20 => k_is)
    (case l20 => k_is)
    (case k20 => k_is)
    (case q20 => k_is)
    (case a21 => k_is)
    (case l21 => k_is)
    (case k21 => k_is)
    (case q21 => k_is)
    (case a22 => k_is)
    (case l22 => k_is)
    (case k22 => k_is)
    (case q22 => k_is)
    (case a24 => k_is)
    (case l24 => k_is)
    (case k24 => k_is)
    (case q24 => k_is)
    (case a25 => k_is)
    (case l25 => k_is)
    (case k25 => k_is)
    (case q25 => k_is)
    (case a26 => k_is)
    (case l26 => k_is)
    (case k26 => k_is)
    (case q26 => k_is)
    (case a27 => k_is)
    (case l27 => k_is)
    (case k27 => k_is)
    (case q27 => k_is)
    (case a28 => k_is)
    (case l28 => k_is)
    (case k28 => k_is)
    (case q28 => k_is)
    (case a29 => k_is)
    (case l29 => k_is)
    (case k29 => k_is)
    (case q29 => k_is)
    (case a30 => k_is)
    (case l30 => k_is)
    (case k30 => k_is)
    (case q30 => k_is)
    (case a31 => k_is)
    (case l31 => k_is)
    (case k31 => k_is)
    (case q31 => k_is)
    (case a32 => k_is)
    (case l32 => k_is)
    (case k32 => k_is)
    (case q32 => k_is)
    (case a33 => k_is)
    (case l33 => k_is)
    (case k33 => k_is)
    (case q33 => k_is)
    (case a34 => k_is)
    (case l34 => k_is)
    (case k34 => k_is)
    (case q34 => k_is)
    (case a35 => k_is)
    (case l35 => k_is)
    (case k35 => k_is)
    (case q35 => k_is)
    (case a36 => k_is)
    (case l36 => k_is)
    (case k36 => k_is)
    (case q36 => k_is)
    (case a37 => k_is)
    (case l37 => k_is)
    (case k37 => k_is)
    (case q37 => k_is)
    (case a38 => k_is)
    (case l38 => k_is)
    (case k38 => k_is)
    (case q38 => k_is)
    (case a39 => k_is)
    (case l39 => k_is)
    (case k39 => k_is)
    (case q39 => k_is)
    (case a40 => k_is)
    (case l40 => k_is)
    (case k40 => k_is)
    (case q40 => k_is)
    (case a41 => k_is)
    (case l41 => k_is)
    (case k41 => k_is)
    (case q41 => k_is)
    (case a42 => k_is)
    (case l42 => k_is)
    (case k42 => k_is)
    (case q42 => k_is)
    (case a43 => k_is)
    (case l43 => k_is)
    (case k43 => k_is)
    (case q43 => k_is)
    (case a44 => k_is)
    (case l44 => k_is)
    (case k44 => k_is)
    (case q44 => k_is)
    (case a45 => k_is)
    (case l45 => k_is)
    (case k45 => k_is)
    (case q45 => k_is)
    (case a46 => k_is)
    (case l46 => k_is)
    (case k46 => k_is)
    (case q46 => k_is)
    (case a47 => k_is)
    (case l47 => k_is)
    (case k47 => k_is)
    (case q47 => k_is)
    (case aC => k_is)
    (case ma0 => k_is)
    (case mi0 => k_is)
    (case ml0 => k_is)
    (case mk0 => k_is)
    (case mq0 => k_is)
    (case ma1 => k_is)
    (case mg1 => k_is)
    (case mt1 => k_is)
    (case mr1 => k_is)
    (case ml1 => k_is)
    (case mk1 => k_is)
    (case mq1 => k_is)
    (case ma2 => k_is)
    (case mi2 => k_is)
    (case ml2 => k_is)
    (case mk2 => k_is)
    (case mq2 => k_is)
    (case ma3 => k_is)
    (case mi3 => k_is)
    (case ml3 => k_is)
    (case mk3 => k_is)
    (case mq3 => k_is)
    (case ma4 => k_is)
    (case mi4 => k_is)
    (case ml4 => k_is)
    (case mk4 => k_is)
    (case mq4 => k_is)
    (case ma5 => k_is)
    (case mi5 => k_is)
    (case ml5 => k_is)
    (case mk5 => k_is)
    (case mq5 => k_is)
    (case ma6 => k_is)
    (case mi6 => k_is)
    (case ml6 => k_is)
    (case mk6 => k_is)
    (case mq6 => k_is)
    (case ma7 => k_is)
    (case mi7 => k_is)
    (case ml7 => k_is)
    (case mk7 => k_is)
    (case mq7 => k_is)
    (case ma8 => k_is)
    (case mi8 => k_is)
    (case ml8 => k_is)
    (case mk8 => k_is)
    (case mq8 => k_is)
    (case ma9 => k_is)
    (case mi9 => k_is)
    (case ml9 => k_is)
    (case mk9 => k_is)
    (case mq9 => k_is)
    (case pg => k_is)
    (case hd => k_is)
    (case po => k_is)
    (case sa => k_is)
    (case mkC => k_is)
    (case kC => k_is)
    (case nT => k_is)
    (case nA => k_is)
    (case z_isinstance => k_is)
    (case z_int => k_is)
    (case z_bool => k_is)
    (case z_str => k_is)
    (case z_tuple => k_is)
    (case z_dict => k_is)
    (case z_list => k_is)
    (case z_len => k_is)
    (case z_all => k_is)
    (case z_any => k_is)
    (case z_sorted => k_is)
    (case z_min => k_is)
    (case z_max => k_is)
    (case z_abs => k_is)
    (case z_range => k_is)
    (case z_repr => k_is)
    (case z_enumerate => k_is)
    (case z_zip => k_is)
    (case z_sum => k_is)
    (case vMOSTTEXT => k_is)
    (case vMOSTKEY => k_is)
    (case vMOSTNESTED => k_is)
    (case vFARTHEST => k_is)
    (case vSIGNS => k_is)
    (case vDIGITS => k_is)
    (case vNONE => k_is)
    (case vQUOTE => k_is)
    (case pC => k_is)
    (case pL => k_is)
    (case psa => first | k_is | rfl)
    (case pga => first | k_is | rfl)
    (case pgg => first | k_is | rfl)
    (case pno => first | k_is | rfl)
    (case piC => first | k_is | rfl)
    (case ptC => first | k_is | rfl)
    (case pkC => first | k_is | rfl)
    (case pex => first | k_is | rfl)
    (case pve => first | k_is | rfl)
    (case pty => first | k_is | rfl)
    (case phd => first | k_is | rfl)
    (case pis => first | k_is | rfl)
    (case psf => first | k_is | rfl)
    (case pmro => first | k_is | rfl)
    (case pop => first | k_is | rfl)
    (case psn => first | k_is | rfl)
    (case psup => first | k_exc | k_is | rfl | decide +kernel)
    (case pts => first | rfl | decide +kernel)
    (case pl1 => k_is)
    (case pl2 => k_is)
    (case pl3 => k_is)
    (case pl4 => rfl)
    (case pl5 => first | rfl | decide +kernel)
    (case pl6 => k_is)
    (case iC => k_is)
    (case ixP => first | k_exc | k_is | rfl | decide +kernel)
    (case ikP => first | k_is | rfl)
    (case ibP => first | k_is | rfl)
    (case itP => first | k_is | rfl)
    (case iis => first | k_is | rfl)
    (case isf => first | k_is | rfl)
