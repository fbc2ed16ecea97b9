import PyProof.Rows.All
import Wide.All
import OpenK.AllK
import Wide.FinOn
import PyProof.EqAt
import PyProof.EqKinds
import PyProof.TupleCall
import Open.SpecLaws
import KE.OsGo
import HandS.ForMost
import HandS.ForSpec
import HandS.SetKeys
import HandS.Evl
import HandS.Iter
import KE.KDictKeyed
import PySem.Challenge.RW_rugborders_s07_sizes
set_option Elab.async false
set_option linter.all false
set_option maxRecDepth 100000
set_option maxHeartbeats 4000000
/-! Plain law, part 0: bytes and whole numbers, rows of a text, charts. -/
namespace Rug
open Wqbbch

/-- a byte as a whole number -/
def bi (c : UInt8) : Int := (c.toNat : Int)
theorem bi_nonneg (c : UInt8) : 0 ≤ bi c := Int.natCast_nonneg _
theorem bi_le (c : UInt8) : bi c ≤ 255 := by
  have := c.toNat_lt
  unfold bi
  omega
theorem bi_inj {a b : UInt8} (h : bi a = bi b) : a = b := by
  unfold bi at h
  exact UInt8.toNat_inj.mp (by omega)
theorem bi_ten (c : UInt8) : (bi c = 10) ↔ c = 10 := ⟨fun h => bi_inj (b := 10) (by rw [h]; rfl), fun h => by subst h; rfl⟩
/-- what is handed in are bytes -/
theorem text_bi : ∀ (t : List Int), (∀ x ∈ t, 0 ≤ x ∧ x ≤ 255) → (RugDNeutral.text t).map bi = t
  | [], _ => rfl
  | x :: r, h => by
    have ih := text_bi r (fun y hy => h y (List.mem_cons_of_mem _ hy))
    obtain ⟨h0, h1⟩ := h x List.mem_cons_self
    show bi (UInt8.ofNat x.toNat) :: (RugDNeutral.text r).map bi = x :: r
    rw [ih]
    congr 1
    unfold bi
    rw [UInt8.toNat_ofNat']
    omega
theorem text_len (t : List Int) : (RugDNeutral.text t).length = t.length := by
  unfold RugDNeutral.text RugDNeutral.nats
  rw [List.length_map, List.length_map]
/-- some bytes are what is handed in -/
theorem text_of (t : List Int) (h : ∀ x ∈ t, 0 ≤ x ∧ x ≤ 255) : ∃ b : Bytes, t = b.map bi ∧ RugDNeutral.text t = b := ⟨_, (text_bi t h).symm, rfl⟩

/-! ### rows -/
def rowsGo (done : List Bytes) (w : Bytes) : Bytes → List Bytes
  | [] => done ++ [w]
  | x :: r => if x = 10 then rowsGo (done ++ [w]) [] r else rowsGo done (w ++ [x]) r
def rows (b : Bytes) : List Bytes := rowsGo [] [] b
/-- one byte more -/
def step (l : List Bytes) (x : UInt8) : List Bytes := if x = 10 then l ++ [[]] else l.dropLast ++ [l.getLastD [] ++ [x]]
theorem rowsGo_snoc : ∀ (b : Bytes) (done : List Bytes) (w : Bytes) (x : UInt8), rowsGo done w (b ++ [x]) = step (rowsGo done w b) x
  | [], done, w, x => by
    unfold step
    simp only [List.nil_append, rowsGo, List.getLastD_concat, List.dropLast_concat]
  | y :: r, done, w, x => by
    show (if y = 10 then rowsGo (done ++ [w]) [] (r ++ [x]) else rowsGo done (w ++ [y]) (r ++ [x])) = step (if y = 10 then rowsGo (done ++ [w]) [] r else rowsGo done (w ++ [y]) r) x
    split
    · exact rowsGo_snoc r _ _ x
    · exact rowsGo_snoc r _ _ x
theorem rows_snoc (b : Bytes) (x : UInt8) : rows (b ++ [x]) = step (rows b) x := rowsGo_snoc b [] [] x
theorem rowsGo_ne : ∀ (b : Bytes) (done : List Bytes) (w : Bytes), rowsGo done w b ≠ []
  | [], done, w => by simp [rowsGo]
  | y :: r, done, w => by
    unfold rowsGo
    split
    · exact rowsGo_ne r _ _
    · exact rowsGo_ne r _ _
theorem rows_ne (b : Bytes) : rows b ≠ [] := rowsGo_ne b [] []
theorem rowsGo_len : ∀ (b : Bytes) (done : List Bytes) (w : Bytes), (rowsGo done w b).length ≤ done.length + 1 + b.length
  | [], done, w => by simp [rowsGo]
  | y :: r, done, w => by
    unfold rowsGo
    split
    · have := rowsGo_len r (done ++ [w]) []
      simp only [List.length_append, List.length_cons, List.length_nil] at this ⊢
      omega
    · have := rowsGo_len r done (w ++ [y])
      simp only [List.length_cons] at this ⊢
      omega
theorem rows_len (b : Bytes) : (rows b).length ≤ b.length + 1 := by
  have := rowsGo_len b [] []
  simp only [List.length_nil] at this
  unfold rows
  omega
theorem rowsGo_each : ∀ (b : Bytes) (done : List Bytes) (w : Bytes) (n : Nat), (∀ r ∈ done, r.length ≤ n + b.length) → w.length ≤ n → ∀ r ∈ rowsGo done w b, r.length ≤ n + b.length
  | [], done, w, n, hd, hw, r, hr => by
    rcases List.mem_append.mp hr with h | h
    · exact hd r h
    · have e : r = w := by simpa using h
      subst e
      show r.length ≤ n + 0
      omega
  | y :: t, done, w, n, hd, hw, r, hr => by
    have hr : r ∈ (if y = 10 then rowsGo (done ++ [w]) [] t else rowsGo done (w ++ [y]) t) := hr
    have hd' : ∀ r ∈ done, r.length ≤ n + 1 + t.length := fun r h => by
      have := hd r h
      simp only [List.length_cons] at this
      omega
    have goal : r.length ≤ n + 1 + t.length := by
      split at hr
      · refine rowsGo_each t _ _ (n + 1) (fun r h => ?_) (Nat.zero_le _) r hr
        rcases List.mem_append.mp h with h | h
        · exact hd' r h
        · have e : r = w := by simpa using h
          subst e
          omega
      · refine rowsGo_each t _ _ (n + 1) hd' ?_ r hr
        rw [List.length_append]
        exact Nat.succ_le_succ hw
    simp only [List.length_cons]
    omega
theorem rows_each (b : Bytes) : ∀ r ∈ rows b, r.length ≤ b.length := fun r hr => by
  have := rowsGo_each b [] [] 0 (fun _ h => nomatch h) (Nat.le_refl _) r hr
  omega
/-- the text that rows make -/
def txt (rs : List Bytes) : Bytes := rs.flatMap fun r => r ++ [10]
theorem txt_append (a b : List Bytes) : txt (a ++ b) = txt a ++ txt b := List.flatMap_append
theorem txt_one (r : Bytes) : txt [r] = r ++ [10] := by simp [txt]
/-- the rows of a text make it again -/
theorem rowsGo_txt : ∀ (b : Bytes) (done : List Bytes) (w : Bytes), txt (rowsGo done w b).dropLast ++ (rowsGo done w b).getLastD [] = txt done ++ w ++ b
  | [], done, w => by simp [rowsGo]
  | y :: r, done, w => by
    show txt (if y = 10 then rowsGo (done ++ [w]) [] r else rowsGo done (w ++ [y]) r).dropLast ++ (if y = 10 then rowsGo (done ++ [w]) [] r else rowsGo done (w ++ [y]) r).getLastD [] = _
    split
    · rename_i e
      subst e
      rw [rowsGo_txt r, txt_append, txt_one]
      simp
    · rw [rowsGo_txt r]
      simp
theorem rows_txt (b : Bytes) : txt (rows b).dropLast ++ (rows b).getLastD [] = b := by
  have := rowsGo_txt b [] []
  simpa [rows, txt] using this
/-- no row holds the byte 10 -/
theorem rowsGo_no : ∀ (b : Bytes) (done : List Bytes) (w : Bytes), (∀ r ∈ done, (10 : UInt8) ∉ r) → (10 : UInt8) ∉ w → ∀ r ∈ rowsGo done w b, (10 : UInt8) ∉ r
  | [], done, w, hd, hw, r, hr => by
    rcases List.mem_append.mp hr with h | h
    · exact hd r h
    · have e : r = w := by simpa using h
      subst e
      exact hw
  | y :: t, done, w, hd, hw, r, hr => by
    have hr : r ∈ (if y = 10 then rowsGo (done ++ [w]) [] t else rowsGo done (w ++ [y]) t) := hr
    split at hr
    · refine rowsGo_no t _ _ (fun r h => ?_) (by simp) r hr
      rcases List.mem_append.mp h with h | h
      · exact hd r h
      · have e : r = w := by simpa using h
        subst e
        exact hw
    · rename_i ne
      refine rowsGo_no t _ _ hd (fun h => ?_) r hr
      rcases List.mem_append.mp h with h | h
      · exact hw h
      · have e : (10 : UInt8) = y := by simpa using h
        exact ne e.symm
/-- the specification's cut -/
theorem cut_rows : ∀ (b : Bytes) (p : Nat) (done : List Bytes) (w : Bytes), done ++ (cut LF p w b).map (·.2) = rowsGo done w b
  | [], p, done, w => rfl
  | y :: r, p, done, w => by
    show done ++ (if y = LF then (p, w) :: cut LF (p + w.length + 1) [] r else cut LF p (w ++ [y]) r).map (·.2) = if y = 10 then rowsGo (done ++ [w]) [] r else rowsGo done (w ++ [y]) r
    by_cases e : y = 10
    · rw [if_pos (show y = LF from e), if_pos e, ← cut_rows r (p + w.length + 1)]
      simp
    · rw [if_neg (show ¬ y = LF from e), if_neg e, cut_rows r p]
theorem cut_all (b : Bytes) : (cut LF 0 [] b).map (·.2) = rows b := by
  have := cut_rows b 0 [] []
  simpa [rows] using this

/-! ### colours -/
def isCol (c : UInt8) : Bool := (decide (97 ≤ bi c) && decide (bi c ≤ 122)) || (decide (65 ≤ bi c) && decide (bi c ≤ 90)) || (decide (48 ≤ bi c) && decide (bi c ≤ 57))
def col (c : UInt8) : Nat := (colourOf c).getD 0
theorem all_bytes {p : UInt8 → Prop} (h : ∀ n : Fin 256, p (UInt8.ofNat n.val)) (c : UInt8) : p c := by
  have := h ⟨c.toNat, c.toNat_lt⟩
  simpa using this
theorem isCol_iff (c : UInt8) : (colourOf c).isSome = isCol c := by
  refine all_bytes (p := fun c => (colourOf c).isSome = isCol c) ?_ c
  decide +kernel
theorem col_byte (c : UInt8) (h : isCol c = true) : byteOf (col c) = c := by
  refine all_bytes (p := fun c => isCol c = true → byteOf (col c) = c) ?_ c h
  decide +kernel
theorem col_lt (c : UInt8) (h : isCol c = true) : col c < COLOURS := by
  refine all_bytes (p := fun c => isCol c = true → col c < COLOURS) ?_ c h
  decide +kernel
theorem byte_inj : ∀ (a b : Nat), a < COLOURS → b < COLOURS → byteOf a = byteOf b → a = b := by
  have : ∀ (a b : Fin 62), byteOf a.val = byteOf b.val → a = b := by decide +kernel
  intro a b ha hb h
  have := this ⟨a, ha⟩ ⟨b, hb⟩ h
  exact congrArg Fin.val this
theorem byte_col (k : Nat) (h : k < COLOURS) : isCol (byteOf k) = true := by
  have : ∀ (a : Fin 62), isCol (byteOf a.val) = true := by decide +kernel
  exact this ⟨k, h⟩
theorem byte_zero : byteOf 0 = 97 := rfl
theorem not_lf (k : Nat) (h : k < COLOURS) : byteOf k ≠ 10 := by
  have : ∀ (a : Fin 62), byteOf a.val ≠ 10 := by decide +kernel
  exact this ⟨k, h⟩

/-! ### charts -/
/-- rows are a chart's -/
def isRight (rs : List Bytes) : Bool :=
  decide (1 ≤ rs.length) && decide (rs.length ≤ 512) && (decide (1 ≤ (rs.headD []).length) && decide ((rs.headD []).length ≤ 512)) && decide ((rs.headD []).length * rs.length ≤ 65536) &&
    rs.all fun r => decide (r.length = (rs.headD []).length) && r.all isCol
def readChart (b : Bytes) : Option (List Bytes) := if (rows b).getLastD [] ≠ [] ∨ isRight (rows b).dropLast = false then none else some (rows b).dropLast
def toChart (rs : List Bytes) : Chart := ⟨(rs.headD []).length, rs.length, rs.map fun r => r.map col⟩
structure Right (rs : List Bytes) (W H : Nat) : Prop where
  high : rs.length = H
  each : ∀ r ∈ rs, r.length = W
  cols : ∀ r ∈ rs, ∀ c ∈ r, isCol c = true
  w1 : 1 ≤ W
  w2 : W ≤ 512
  h1 : 1 ≤ H
  h2 : H ≤ 512
  kn : W * H ≤ 65536
theorem Right.head {rs : List Bytes} {W H : Nat} (h : Right rs W H) : (rs.headD []).length = W := by
  match rs, h with
  | [], h => exact absurd h.high (by have := h.h1; simp only [List.length_nil]; omega)
  | r :: l, h => exact h.each r List.mem_cons_self
theorem right_of {rs : List Bytes} (h : isRight rs = true) : Right rs (rs.headD []).length rs.length := by
  unfold isRight at h
  simp only [Bool.and_eq_true, decide_eq_true_eq, List.all_eq_true] at h
  obtain ⟨⟨⟨⟨h1, h2⟩, h3, h4⟩, h5⟩, h6⟩ := h
  exact ⟨rfl, fun r hr => (h6 r hr).1, fun r hr c hc => (h6 r hr).2 c hc, h3, h4, h1, h2, h5⟩
theorem of_right {rs : List Bytes} {W H : Nat} (h : Right rs W H) : isRight rs = true := by
  unfold isRight
  simp only [Bool.and_eq_true, decide_eq_true_eq, List.all_eq_true]
  rw [h.head, h.high]
  exact ⟨⟨⟨⟨h.h1, h.h2⟩, h.w1, h.w2⟩, h.kn⟩, fun r hr => ⟨h.each r hr, h.cols r hr⟩⟩
theorem map_col_byte : ∀ (r : Bytes), (∀ c ∈ r, isCol c = true) → (r.map col).map byteOf = r
  | [], _ => rfl
  | c :: r, h => by
    have ih := map_col_byte r (fun c hc => h c (List.mem_cons_of_mem _ hc))
    show byteOf (col c) :: (r.map col).map byteOf = c :: r
    rw [ih, col_byte c (h c List.mem_cons_self)]
theorem toChart_text {rs : List Bytes} (h : ∀ r ∈ rs, ∀ c ∈ r, isCol c = true) : (toChart rs).text = txt rs := by
  show (rs.map fun r => r.map col).flatMap (fun r => r.map byteOf ++ [LF]) = rs.flatMap fun r => r ++ [10]
  rw [List.flatMap_map]
  have : ∀ (l : List Bytes), (∀ r ∈ l, ∀ c ∈ r, isCol c = true) → (l.flatMap fun r => (r.map col).map byteOf ++ [LF]) = l.flatMap fun r => r ++ [10] := by
    intro l
    induction l with
    | nil => intro _; rfl
    | cons r l ih =>
      intro h
      rw [List.flatMap_cons, List.flatMap_cons, ih (fun r hr => h r (List.mem_cons_of_mem _ hr)), map_col_byte r (h r List.mem_cons_self)]
      rfl
  exact this rs h
theorem filterMap_cols : ∀ (r : Bytes), (∀ c ∈ r, isCol c = true) → (r.map colourOf).filterMap id = r.map col
  | [], _ => rfl
  | c :: r, h => by
    have ih := filterMap_cols r (fun c hc => h c (List.mem_cons_of_mem _ hc))
    have hc := isCol_iff c
    rw [h c List.mem_cons_self] at hc
    rw [List.map_cons, List.map_cons]
    obtain ⟨k, hk⟩ := Option.isSome_iff_exists.mp hc
    have e : (some k :: r.map colourOf).filterMap id = k :: (r.map colourOf).filterMap id := rfl
    rw [hk, e, ih]
    unfold col
    rw [hk]
    rfl
theorem filterMap_len : ∀ (r : Bytes), ((r.map colourOf).filterMap id).length ≤ r.length := fun r => by
  have := List.length_filterMap_le id (r.map colourOf)
  rwa [List.length_map] at this
theorem filterMap_full : ∀ (r : Bytes), ((r.map colourOf).filterMap id).length = r.length → ∀ c ∈ r, isCol c = true
  | [], _, c, hc => nomatch hc
  | x :: r, h, c, hc => by
    rw [List.map_cons] at h
    cases e : colourOf x with
    | none =>
      rw [e, List.filterMap_cons_none rfl] at h
      have := filterMap_len r
      simp only [List.length_cons] at h
      omega
    | some k =>
      have e2 : (some k :: r.map colourOf).filterMap id = k :: (r.map colourOf).filterMap id := rfl
      rw [e, e2] at h
      simp only [List.length_cons, Nat.add_right_cancel_iff] at h
      rcases List.mem_cons.mp hc with rfl | hc
      · rw [← isCol_iff, e]; rfl
      · exact filterMap_full r h c hc

/-- the chart of the specification's reading -/
def specChart (b : Bytes) : Chart :=
  let l := ((cut LF 0 [] b).map fun (x : Nat × Bytes) => x.2.map colourOf).dropLast
  ⟨(l.headD []).length, l.length, l.map fun (r : List (Option Nat)) => r.filterMap id⟩
theorem chartOf_eq (b : Bytes) : chartOf b = if (specChart b).right = true ∧ (specChart b).text = b then some (specChart b) else none := rfl
theorem specChart_eq (b : Bytes) : specChart b = ⟨((rows b).dropLast.headD []).length, (rows b).dropLast.length, (rows b).dropLast.map fun r => (r.map colourOf).filterMap id⟩ := by
  have e : ((cut LF 0 [] b).map fun (x : Nat × Bytes) => x.2.map colourOf).dropLast = (rows b).dropLast.map fun r => r.map colourOf := by
    rw [← cut_all, ← List.map_dropLast, ← List.map_dropLast, List.map_map]
    rfl
  unfold specChart
  rw [e]
  have h1 : ∀ l : List Bytes, ((l.map fun r => r.map colourOf).headD []).length = (l.headD []).length := by
    intro l
    cases l with
    | nil => rfl
    | cons r l => simp
  simp only [h1, List.length_map, List.map_map]
  rfl
theorem specChart_of {b : Bytes} {rs : List Bytes} (e : (rows b).dropLast = rs) (h : ∀ r ∈ rs, ∀ c ∈ r, isCol c = true) : specChart b = toChart rs := by
  rw [specChart_eq, e]
  unfold toChart
  congr 1
  exact List.map_congr_left fun r hr => filterMap_cols r (h r hr)
theorem toChart_right {rs : List Bytes} {W H : Nat} (h : Right rs W H) : (toChart rs).right = true := by
  unfold Chart.right toChart sizeOk SIDE KNOTS
  simp only [Bool.and_eq_true, decide_eq_true_eq, List.all_eq_true, List.length_map, h.head, h.high]
  refine ⟨⟨h.w1, h.w2, h.h1, h.h2⟩, h.kn, trivial, fun r hr => ?_⟩
  obtain ⟨q, hq, rfl⟩ := List.mem_map.mp hr
  refine ⟨by rw [List.length_map, h.each q hq], fun k hk => ?_⟩
  obtain ⟨c, hc, rfl⟩ := List.mem_map.mp hk
  exact col_lt c (h.cols q hq c hc)
theorem chartOf_read (b : Bytes) : chartOf b = (readChart b).map toChart := by
  unfold readChart
  rw [chartOf_eq]
  by_cases hc : (rows b).getLastD [] ≠ [] ∨ isRight (rows b).dropLast = false
  · rw [if_pos hc]
    refine if_neg ?_
    rintro ⟨hr, ht⟩
    -- the rows are right and the last is empty
    have hs := specChart_eq b
    have R : Right (rows b).dropLast ((rows b).dropLast.headD []).length (rows b).dropLast.length := by
      rw [hs] at hr
      unfold Chart.right sizeOk SIDE KNOTS at hr
      simp only [Bool.and_eq_true, decide_eq_true_eq, List.all_eq_true, List.length_map] at hr
      obtain ⟨⟨a1, a2, a3, a4⟩, a5, _, a7⟩ := hr
      have len : ∀ r ∈ (rows b).dropLast, ((r.map colourOf).filterMap id).length = ((rows b).dropLast.headD []).length := fun r hr =>
        (a7 _ (List.mem_map.mpr ⟨r, hr, rfl⟩)).1
      -- lengths of the text: each row is whole
      have tl : (txt (rows b).dropLast).length + ((rows b).getLastD []).length = b.length := by
        have := congrArg List.length (rows_txt b)
        rwa [List.length_append] at this
      have sum1 : ∀ l : List Bytes, (l.flatMap fun r => (((r.map colourOf).filterMap id).map byteOf) ++ [LF]).length ≤ (txt l).length := by
        intro l
        induction l with
        | nil => exact Nat.le_refl _
        | cons r l ih =>
          unfold txt at ih ⊢
          rw [List.flatMap_cons, List.flatMap_cons, List.length_append, List.length_append, List.length_append, List.length_append, List.length_map]
          have := filterMap_len r
          simp only [List.length_cons, List.length_nil] at ih ⊢
          omega
      have sum2 : ∀ l : List Bytes, (l.flatMap fun r => (((r.map colourOf).filterMap id).map byteOf) ++ [LF]).length = (txt l).length → ∀ r ∈ l, ((r.map colourOf).filterMap id).length = r.length := by
        intro l
        induction l with
        | nil => intro _ r hr; exact nomatch hr
        | cons r l ih =>
          intro h q hq
          have h' := sum1 l
          unfold txt at h h' ih
          rw [List.flatMap_cons, List.flatMap_cons, List.length_append, List.length_append, List.length_append, List.length_append, List.length_map] at h
          have := filterMap_len r
          simp only [List.length_cons, List.length_nil] at h
          rcases List.mem_cons.mp hq with rfl | hq
          · omega
          · exact ih (by omega) q hq
      have st : (specChart b).text.length = ((rows b).dropLast.flatMap fun r => (((r.map colourOf).filterMap id).map byteOf) ++ [LF]).length := by
        rw [hs]
        unfold Chart.text
        rw [List.flatMap_map]
      rw [ht] at st
      have le := sum1 (rows b).dropLast
      have full := sum2 (rows b).dropLast (by omega)
      exact ⟨rfl, fun r hr => (full r hr).symm.trans (len r hr), fun r hr => filterMap_full r (full r hr), a1, a2, a3, a4, a5⟩
    have hs2 : specChart b = toChart (rows b).dropLast := specChart_of rfl R.cols
    rw [hs2, toChart_text R.cols] at ht
    have hl : (rows b).getLastD [] = [] := by
      have q := rows_txt b
      rw [ht] at q
      exact List.append_right_eq_self.mp q
    rcases hc with hc | hc
    · exact hc hl
    · rw [of_right R] at hc
      cases hc
  · rw [if_neg hc]
    have hl : (rows b).getLastD [] = [] := Classical.byContradiction fun h => hc (.inl h)
    have hr : isRight (rows b).dropLast = true := by
      cases e : isRight (rows b).dropLast with
      | true => rfl
      | false => exact absurd (.inr e) hc
    have R := right_of hr
    have hs : specChart b = toChart (rows b).dropLast := specChart_of rfl R.cols
    rw [hs]
    refine if_pos ⟨toChart_right R, ?_⟩
    rw [toChart_text R.cols]
    have q := rows_txt b
    rw [hl, List.append_nil] at q
    exact q
theorem read_right {b : Bytes} {rs : List Bytes} (h : readChart b = some rs) : Right rs (rs.headD []).length rs.length := by
  unfold readChart at h
  split at h
  · cases h
  · rename_i hc
    cases h
    refine right_of ?_
    cases e : isRight (rows b).dropLast with
    | true => rfl
    | false => exact absurd (.inr e) hc
/-- a knot -/
def knot (rs : List Bytes) (x y : Nat) : UInt8 := (rs.getD y []).getD x 0
theorem at_knot {rs : List Bytes} {W H x y : Nat} (h : Right rs W H) (hx : x < W) (hy : y < H) : byteOf ((toChart rs).at_ x y) = knot rs x y ∧ (toChart rs).at_ x y = col (knot rs x y) ∧ isCol (knot rs x y) = true := by
  have hy' : y < rs.length := by rw [h.high]; exact hy
  have hr : rs.getD y [] ∈ rs := by
    rw [List.getD_eq_getElem?_getD, List.getElem?_eq_getElem hy']
    exact List.getElem_mem hy'
  have hx' : x < (rs.getD y []).length := by rw [h.each _ hr]; exact hx
  have e : (toChart rs).at_ x y = col (knot rs x y) := by
    unfold Chart.at_ toChart knot
    simp only [List.getD_eq_getElem?_getD, List.getElem?_map, List.getElem?_eq_getElem hy', Option.map_some, Option.getD_some]
    have hx2 : x < rs[y].length := by
      have := hx'
      rw [List.getD_eq_getElem?_getD, List.getElem?_eq_getElem hy'] at this
      exact this
    rw [List.getElem?_eq_getElem hx2]
    rfl
  have c : isCol (knot rs x y) = true := by
    refine h.cols _ hr _ ?_
    show (rs.getD y []).getD x 0 ∈ rs.getD y []
    generalize rs.getD y [] = q at hx'
    rw [List.getD_eq_getElem?_getD, List.getElem?_eq_getElem hx']
    exact List.getElem_mem hx'
  exact ⟨by rw [e, col_byte _ c], e, c⟩
/-- rows by a function -/
def byRows (w h : Nat) (g : Nat → Nat → UInt8) : List Bytes := (List.range h).map fun y => (List.range w).map fun x => g x y
theorem by_text (w h : Nat) (f : Nat → Nat → Nat) (g : Nat → Nat → UInt8) (e : ∀ x y, x < w → y < h → byteOf (f x y) = g x y) : (Chart.by_ w h f).text = txt (byRows w h g) := by
  unfold Chart.text Chart.by_ txt byRows
  rw [List.flatMap_map, List.flatMap_map]
  have : ∀ l : List Nat, (∀ y ∈ l, y < h) → (l.flatMap fun y => ((List.range w).map fun x => f x y).map byteOf ++ [LF]) = l.flatMap fun y => ((List.range w).map fun x => g x y) ++ [10] := by
    intro l
    induction l with
    | nil => intro _; rfl
    | cons y l ih =>
      intro hl
      rw [List.flatMap_cons, List.flatMap_cons, ih (fun z hz => hl z (List.mem_cons_of_mem _ hz)), List.map_map]
      congr 2
      exact List.map_congr_left fun x hx => e x y (List.mem_range.mp hx) (hl y List.mem_cons_self)
  exact this _ fun y hy => List.mem_range.mp hy
/-- a part -/
def cutRows (rs : List Bytes) (x y w h : Nat) : List Bytes := ((rs.drop y).take h).map fun r => (r.drop x).take w
theorem byRows_cut {rs : List Bytes} {W H x y w h : Nat} (R : Right rs W H) (hx : x + w ≤ W) (hy : y + h ≤ H) : byRows w h (fun i j => knot rs (x + i) (y + j)) = cutRows rs x y w h := by
  unfold byRows cutRows
  have len := R.high
  refine List.ext_getElem (by simp only [List.length_map, List.length_range, List.length_take, List.length_drop]; omega) fun j h1 h2 => ?_
  simp only [List.length_map, List.length_range] at h1
  simp only [List.getElem_map, List.getElem_range, List.getElem_take, List.getElem_drop]
  have hyj : y + j < rs.length := by omega
  have el : rs[y + j].length = W := R.each _ (List.getElem_mem hyj)
  refine List.ext_getElem (by simp only [List.length_map, List.length_range, List.length_take, List.length_drop]; omega) fun i h3 h4 => ?_
  simp only [List.length_map, List.length_range] at h3
  simp only [List.getElem_map, List.getElem_range, List.getElem_take, List.getElem_drop]
  unfold knot
  rw [List.getD_eq_getElem?_getD, List.getD_eq_getElem?_getD, List.getElem?_eq_getElem hyj]
  simp only [Option.getD_some]
  rw [List.getElem?_eq_getElem (by omega)]
  rfl

/-! ### answers -/
/-- how many bytes, and they -/
def counted (b : Bytes) : List Int := (b.length : Int) :: b.map bi
theorem shown_whole (b : Bytes) : RugDNeutral.shown (wholeB b) = counted b := rfl
theorem shown_says (z : Int) : RugDNeutral.shown (says z) = [z] := rfl
theorem shown_tells (z : Int) (l : List Int) : RugDNeutral.shown (tells z l) = z :: l := by
  show z :: (l ++ []) = z :: l
  rw [List.append_nil]
/-- a text looked at: refused, or its rows -/
def lookText (b : Bytes) : Int ⊕ List Bytes := if 66048 < b.length then .inl (-2) else match readChart b with
  | none => .inl (-6)
  | some rs => .inr rs
def okDeep (h : Int) : Bool := decide (1 ≤ h) && decide (h ≤ 128)
/-- a rug, within a depth -/
def rugOf (h : Int) (b : Bytes) : Int ⊕ List Bytes := match lookText b with
  | .inl c => .inl c
  | .inr rs => if okDeep h = false ∨ ((rs.headD []).length : Int) ≤ 2 * h ∨ (rs.length : Int) ≤ 2 * h then .inl (-1) else .inr rs
theorem ofChart_look (b : Bytes) (f : Chart → Ans) : ofChart b f = match lookText b with
    | .inl c => says c
    | .inr rs => f (toChart rs) := by
  unfold ofChart lookText TEXT
  by_cases h : 66048 < b.length
  · rw [if_pos h, if_pos h]; rfl
  · rw [if_neg h, if_neg h, chartOf_read]
    cases readChart b <;> rfl
theorem deep_ok (h : Int) (h0 : 0 ≤ h) : deepOk h.toNat = okDeep h := by
  unfold deepOk okDeep DEEP
  rw [show decide (1 ≤ h.toNat) = decide (1 ≤ h) from decide_eq_decide.mpr (by omega), show decide (h.toNat ≤ 128) = decide (h ≤ 128) from decide_eq_decide.mpr (by omega)]
theorem ofRug_look (h : Int) (h0 : 0 ≤ h) (b : Bytes) (f : Chart → Ans) : ofRug b h.toNat f = match rugOf h b with
    | .inl c => says c
    | .inr rs => f (toChart rs) := by
  unfold ofRug rugOf
  rw [ofChart_look]
  cases lookText b with
  | inl c => rfl
  | inr rs =>
    show (if deepOk h.toNat = false ∨ (rs.headD []).length ≤ 2 * h.toNat ∨ rs.length ≤ 2 * h.toNat then BAD else f (toChart rs)) = _
    rw [deep_ok h h0]
    show _ = match (if okDeep h = false ∨ ((rs.headD []).length : Int) ≤ 2 * h ∨ (rs.length : Int) ≤ 2 * h then (.inl (-1) : Int ⊕ List Bytes) else .inr rs) with
      | .inl c => says c
      | .inr rs => f (toChart rs)
    have e1 : (rs.headD []).length ≤ 2 * h.toNat ↔ ((rs.headD []).length : Int) ≤ 2 * h := by omega
    have e2 : rs.length ≤ 2 * h.toNat ↔ (rs.length : Int) ≤ 2 * h := by omega
    by_cases c : okDeep h = false ∨ (rs.headD []).length ≤ 2 * h.toNat ∨ rs.length ≤ 2 * h.toNat
    · rw [if_pos c, if_pos (by rw [← e1, ← e2]; exact c)]; rfl
    · rw [if_neg c, if_neg (by rw [← e1, ← e2]; exact c)]
theorem look_right {b : Bytes} {rs : List Bytes} (h : lookText b = .inr rs) : Right rs (rs.headD []).length rs.length ∧ b.length ≤ 66048 := by
  unfold lookText at h
  split at h
  · cases h
  · rename_i hl
    cases e : readChart b with
    | none => rw [e] at h; cases h
    | some q =>
      rw [e] at h
      cases h
      exact ⟨read_right e, by omega⟩
theorem rug_right {h : Int} {b : Bytes} {rs : List Bytes} (e : rugOf h b = .inr rs) : Right rs (rs.headD []).length rs.length ∧ 1 ≤ h ∧ h ≤ 128 ∧ 2 * h < (rs.headD []).length ∧ 2 * h < rs.length := by
  unfold rugOf at e
  cases q : lookText b with
  | inl c => rw [q] at e; cases e
  | inr r =>
    rw [q] at e
    simp only at e
    split at e
    · cases e
    · rename_i hc
      cases e
      simp only [not_or, Int.not_le, Bool.not_eq_false] at hc
      obtain ⟨h1, h2, h3⟩ := hc
      unfold okDeep at h1
      simp only [Bool.and_eq_true, decide_eq_true_eq] at h1
      exact ⟨(look_right q).1, h1.1, h1.2, h2, h3⟩
end Rug

/-! Plain law, part 1: borders: fits, what a knot is, sizes. -/
namespace Rug
open Wqbbch

def okOne (n : Int) : Bool := decide (1 ≤ n) && decide (n ≤ 512)
def okBorder (kind L h W H : Int) : Bool := decide (kind ≤ 2) && (okOne L && okOne W && okOne H) && okDeep h
def fitsAlong (kind L h side : Int) : Bool := if kind = 0 then decide (side % L = 0) else if kind = 1 then decide ((side + 2 * h) % (2 * L) = 0) else decide ((side + h) % L = 0)
def fitsRound (kind L h W H : Int) : Bool := fitsAlong kind L h W && fitsAlong kind L h H
def fitsAns (kind L h W H : Int) : List Int := if okBorder kind L h W H = true then [if fitsRound kind L h W H = true then 1 else 0] else [-1]
/-- the kind by its number -/
def kd (kind : Int) : Kind := if kind = 0 then .set else if kind = 1 then .met else .run
theorem kindAt_ok {kind : Int} (h0 : 0 ≤ kind) (h : kind ≤ 2) : kindAt kind.toNat = some (kd kind) := by
  have : kind = 0 ∨ kind = 1 ∨ kind = 2 := by omega
  rcases this with rfl | rfl | rfl <;> rfl
theorem kindAt_no {kind : Int} (h : ¬ kind ≤ 2) : kindAt kind.toNat = none := by
  obtain ⟨n, rfl⟩ : ∃ n : Nat, kind = ((n + 3 : Nat) : Int) := ⟨(kind - 3).toNat, by omega⟩
  rw [Int.toNat_natCast]
  rfl
theorem one_ok (n : Int) (h0 : 0 ≤ n) : one n.toNat = okOne n := by
  unfold one okOne SIDE
  rw [show decide (1 ≤ n.toNat) = decide (1 ≤ n) from decide_eq_decide.mpr (by omega), show decide (n.toNat ≤ 512) = decide (n ≤ 512) from decide_eq_decide.mpr (by omega)]
theorem ofKind_ok {kind L h W H : Int} (k0 : 0 ≤ kind) (L0 : 0 ≤ L) (h0 : 0 ≤ h) (W0 : 0 ≤ W) (H0 : 0 ≤ H) (f : Kind → Ans) :
    ofKind kind.toNat L.toNat h.toNat W.toNat H.toNat f = if okBorder kind L h W H = true then f (kd kind) else BAD := by
  unfold ofKind okBorder
  by_cases hk : kind ≤ 2
  · rw [kindAt_ok k0 hk]
    show (if one L.toNat = true ∧ deepOk h.toNat = true ∧ one W.toNat = true ∧ one H.toNat = true then f (kd kind) else BAD) = _
    rw [one_ok L L0, one_ok W W0, one_ok H H0, deep_ok h h0, decide_eq_true hk]
    simp only [Bool.true_and, Bool.and_eq_true]
    by_cases c : okOne L = true ∧ okDeep h = true ∧ okOne W = true ∧ okOne H = true
    · rw [if_pos c, if_pos ⟨⟨⟨c.1, c.2.2.1⟩, c.2.2.2⟩, c.2.1⟩]
    · rw [if_neg c, if_neg fun q => c ⟨q.1.1.1, q.2, q.1.1.2, q.1.2⟩]
  · rw [kindAt_no hk, decide_eq_false hk]
    simp only [Bool.false_and, Bool.false_eq_true, if_false]
structure Ok (kind L h W H : Int) : Prop where
  k0 : 0 ≤ kind
  k2 : kind ≤ 2
  L1 : 1 ≤ L
  L2 : L ≤ 512
  h1 : 1 ≤ h
  h2 : h ≤ 128
  W1 : 1 ≤ W
  W2 : W ≤ 512
  H1 : 1 ≤ H
  H2 : H ≤ 512
theorem ok_of {kind L h W H : Int} (k0 : 0 ≤ kind) (e : okBorder kind L h W H = true) : Ok kind L h W H := by
  unfold okBorder okOne okDeep at e
  simp only [Bool.and_eq_true, decide_eq_true_eq] at e
  exact ⟨k0, by omega, by omega, by omega, by omega, by omega, by omega, by omega, by omega, by omega⟩
theorem of_ok {kind L h W H : Int} (e : Ok kind L h W H) : okBorder kind L h W H = true := by
  unfold okBorder okOne okDeep
  simp only [Bool.and_eq_true, decide_eq_true_eq]
  have := e.k2; have := e.L1; have := e.L2; have := e.h1; have := e.h2; have := e.W1; have := e.W2; have := e.H1; have := e.H2
  omega
theorem beq_mod (a b : Nat) : (a % b == 0) = decide ((a : Int) % (b : Int) = 0) := by
  rw [Bool.beq_eq_decide_eq]
  refine decide_eq_decide.mpr ?_
  omega
theorem fitsWay_ok {kind : Int} {L h W : Nat} (k0 : 0 ≤ kind) (k2 : kind ≤ 2) : fitsWay (kd kind) L h W = fitsAlong kind (L : Int) (h : Int) (W : Int) := by
  unfold fitsWay fitsAlong kd
  have : kind = 0 ∨ kind = 1 ∨ kind = 2 := by omega
  rcases this with rfl | rfl | rfl
  · exact beq_mod _ _
  · have := beq_mod (W + 2 * h) (2 * L)
    simpa using this
  · have := beq_mod (W + h) L
    simpa using this
theorem fits_way (k : Kind) (L h W H : Nat) : fits k L h W H = (fitsWay k L h W && fitsWay k L h H) := by cases k <;> rfl
theorem fits_nat {kind : Int} {L h W H : Nat} (k0 : 0 ≤ kind) (k2 : kind ≤ 2) : fits (kd kind) L h W H = fitsRound kind L h W H := by
  rw [fits_way, fitsWay_ok k0 k2, fitsWay_ok k0 k2]
  rfl
theorem fits_ok {kind L h W H : Int} (e : Ok kind L h W H) : fits (kd kind) L.toNat h.toNat W.toNat H.toNat = fitsRound kind L h W H := by
  rw [fits_nat e.k0 e.k2, Int.toNat_of_nonneg (by have := e.L1; omega), Int.toNat_of_nonneg (by have := e.h1; omega), Int.toNat_of_nonneg (by have := e.W1; omega), Int.toNat_of_nonneg (by have := e.H1; omega)]
/-- law 1 -/
theorem fits_law {kind L h W H : Int} (k0 : 0 ≤ kind) (L0 : 0 ≤ L) (h0 : 0 ≤ h) (W0 : 0 ≤ W) (H0 : 0 ≤ H) : PyWqbbch.fits kind L h W H = fitsAns kind L h W H := by
  show RugDNeutral.shown (ofKind kind.toNat L.toNat h.toNat W.toNat H.toNat fun k => says (if fits k L.toNat h.toNat W.toNat H.toNat = true then 1 else 0)) = _
  rw [ofKind_ok k0 L0 h0 W0 H0]
  unfold fitsAns
  by_cases c : okBorder kind L h W H = true
  · rw [if_pos c, if_pos c, fits_ok (ok_of k0 c)]
    rfl
  · rw [if_neg c, if_neg c]
    rfl

/-! ### what a knot is -/
def cornerKnot (h W H x y : Int) : Int × Int × Int :=
  if x < h ∧ y < h then (2, x, y) else if y < h then (2, y, W + 2 * h - 1 - x) else if x < h then (2, H + 2 * h - 1 - y, x) else (2, W + 2 * h - 1 - x, H + 2 * h - 1 - y)
def setKnot (L h W H x y : Int) : Int × Int × Int :=
  if (x < h ∨ W + 2 * h - 1 - x < h) ∧ (y < h ∨ H + 2 * h - 1 - y < h) then cornerKnot h W H x y
  else if y < h then (1, (x - h) % L, y) else if W + 2 * h - 1 - x < h then (1, (y - h) % L, W + 2 * h - 1 - x)
  else if H + 2 * h - 1 - y < h then (1, (W + 2 * h - 1 - x - h) % L, H + 2 * h - 1 - y) else (1, (H + 2 * h - 1 - y - h) % L, x)
def metKnot (L h W H x y : Int) : Int × Int × Int :=
  (1, (max (min x (W + 2 * h - 1 - x)) (min y (H + 2 * h - 1 - y))) % L, min (min x (W + 2 * h - 1 - x)) (min y (H + 2 * h - 1 - y)))
def runKnot (L h W H x y : Int) : Int × Int × Int :=
  if h ≤ W + 2 * h - 1 - x ∧ y < h then (1, x % L, y) else if W + 2 * h - 1 - x < h ∧ h ≤ H + 2 * h - 1 - y then (1, y % L, W + 2 * h - 1 - x)
  else if h ≤ x ∧ H + 2 * h - 1 - y < h then (1, (W + 2 * h - 1 - x) % L, H + 2 * h - 1 - y) else (1, (H + 2 * h - 1 - y) % L, x)
def isField (h W H x y : Int) : Bool := (decide (h ≤ x) && decide (x < h + W)) && (decide (h ≤ y) && decide (y < h + H))
def knotOf (kind L h W H x y : Int) : Int × Int × Int :=
  if isField h W H x y = true then (0, x - h, y - h) else if kind = 0 then setKnot L h W H x y else if kind = 1 then metKnot L h W H x y else runKnot L h W H x y
/-- what the specification tells, as three numbers -/
def three (f : From) : Int × Int × Int := match f with
  | .field i j => (0, i, j)
  | .strip i j => (1, i, j)
  | .corner i j => (2, i, j)
theorem fromTold_three (f : From) : fromTold f = [(three f).1, (three f).2.1, (three f).2.2] := by cases f <;> rfl
theorem three_inj {f g : From} (h : three f = three g) : f = g := by
  cases f <;> cases g <;> simp only [three, Prod.mk.injEq] at h <;> first | (obtain ⟨_, h1, h2⟩ := h; congr 1 <;> omega) | (exact absurd h.1 (by decide))
theorem trip {a b c a' b' c' : Int} (h1 : a = a') (h2 : b = b') (h3 : c = c') : (a, b, c) = (a', b', c') := by rw [h1, h2, h3]
theorem set_from {L h W H x y : Nat} (hx : x < W + 2 * h) (hy : y < H + 2 * h) (hn : ¬ (h ≤ x ∧ x < h + W ∧ h ≤ y ∧ y < h + H)) : setKnot L h W H x y = three (fromOf .set L h W H x y) := by
  unfold setKnot cornerKnot fromOf cornerAt
  simp only [if_neg hn]
  by_cases a : x < h
  · by_cases b : y < h
    · rw [if_pos (by omega), if_pos (by omega), if_pos ⟨a, b⟩]
      rfl
    · by_cases d : h + H ≤ y
      · rw [if_pos (by omega), if_neg (by omega), if_neg (by omega), if_pos (by omega), if_neg (by omega), if_neg (by omega), if_neg (by omega), if_pos ⟨a, d⟩]
        exact trip rfl (by omega) (by omega)
      · rw [if_neg (by omega), if_neg (by omega), if_neg (by omega), if_neg (by omega), if_neg (by omega), if_neg (by omega), if_neg (by omega), if_neg (by omega), if_neg (by omega), if_neg (by omega), if_neg (by omega)]
        refine trip rfl ?_ (by omega)
        rw [Int.natCast_emod]
        congr 1
        omega
  · by_cases c : h + W ≤ x
    · by_cases b : y < h
      · rw [if_pos (by omega), if_neg (by omega), if_pos (by omega), if_neg (by omega), if_pos ⟨c, b⟩]
        exact trip rfl (by omega) (by omega)
      · by_cases d : h + H ≤ y
        · rw [if_pos (by omega), if_neg (by omega), if_neg (by omega), if_neg (by omega), if_neg (by omega), if_neg (by omega), if_pos ⟨c, d⟩]
          exact trip rfl (by omega) (by omega)
        · rw [if_neg (by omega), if_neg (by omega), if_pos (by omega), if_neg (by omega), if_neg (by omega), if_neg (by omega), if_neg (by omega), if_neg (by omega), if_pos (by omega)]
          refine trip rfl ?_ (by omega)
          rw [Int.natCast_emod]
          congr 1
          omega
    · by_cases b : y < h
      · rw [if_neg (by omega), if_pos (by omega), if_neg (by omega), if_neg (by omega), if_neg (by omega), if_neg (by omega), if_pos (by omega)]
        refine trip rfl ?_ (by omega)
        rw [Int.natCast_emod]
        congr 1
        omega
      · rw [if_neg (by omega), if_neg (by omega), if_neg (by omega), if_pos (by omega), if_neg (by omega), if_neg (by omega), if_neg (by omega), if_neg (by omega), if_neg (by omega), if_neg (by omega), if_pos (by omega)]
        refine trip rfl ?_ (by omega)
        rw [Int.natCast_emod]
        congr 1
        omega
theorem met_from {L h W H x y : Nat} (hx : x < W + 2 * h) (hy : y < H + 2 * h) (hn : ¬ (h ≤ x ∧ x < h + W ∧ h ≤ y ∧ y < h + H)) : metKnot L h W H x y = three (fromOf .met L h W H x y) := by
  unfold metKnot fromOf
  simp only [if_neg hn]
  refine trip rfl ?_ (by omega)
  rw [Int.natCast_emod]
  congr 1
  omega
theorem run_from {L h W H x y : Nat} (hx : x < W + 2 * h) (hy : y < H + 2 * h) (hn : ¬ (h ≤ x ∧ x < h + W ∧ h ≤ y ∧ y < h + H)) : runKnot L h W H x y = three (fromOf .run L h W H x y) := by
  unfold runKnot fromOf
  simp only [if_neg hn]
  by_cases a : x < W + h ∧ y < h
  · rw [if_pos (by omega), if_pos a]
    exact trip rfl (by rw [Int.natCast_emod]) rfl
  · rw [if_neg (by omega), if_neg a]
    by_cases b : W + h ≤ x ∧ y < H + h
    · rw [if_pos (by omega), if_pos b]
      exact trip rfl (by rw [Int.natCast_emod]) (by omega)
    · rw [if_neg (by omega), if_neg b]
      by_cases c : h ≤ x ∧ H + h ≤ y
      · rw [if_pos (by omega), if_pos c]
        refine trip rfl ?_ (by omega)
        rw [Int.natCast_emod]
        congr 1
        omega
      · rw [if_neg (by omega), if_neg c]
        refine trip rfl ?_ rfl
        rw [Int.natCast_emod]
        congr 1
        omega
theorem isField_iff (h W H x y : Nat) : isField h W H x y = decide (h ≤ x ∧ x < h + W ∧ h ≤ y ∧ y < h + H) := by
  unfold isField
  rw [Bool.eq_iff_iff]
  simp only [Bool.and_eq_true, decide_eq_true_eq]
  omega
theorem knot_from {kind : Int} {L h W H x y : Nat} (k0 : 0 ≤ kind) (k2 : kind ≤ 2) (hx : x < W + 2 * h) (hy : y < H + 2 * h) : knotOf kind L h W H x y = three (fromOf (kd kind) L h W H x y) := by
  unfold knotOf
  rw [isField_iff]
  by_cases hf : h ≤ x ∧ x < h + W ∧ h ≤ y ∧ y < h + H
  · rw [if_pos (decide_eq_true hf)]
    unfold fromOf
    simp only [if_pos hf]
    exact trip rfl (by omega) (by omega)
  · rw [if_neg (by rw [decide_eq_false hf]; exact Bool.false_ne_true)]
    have : kind = 0 ∨ kind = 1 ∨ kind = 2 := by omega
    rcases this with rfl | rfl | rfl
    · exact set_from hx hy hf
    · exact met_from hx hy hf
    · exact run_from hx hy hf
def fromAns (kind L h W H x y : Int) : List Int :=
  if okBorder kind L h W H = true then (if fitsRound kind L h W H = true then (if W + 2 * h ≤ x ∨ H + 2 * h ≤ y then [-4] else
    [0, (knotOf kind L h W H x y).1, (knotOf kind L h W H x y).2.1, (knotOf kind L h W H x y).2.2]) else [-3]) else [-1]
/-- law 3 -/
theorem from_law {kind L h W H x y : Int} (k0 : 0 ≤ kind) (L0 : 0 ≤ L) (h0 : 0 ≤ h) (W0 : 0 ≤ W) (H0 : 0 ≤ H) (x0 : 0 ≤ x) (y0 : 0 ≤ y) : PyWqbbch.from_of kind L h W H x y = fromAns kind L h W H x y := by
  show RugDNeutral.shown (ofKind kind.toNat L.toNat h.toNat W.toNat H.toNat fun k => if fits k L.toNat h.toNat W.toNat H.toNat = false then UNFIT else if x.toNat < W.toNat + 2 * h.toNat ∧ y.toNat < H.toNat + 2 * h.toNat then
    tells 0 (fromTold (fromOf k L.toNat h.toNat W.toNat H.toNat x.toNat y.toNat)) else NO) = _
  rw [ofKind_ok k0 L0 h0 W0 H0]
  unfold fromAns
  by_cases c : okBorder kind L h W H = true
  · rw [if_pos c, if_pos c, fits_ok (ok_of k0 c)]
    cases hf : fitsRound kind L h W H with
    | false => rfl
    | true =>
      rw [if_neg (by decide), if_pos rfl]
      by_cases d : x.toNat < W.toNat + 2 * h.toNat ∧ y.toNat < H.toNat + 2 * h.toNat
      · rw [if_pos d, if_neg (by omega), shown_tells, fromTold_three]
        have e := knot_from (L := L.toNat) k0 (ok_of k0 c).k2 d.1 d.2
        rw [Int.toNat_of_nonneg L0, Int.toNat_of_nonneg h0, Int.toNat_of_nonneg W0, Int.toNat_of_nonneg H0, Int.toNat_of_nonneg x0, Int.toNat_of_nonneg y0] at e
        rw [← e]
      · rw [if_neg d, if_pos (by omega)]
        rfl
  · rw [if_neg c, if_neg c]
    rfl
end Rug

/-! Plain law, part 3: sizes. -/
namespace Rug
open Wqbbch

def rowsOk : List Int → Bool
  | [] => true
  | a :: b :: c :: r => (decide (a ≤ 2) && okOne b && okDeep c) && rowsOk r
  | _ => false
def threes : List Int → List (Int × Int × Int)
  | a :: b :: c :: r => (a, b, c) :: threes r
  | _ => []
def fitAlong : List (Int × Int × Int) → Int → Bool
  | [], side => decide (side ≤ 512)
  | r :: l, side => fitsAlong r.1 r.2.1 r.2.2 side && fitAlong l (side + 2 * r.2.2)
def sideFirst (p W : Int) : Int := (W + p - 1) / p * p
def sideCount (p W : Int) : Nat := (if sideFirst p W < 513 then (513 - sideFirst p W - 1) / p + 1 else 0).toNat
def leastSide (bs : List (Int × Int × Int)) (p W : Int) : Int := (((List.range (sideCount p W)).map fun (i : Nat) => sideFirst p W + (i : Int) * p).find? (fitAlong bs)).getD 0
def sizesAns (p q W H : Int) (l : List Int) : List Int :=
  if 48 < l.length then [-2] else if (okOne p && okOne q && okOne W && okOne H) = false then [-1] else if rowsOk l = false then [-1] else
  if leastSide (threes l) p W = 0 ∨ leastSide (threes l) q H = 0 then [-5] else [0, leastSide (threes l) p W, leastSide (threes l) q H]

def kno : Kind → Int
  | .set => 0
  | .met => 1
  | .run => 2
def row3 (r : Row) : Int × Int × Int := (kno r.kind, (r.long : Int), (r.deep : Int))
theorem kno_kd {a : Int} (a0 : 0 ≤ a) (h : a ≤ 2) : kno (kd a) = a := by
  have : a = 0 ∨ a = 1 ∨ a = 2 := by omega
  rcases this with rfl | rfl | rfl <;> rfl
theorem kd_kno (k : Kind) : kd (kno k) = k := by cases k <;> rfl
theorem rowsOf_ok : ∀ (l : List Int), (∀ x ∈ l, 0 ≤ x) → (rowsOk l = false → rowsOf (l.map Int.toNat) = none) ∧ (rowsOk l = true → ∃ m, rowsOf (l.map Int.toNat) = some m ∧ threes l = m.map row3)
  | [], _ => ⟨fun h => (Bool.noConfusion h), fun _ => ⟨[], rfl, rfl⟩⟩
  | [a], _ => ⟨fun _ => rfl, fun h => Bool.noConfusion h⟩
  | [a, b], _ => ⟨fun _ => rfl, fun h => Bool.noConfusion h⟩
  | a :: b :: c :: r, h0 => by
    have ih := rowsOf_ok r (fun x hx => h0 x (by simp [hx]))
    have a0 := h0 a (by simp)
    have b0 := h0 b (by simp)
    have c0 := h0 c (by simp)
    have e : rowsOf ((a :: b :: c :: r).map Int.toNat) = match kindAt a.toNat with
        | none => none
        | some k => if one b.toNat = true ∧ deepOk c.toNat = true then (rowsOf (r.map Int.toNat)).map fun l => ⟨k, c.toNat, b.toNat⟩ :: l else none := rfl
    rw [e]
    have e2 : rowsOk (a :: b :: c :: r) = ((decide (a ≤ 2) && okOne b && okDeep c) && rowsOk r) := rfl
    rw [e2]
    have e3 : threes (a :: b :: c :: r) = (a, b, c) :: threes r := rfl
    rw [e3]
    by_cases ha : a ≤ 2
    · rw [kindAt_ok a0 ha, decide_eq_true ha, Bool.true_and, one_ok b b0, deep_ok c c0]
      simp only
      by_cases hb : okOne b = true ∧ okDeep c = true
      · rw [if_pos hb, hb.1, hb.2, Bool.true_and, Bool.true_and]
        refine ⟨fun q => by rw [ih.1 q]; rfl, fun q => ?_⟩
        obtain ⟨m, h1, h2⟩ := ih.2 q
        refine ⟨_, by rw [h1]; rfl, ?_⟩
        rw [h2, List.map_cons]
        congr 1
        unfold row3
        simp only
        rw [kno_kd a0 ha, Int.toNat_of_nonneg b0, Int.toNat_of_nonneg c0]
      · rw [if_neg hb]
        refine ⟨fun _ => rfl, fun q => ?_⟩
        simp only [Bool.and_eq_true] at q
        exact absurd q.1 hb
    · rw [kindAt_no ha, decide_eq_false ha]
      exact ⟨fun _ => rfl, fun q => by simp at q⟩
theorem fitAlong_all : ∀ (m : List Row) (W : Nat), fitAlong (m.map row3) W = allFit m W
  | [], W => by
    show decide ((W : Int) ≤ 512) = decide (W ≤ SIDE)
    exact decide_eq_decide.mpr (by unfold SIDE; omega)
  | r :: l, W => by
    show (fitsAlong (kno r.kind) r.long r.deep W && fitAlong (l.map row3) ((W : Int) + 2 * (r.deep : Int))) = (fitsWay r.kind r.long r.deep W && allFit l (W + 2 * r.deep))
    have e : (W : Int) + 2 * (r.deep : Int) = ((W + 2 * r.deep : Nat) : Int) := by omega
    rw [e, fitAlong_all l, ← fitsWay_ok (kind := kno r.kind) (by cases r.kind <;> decide) (by cases r.kind <;> decide), kd_kno]
theorem allFit_le : ∀ (m : List Row) (W : Nat), allFit m W = true → W ≤ 512
  | [], W, h => of_decide_eq_true h
  | r :: l, W, h => by
    have h : (fitsWay r.kind r.long r.deep W && allFit l (W + 2 * r.deep)) = true := h
    rw [Bool.and_eq_true] at h
    have := allFit_le l _ h.2
    omega
theorem find_map_range {n : Nat} {f : Nat → Int} {p : Int → Bool} : ((List.range n).map f).find? p = ((List.range n).find? fun i => p (f i)).map f := by
  rw [List.find?_map]
  rfl
theorem least_ok {m : List Row} {p W : Nat} (hp : 1 ≤ p) (hW : 1 ≤ W) :
    leastSide (m.map row3) p W = (match leastSize m p W with | some x => (x : Int) | none => 0) ∧ ∀ x, leastSize m p W = some x → 1 ≤ x := by
  have f1 : sideFirst p W = (((W + p - 1) / p * p : Nat) : Int) := by
    unfold sideFirst
    rw [Int.natCast_mul, Int.natCast_ediv]
    have : ((W + p - 1 : Nat) : Int) = (W : Int) + p - 1 := by omega
    rw [this]
  generalize hF : (W + p - 1) / p * p = F at f1
  have F1 : W ≤ F ∧ F < W + p ∧ F % p = 0 := by
    have q := Nat.div_add_mod (W + p - 1) p
    have r := Nat.mod_lt (W + p - 1) (show p > 0 by omega)
    rw [Nat.mul_comm] at q
    rw [hF] at q
    refine ⟨by omega, by omega, ?_⟩
    rw [← hF]
    exact Nat.mul_mod_left _ _
  have cnt : ∀ i : Nat, i < sideCount p W ↔ F + i * p ≤ 512 := by
    intro i
    unfold sideCount
    rw [f1]
    by_cases c : (F : Int) < 513
    · rw [if_pos c]
      have e : (513 - (F : Int) - 1) / p + 1 = (((512 - F) / p + 1 : Nat) : Int) := by
        have z : (513 - (F : Int) - 1) = ((512 - F : Nat) : Int) := by omega
        rw [z]
        simp
      rw [e, Int.toNat_natCast, Nat.lt_succ_iff, Nat.le_div_iff_mul_le (by omega)]
      omega
    · rw [if_neg c]
      have := Nat.zero_le (i * p)
      simp only [Int.toNat_zero, Nat.not_lt_zero, false_iff]
      omega
  have val : ∀ i : Nat, sideFirst p W + (i : Int) * p = ((F + i * p : Nat) : Int) := fun i => by rw [f1]; simp
  have fa : ∀ i : Nat, fitAlong (m.map row3) (sideFirst p W + (i : Int) * p) = allFit m (F + i * p) := fun i => by rw [val, fitAlong_all]
  have pos : ∀ x, leastSize m p W = some x → W ≤ x ∧ x % p = 0 ∧ allFit m x = true ∧ ∀ y, y < x → ¬ (W ≤ y ∧ y % p = 0 ∧ allFit m y = true) := by
    intro x hx
    unfold leastSize at hx
    rw [List.find?_range_eq_some] at hx
    obtain ⟨h1, h2, h3⟩ := hx
    simp only [Bool.and_eq_true, decide_eq_true_eq, beq_iff_eq] at h1
    refine ⟨h1.1, h1.2.1, h1.2.2, fun y hy q => ?_⟩
    have z := h3 y hy
    simp only [Bool.not_eq_true', Bool.and_eq_false_iff, decide_eq_false_iff_not, beq_eq_false_iff_ne] at z
    rcases z with z | z | z
    · exact z q.1
    · exact z q.2.1
    · rw [q.2.2] at z; cases z
  refine ⟨?_, fun x hx => by have := (pos x hx).1; omega⟩
  unfold leastSide
  rw [find_map_range]
  cases hx : leastSize m p W with
  | some x =>
    obtain ⟨h1, h2, h3, h4⟩ := pos x hx
    have lx := allFit_le m x h3
    -- x stands at a turn
    have hd : ∃ i, x = F + i * p := by
      have Fx : F ≤ x := by
        refine Classical.byContradiction fun c => ?_
        have c : x < F := by omega
        -- x and F are multiples of p less than p apart
        have a := Nat.div_add_mod F p
        have b := Nat.div_add_mod x p
        rw [F1.2.2] at a
        rw [h2] at b
        have : x / p < F / p := by
          refine Classical.byContradiction fun k => ?_
          have := Nat.mul_le_mul_left p (show F / p ≤ x / p by omega)
          omega
        have := Nat.mul_le_mul_left p (show x / p + 1 ≤ F / p by omega)
        rw [Nat.mul_add] at this
        omega
      refine ⟨(x - F) / p, ?_⟩
      have z : (x - F) % p = 0 := by
        have a : x = F + (x - F) := by omega
        have b := h2
        rw [a, Nat.add_mod, F1.2.2, Nat.zero_add, Nat.mod_mod] at b
        exact b
      have := Nat.div_add_mod (x - F) p
      rw [z, Nat.mul_comm] at this
      omega
    obtain ⟨i, rfl⟩ := hd
    have hf : (List.range (sideCount p W)).find? (fun (i : Nat) => fitAlong (m.map row3) (sideFirst p W + (i : Int) * p)) = some i := by
      rw [List.find?_range_eq_some]
      refine ⟨by rw [fa]; exact h3, List.mem_range.mpr ((cnt i).mpr lx), fun j hj => ?_⟩
      rw [fa]
      have lt : F + j * p < F + i * p := by
        have := Nat.mul_lt_mul_of_pos_right hj (show 0 < p by omega)
        omega
      have nz := h4 _ lt
      cases q : allFit m (F + j * p) with
      | false => rfl
      | true =>
        refine absurd ⟨?_, ?_, q⟩ nz
        · have := Nat.zero_le (j * p); omega
        · rw [Nat.add_mul_mod_self_right]; exact F1.2.2
    rw [hf]
    show (some (sideFirst p W + (i : Int) * p)).getD 0 = _
    rw [val]
    rfl
  | none =>
    have hf : (List.range (sideCount p W)).find? (fun (i : Nat) => fitAlong (m.map row3) (sideFirst p W + (i : Int) * p)) = none := by
      rw [List.find?_eq_none]
      intro i hi
      rw [fa]
      have li := (cnt i).mp (List.mem_range.mp hi)
      unfold leastSize at hx
      rw [List.find?_eq_none] at hx
      have z := hx (F + i * p) (List.mem_range.mpr (by unfold SIDE; omega))
      simp only [Bool.and_eq_true, decide_eq_true_eq, beq_iff_eq, not_and] at z
      refine z ?_ ?_
      · have := Nat.zero_le (i * p); omega
      · rw [Nat.add_mul_mod_self_right]; exact F1.2.2
    rw [hf]
    rfl
/-- law 7 -/
theorem sizes_law {p q W H : Int} {l : List Int} (p0 : 0 ≤ p) (q0 : 0 ≤ q) (W0 : 0 ≤ W) (H0 : 0 ≤ H) (l0 : ∀ x ∈ l, 0 ≤ x) : PyWqbbch.sizes p q W H l = sizesAns p q W H l := by
  show RugDNeutral.shown (if 3 * BORDERS < (l.map Int.toNat).length then MUCH else if one p.toNat = false ∨ one q.toNat = false ∨ one W.toNat = false ∨ one H.toNat = false then BAD else match rowsOf (l.map Int.toNat) with
      | none => BAD
      | some l => (match leastSize l p.toNat W.toNat, leastSize l q.toNat H.toNat with
        | some x, some y => tells 0 [x, y]
        | _, _ => NONE)) = _
  unfold sizesAns
  rw [List.length_map, one_ok p p0, one_ok q q0, one_ok W W0, one_ok H H0]
  by_cases h1 : 48 < l.length
  · rw [if_pos (show 3 * BORDERS < l.length from h1), if_pos h1]; rfl
  · rw [if_neg (show ¬ 3 * BORDERS < l.length from h1), if_neg h1]
    by_cases h2 : okOne p = false ∨ okOne q = false ∨ okOne W = false ∨ okOne H = false
    · rw [if_pos h2, if_pos (by simp only [Bool.and_eq_false_iff]; rcases h2 with h | h | h | h <;> simp [h])]; rfl
    · rw [if_neg h2]
      simp only [not_or, Bool.not_eq_false] at h2
      obtain ⟨a1, a2, a3, a4⟩ := h2
      rw [a1, a2, a3, a4]
      rw [if_neg (show ¬ ((true && true && true && true) = false) by decide)]
      have R := rowsOf_ok l l0
      cases h3 : rowsOk l with
      | false =>
        rw [R.1 h3, if_pos rfl]
        rfl
      | true =>
        obtain ⟨m, e1, e2⟩ := R.2 h3
        rw [e1, e2, if_neg (show ¬ (true = false) by decide)]
        unfold okOne at a1 a2 a3 a4
        simp only [Bool.and_eq_true, decide_eq_true_eq] at a1 a2 a3 a4
        have A := least_ok (m := m) (p := p.toNat) (W := W.toNat) (by omega) (by omega)
        have B := least_ok (m := m) (p := q.toNat) (W := H.toNat) (by omega) (by omega)
        rw [Int.toNat_of_nonneg p0, Int.toNat_of_nonneg W0] at A
        rw [Int.toNat_of_nonneg q0, Int.toNat_of_nonneg H0] at B
        rw [A.1, B.1]
        simp only
        cases ex : leastSize m p.toNat W.toNat with
        | none => rfl
        | some x =>
          have x1 := A.2 x ex
          cases ey : leastSize m q.toNat H.toNat with
          | none =>
            simp only
            rw [if_pos (.inr trivial)]
            rfl
          | some y =>
            have y1 := B.2 y ey
            simp only
            rw [if_neg (by omega), shown_tells]

/-! ### for the walk -/
theorem least_hit {bs : List (Int × Int × Int)} {p W : Int} {i : Nat} (hi : i < sideCount p W) (h0 : ∀ j : Nat, j < i → fitAlong bs (sideFirst p W + (j : Int) * p) = false) (h1 : fitAlong bs (sideFirst p W + (i : Int) * p) = true) :
    leastSide bs p W = sideFirst p W + (i : Int) * p := by
  unfold leastSide
  rw [find_map_range]
  have : (List.range (sideCount p W)).find? (fun (i : Nat) => fitAlong bs (sideFirst p W + (i : Int) * p)) = some i := by
    rw [List.find?_range_eq_some]
    refine ⟨h1, List.mem_range.mpr hi, fun j hj => ?_⟩
    rw [h0 j hj]
    rfl
  rw [this]
  rfl
theorem least_miss {bs : List (Int × Int × Int)} {p W : Int} (h0 : ∀ j : Nat, j < sideCount p W → fitAlong bs (sideFirst p W + (j : Int) * p) = false) : leastSide bs p W = 0 := by
  unfold leastSide
  rw [find_map_range]
  have : (List.range (sideCount p W)).find? (fun (i : Nat) => fitAlong bs (sideFirst p W + (i : Int) * p)) = none := by
    rw [List.find?_eq_none]
    intro i hi
    rw [h0 i (List.mem_range.mp hi)]
    exact Bool.false_ne_true
  rw [this]
  rfl
def okRow (a b c : Int) : Bool := decide (a ≤ 2) && okOne b && okDeep c
theorem rowsOk_cut : ∀ (l : List Int), l.length % 3 ≠ 0 → rowsOk l = false
  | [], h => absurd rfl h
  | [a], _ => rfl
  | [a, b], _ => rfl
  | a :: b :: c :: r, h => by
    have := rowsOk_cut r (by simp only [List.length_cons] at h; omega)
    show (_ && rowsOk r) = false
    rw [this, Bool.and_false]
theorem threes_len : ∀ (l : List Int), l.length % 3 = 0 → 3 * (threes l).length = l.length
  | [], _ => rfl
  | [a], h => by simp at h
  | [a, b], h => by simp at h
  | a :: b :: c :: r, h => by
    have := threes_len r (by simp only [List.length_cons] at h; omega)
    have e : threes (a :: b :: c :: r) = (a, b, c) :: threes r := rfl
    rw [e]
    simp only [List.length_cons]
    omega
/-- the i-th three -/
theorem threes_at : ∀ (l : List Int) (i : Nat) (t : Int × Int × Int), (threes l)[i]? = some t → (l.drop (3 * i)).take 3 = [t.1, t.2.1, t.2.2] ∧ l[3 * i]? = some t.1 ∧ l[3 * i + 1]? = some t.2.1 ∧ l[3 * i + 2]? = some t.2.2
  | [], i, t, h => by simp [threes] at h
  | [a], i, t, h => by simp [threes] at h
  | [a, b], i, t, h => by simp [threes] at h
  | a :: b :: c :: r, 0, t, h => by
    have e : threes (a :: b :: c :: r) = (a, b, c) :: threes r := rfl
    rw [e] at h
    have h : (a, b, c) = t := Option.some.inj h
    subst h
    exact ⟨rfl, rfl, rfl, rfl⟩
  | a :: b :: c :: r, i + 1, t, h => by
    have e : threes (a :: b :: c :: r) = (a, b, c) :: threes r := rfl
    rw [e] at h
    have h : (threes r)[i]? = some t := h
    have ih := threes_at r i t h
    have e1 : 3 * (i + 1) = 3 * i + 1 + 1 + 1 := by omega
    have e2 : 3 * i + 1 + 1 + 1 + 1 = 3 * i + 1 + 1 + 1 + 1 := rfl
    rw [e1]
    refine ⟨ih.1, ih.2.1, ?_, ?_⟩
    · show (a :: b :: c :: r)[3 * i + 1 + 1 + 1 + 1]? = _
      exact ih.2.2.1
    · show (a :: b :: c :: r)[3 * i + 1 + 1 + 1 + 2]? = _
      have e3 : 3 * i + 1 + 1 + 1 + 2 = (3 * i + 2) + 1 + 1 + 1 := by omega
      rw [e3]
      exact ih.2.2.2
theorem rowsOk_all : ∀ (l : List Int), l.length % 3 = 0 → rowsOk l = (threes l).all fun t => okRow t.1 t.2.1 t.2.2
  | [], _ => rfl
  | [a], h => by simp at h
  | [a, b], h => by simp at h
  | a :: b :: c :: r, h => by
    have ih := rowsOk_all r (by simp only [List.length_cons] at h; omega)
    show (okRow a b c && rowsOk r) = (okRow a b c && (threes r).all fun t => okRow t.1 t.2.1 t.2.2)
    rw [ih]
theorem rowsOk_one {l : List Int} (h : rowsOk l = true) : l.length % 3 = 0 ∧ ∀ b ∈ threes l, 1 ≤ b.2.1 := by
  have hl : l.length % 3 = 0 := Classical.byContradiction fun c => by
    rw [rowsOk_cut l c] at h
    cases h
  refine ⟨hl, fun b hb => ?_⟩
  rw [rowsOk_all l hl] at h
  have := List.all_eq_true.mp h b hb
  unfold okRow okOne at this
  simp only [Bool.and_eq_true, decide_eq_true_eq] at this
  exact this.1.2.1
theorem fitAlong_cons (r : Int × Int × Int) (l : List (Int × Int × Int)) (side : Int) : fitAlong (r :: l) side = (fitsAlong r.1 r.2.1 r.2.2 side && fitAlong l (side + 2 * r.2.2)) := rfl
end Rug

namespace PySem
namespace RefX
open PySem.W PySem.Calls PyProof.Rows PySem.HandSPX
/-! ### the text of __init__ -/
def iA (p1 p2 : Pos) : Arguments := { posonlyargs := [], args := [{ arg := "self", annotation := none, pos := p1 }, { arg := "code", annotation := none, pos := p2 }], vararg := none, kwonlyargs := [], kw_defaults := [], kwarg := none, defaults := [] }
def iB (q1 q2 q3 q4 : Pos) : List Stmt := [.Assign [.Attribute (.Name "self" q1) "code" q2] (.Name "code" q3) q4]
def iS : Scope := { kind := .function, names := [(PySem.Str.ofString "self", .local), (PySem.Str.ofString "code", .local)], isGenerator := false, isCoroutine := false, more := [] }
/-- what the written part says of Refused, at C, and of its __init__, at fI -/
structure RefTxt (K : Frag) (mg : Str → Option Value) (C fI : Addr) : Prop where
  gC : mg "Refused" = some (.ref C)
  cls : ∃ nm q N bs bm sn sub ab col dd k0 k1 k2 k3 k5, K.lookup C = some (excClassObj nm q C N bs bm true sn sub ab col dd k0 k1 k2 k3 k5 "ValueError.__new__") ∧ refsVE bm = true
  sa : findIn K (.ref C) "__setattr__" = some (some (.builtin "object.__setattr__"))
  ga : findIn K (.ref C) "__getattribute__" = some (some (.builtin "BaseException.__getattribute__"))
  gg : findIn K (.ref C) "__getattr__" = some none
  noN : findIn K (.ref C) "code" = some none
  iC : findIn K (.ref C) "__init__" = some (some (.ref fI))
  tC : typeIn K (.ref fI) = some (.type "function")
  kC : keepIn K (.ref C) = true
  exC : subIn K (.ref C) (.type "BaseException") = some true
  tyC : typeIn K (.ref C) = some (.type "type")
  hdC : hasDictIn K C = true
  te : exmOne K (.ref C) (.ref C) = some true
  fn : ∃ (oc : Value) (od : Option Addr) (doc pm : Value) (an : Option Addr) (cdv ct : Value) (osl : Array (Option Value)) (p1 p2 q1 q2 q3 q4 : Pos),
    K.lookup fI = some ⟨oc, od, .func (fnOf "__init__" "Refused.__init__" (iA p1 p2) (iB q1 q2 q3 q4) iS .none .none doc pm an cdv ct), osl⟩ ∧ codeIn K cdv "Refused.__init__" = true
theorem one_size (v : Value) : [v].length ≤ sizeLine := by
  rw [sizeLine_eq]
  exact (by decide : 1 ≤ 16777216)
theorem kept_but {K : Frag} {h h' : Heap} {x : Addr} (X : K.In h) (hx : K.lookup x = none) (k : ∀ b o, b ≠ x → h.get? b = some o → h'.get? b = some o) : K.In h' := fun a o e =>
  k a o (fun z => by rw [z, hx] at e; cases e) (X a o e)
theorem ldC {M : Model} {s : Shared} {name : Str} {scope : Scope} {L a : Addr} {cd : Value} {m : Str → Option Value} {x : Str} {pos : Pos} {v : Value} {Q : Value → Shared → Prop} {A : Around} {E : Value → Shared → Prop} (hn : s.heap.Ns L m) (hv : m x = some v) (h : Q v s)
    (hk : scope.kind = .function := by rfl) (hl : (envOfC name scope L a cd).kindOf x = some .local := by rfl) (hd : (x == ("__debug__" : Str)) = false := by decide) :
    wpAny M A (eval (.Name x pos) (envOfC name scope L a cd)) Q E s := wpAny_Name (wpAny_loadName_local hk hl hn hv h) hd
/-- what __init__ leaves of a fresh exception at x -/
structure InitEnd (h h' : Heap) (x C dx t1 : Addr) (v : Value) : Prop where
  keep : ∀ b o, b ≠ x → h.get? b = some o → h'.get? b = some o
  obj : h'.get? x = some { cls := .ref C, dict := some dx, data := .fields #[.ref t1, .none, .none, .none, .bool false, .none] }
  dbig : h.objs.size ≤ dx
  dne : dx ≠ x
  ns : h'.Ns1 dx (fun y => if y = "code" then some v else none)
/-- a made Refused -/
structure OwnMade (h h' : Heap) (e C d : Addr) (v : Value) : Prop where
  keep : ∀ b o, h.get? b = some o → h'.get? b = some o
  new : h.objs.size ≤ e
  obj : ∃ oe vs, h'.get? e = some oe ∧ oe.cls = .ref C ∧ oe.dict = some d ∧ oe.data = .fields vs ∧ vs[1]? = some .none
  dbig : h.objs.size ≤ d
  dne : d ≠ e
  ns : h'.Ns1 d (fun y => if y = "code" then some v else none)
section
variable {prog : Program} {w : World} {A : Around} {E : Value → Shared → Prop} {R : Result → Shared → Prop} {s : Shared} {K : Frag} {mg : Str → Option Value} {C fI : Addr}
theorem ref_init (T : RefTxt K mg C fI) {x t0 : Addr} {v : Value} (X : K.In s.heap) (hlim : s.heap.NoLimit) (hx : s.heap.get? x = some (excO C t0)) (hnx : K.lookup x = none) (hroom : A.depth < recursionLimit)
    (hq : ∀ h' tk dx, InitEnd s.heap h' x C dx t0 v → R (.ok (.ret .none)) { s with heap := h', toks := tk }) :
    codeAny (model prog w) A (.call (.ref fI) ⟨[.ref x, v], []⟩) R s := by
  obtain ⟨oc, od, doc, pm, an, cdv, ct, osl, p1, p2, q1, q2, q3, q4, ho, hcd⟩ := T.fn
  obtain ⟨nm, q, N, bs, bm, sn, sub, ab, col, dd, k0, k1, k2, k3, k5, hC, hbm⟩ := T.cls
  have hcl : clsIn K C = some { name := nm, bases := bs, mro := .ref C :: bm, ns := N, qualname := q, hasDict := true, slotNames := sn, subclasses := sub, abstract := ab, collection := col, hasDel := false } := by unfold clsIn; rw [hC] <;> rfl
  refine Att.call_fn (binds := [("self", .ref x), ("code", v)]) X hlim ho hcd hroom (BindsTo.of_eq (by first | rfl | with_unfolding_all rfl)) (by first | rfl | decide | with_unfolding_all rfl) (fun s₁ IC => ?_) rfl rfl rfl
  obtain ⟨h₁, tk₁, rfl⟩ := IC.toInCall.same
  have k : ∀ b o, s.heap.get? b = some o → h₁.get? b = some o := IC.toInCall.keep
  have hn := IC.toInCall.ns
  have hxL : s.heap.objs.size ≠ x := Nat.ne_of_gt (Heap.lt_size hx)
  have X₁ : K.In h₁ := X.keeps k
  have hx₁ := k _ _ hx
  -- self.by = by
  show wpAny _ _ (execs _ _) _ _ _
  refine wpAny_execs_cons (plainObj_wpAny_Assign_Attribute ?_)
  refine ldC (v := v) hn (by first | rfl | with_unfolding_all rfl | kernel_rfl) (ldC (v := .ref x) hn (by first | rfl | with_unfolding_all rfl | kernel_rfl) ?_)
  refine set_plain X₁ (ox := excO C t0) (od := none) ⟨hx₁, rfl, rfl, trivial⟩ T.sa ?_
  refine exc_osa X₁ hx₁ hcl (show refsVE (.ref C :: bm) = true from hbm) rfl T.noN (fun h₃ tk₃ dx k₃ dn dne hx₃ hn₃ => ?_)
  show wpAny _ _ (execs _ _) _ _ _
  have z : s.heap.objs.size < h₁.objs.size := hn.lt
  exact wpAny_execs_nil (hq h₃ tk₃ dx ⟨fun b o hb e => k₃ b o hb (k b o e), hx₃, Nat.le_of_lt (Nat.lt_of_lt_of_le z dn), dne, hn₃⟩)
theorem ref_made (T : RefTxt K mg C fI) {v : Value} (X : K.In s.heap) (hlim : s.heap.NoLimit) (hroom : A.depth + 1 < recursionLimit)
    (hq : ∀ h' tk e d, OwnMade s.heap h' e C d v → R (.ok (.ret (.ref e))) { s with heap := h', toks := tk }) :
    codeAny (model prog w) A (.call (.ref C) ⟨[v], []⟩) R s := by
  obtain ⟨nm, q, N, bs, bm, sn, sub, ab, col, dd, k0, k1, k2, k3, k5, hC, hbm⟩ := T.cls
  obtain ⟨hp, g, dr, tk, os⟩ := s
  have k : ∀ b o, hp.get? b = some o → ((hp.push (kdv_tup [v])).push (excO C hp.objs.size)).get? b = some o := fun b o e => Heap.get?_push_of_some _ (Heap.get?_push_of_some _ e)
  have hget : ((hp.push (kdv_tup [v])).push (excO C hp.objs.size)).get? (hp.objs.size + 1) = some (excO C hp.objs.size) := by heap_get
  have hnx : K.lookup (hp.objs.size + 1) = none := by
    cases e : K.lookup (hp.objs.size + 1) with
    | none => rfl
    | some o =>
      have z : hp.get? (hp.objs.size + 1) = some o := X _ _ e
      exact absurd (Nat.lt_of_succ_lt (Heap.lt_size z)) (Nat.lt_irrefl _)
  refine call_own F.excBase_ValueError (fun X => refsVE_contains X bm hbm) (X _ _ hC) (looks_findIn X T.iC) (fun self => bind_fn X self T.tC) (one_size v) ?_
  refine ref_init (s := ⟨(hp.push (kdv_tup [v])).push (excO C hp.objs.size), g, dr, tk, os⟩) T (X.keeps k) (hlim.keeps k) hget hnx ?_ fun h' tk' dx ⟨k', hx, dn, dne, hns⟩ => ?_
  · show A.depth + 1 < recursionLimit
    exact hroom
  · have old : ∀ b o, hp.get? b = some o → h'.get? b = some o := fun b o e => k' b o (Nat.ne_of_lt (Nat.lt_succ_of_lt (Heap.lt_size e))) (k b o e)
    have z : hp.objs.size + 1 + 1 ≤ dx := by
      first
        | (simpa only [Heap.size_push] using dn)
        | exact dn
        | (have q := dn; rw [Heap.size_push, Heap.size_push] at q; exact q)
    exact ⟨rfl, hq h' tk' (hp.objs.size + 1) dx ⟨old, Nat.le_succ _, ⟨_, _, hx, rfl, rfl, rfl, rfl⟩, Nat.le_trans (Nat.le_trans (Nat.le_succ _) (Nat.le_succ _)) z, dne, hns⟩⟩
end
end RefX
end PySem
namespace L2
open PySem PySem.Spec PyProof.Rows
theorem relO_ref {v : V} {v' : Value} (r : RelV v v') (f : Str) : RelO (List.lookup f [(("code" : Str), v)]) (if f = "code" then some v' else none) := by
  by_cases hw : f = "code"
  · subst hw
    rw [if_pos rfl]
    have q : List.lookup ("code" : Str) [(("code" : Str), v)] = some v := by simp [List.lookup]
    rw [q]
    exact r
  · rw [if_neg hw]
    have qw : (f == ("code" : Str)) = false := by simpa using hw
    have q2 : List.lookup f [(("code" : Str), v)] = none := by simp [List.lookup, qw]
    rw [q2]
    trivial
section
variable {X : Cx} {C fI : Addr}
/-- Refused(e) -/
def tMkRef (C : Addr) (ta : TA) : St → Hp → XK → Prop := fun σ H Q => ta σ H fun vs H1 => ∃ v, vs = [v] ∧ ∀ d, H1 d = none → Q (.ref C) (some d) (upd H1 d (.xd [(("code" : Str), v)]))
theorem pmk_ref {a : Expr} {ta : TA} {p pos : Pos} {k : Nat} (T : PySem.RefX.RefTxt X.K X.mg C fI) (hr : Room k X.A) (ha : PA X [a] ta) (hg : Gl X "Refused" := by rfl)
    (he : starEach (a :: []) X.env = (false, eval a X.env) :: starEach [] X.env := by rfl) (hpl : (backTo pos (starEach [] X.env)).any (·.1) = false := by rfl) :
    PMk X (.Call (.Name "Refused" p) [a] [] pos) (tMkRef C ta) := by
  intro pins s σ H Q I h
  refine wpAny_Call_Name_kw (ld_glob I hg T.gC ?_)
  refine PySem.W.callWith_K (h₀ := X.base) I.ok.mod.kin T.kC (thn (ha.run pos pins s σ H _ I h) fun us s1 hh => ?_) he hpl
  obtain ⟨vs, H1, I1, r1, v, ev, q1⟩ := hh
  subst ev
  refine ⟨I1.kIn, ?_⟩
  cases r1 with
  | cons rv rn =>
    rename_i v' us'
    cases rn
    show wpAny _ _ (call (.ref C) [v']) _ _ _
    have hlim := I1.nolimit
    obtain ⟨hp, g, dr, tk, os⟩ := s1
    refine wpAny_call (PySem.RefX.ref_made T I1.kIn hlim (by have := hr.dp; omega) fun h' tk' e d M => ?_)
    show MkP X pins σ Q (.ref e) ⟨h', g, dr, tk', os⟩
    obtain ⟨oe, fv, hoe, hc, hd, hdat, h1⟩ := M.obj
    have hns := M.ns
    obtain ⟨G', g1, g2⟩ := restrict h' fun b => decide (b ≠ e)
    have gk : ∀ b, b ≠ e → G'.get? b = h'.get? b := fun b hb => g1 b (decide_eq_true hb)
    have ge : G'.get? e = none := g2 e (by simp)
    have old : ∀ b o, hp.get? b = some o → G'.get? b = some o := fun b o q => (gk b (Nat.ne_of_lt (Nat.lt_of_lt_of_le (Heap.lt_size q) M.new))).trans (M.keep b o q)
    have ob : ObjOk X.prog X.w (upd H1 d (.xd [(("code" : Str), v)])) G' d (.xd [(("code" : Str), v)]) :=
      ⟨_, hns.at (fun o q => (gk d M.dne).trans q), fun f => relO_ref rv f⟩
    have J : Inv X pins σ (upd H1 d (.xd [(("code" : Str), v)])) ⟨G', g, dr, tk', os⟩ := I1.laid (t' := tk') old M.dbig ob
    refine ⟨e, oe, fv, ⟨G', g, dr, tk', os⟩, _, .ref C, some d, rfl, J, fun b o q => ?_, ge, hoe, ⟨hc, hd⟩, hdat, h1, ?_, rfl, I1.bare, raises_own T.exC T.tyC, q1 d (I1.hok.fresh M.dbig)⟩
    · by_cases hb : b = e
      · have q' : G'.get? b = some o := q
        rw [hb, ge] at q'; cases q'
      · exact (gk b hb).symm.trans q
    · rw [upd_ne (Ne.symm M.dne)]
      exact I1.hok.fresh M.new
/-- raise Refused(e) -/
def tRaiseRef (C : Addr) (W : WX) (ta : TA) : TS := fun _ σ H => tMkRef C ta σ H fun cls d H' => W cls d σ H'
theorem ps_raiseRef {a : Expr} {ta : TA} {W : WX} {p pos pos2 : Pos} {k : Nat} (hc : X.calm = true) (T : PySem.RefX.RefTxt X.K X.mg C fI) (hr : Room k X.A) (tk : Takes X W) (ha : PA X [a] ta) (hg : Gl X "Refused" := by rfl)
    (he : starEach (a :: []) X.env = (false, eval a X.env) :: starEach [] X.env := by rfl) (hpl : (backTo pos (starEach [] X.env)).any (·.1) = false := by rfl) :
    PS X (.Raise (some (.Call (.Name "Refused" p) [a] [] pos)) none pos2) (tRaiseRef C W ta) := ps_raise hc tk (pmk_ref T hr ha hg he hpl)
/-- refusal.code, the exception that the suite holds (at a; its class cls, its dict d) -/
def tByRef (C : Addr) (a : Addr) (cls : Value) (d : Option Addr) (te : TE) : TE := fun σ H Q => te σ H fun x H1 => x = .ref a ∧ cls = .ref C ∧ ∃ (dd : Addr) (v : V), d = some dd ∧ H1 dd = some (.xd [(("code" : Str), v)]) ∧ Q v H1
theorem pe_byRef {a : Addr} {oe : Obj} {cls : Value} {d : Option Addr} {pn : List (Addr × Obj)} {e : Expr} {te : TE} {pos : Pos} (T : PySem.RefX.RefTxt X.K X.mg C fI) (hz : Zc cls d oe) (hf : ∃ vs, oe.data = .fields vs) (he : PE (X.suite a ((a, oe) :: pn)) e te)
    (hb : attributeBase e "code" X.env (eval e X.env) = eval e X.env := by rfl) :
    PE (X.suite a ((a, oe) :: pn)) (.Attribute e "code" pos) (tByRef C a cls d te) := by
  refine ⟨fun pins s σ H Q I h => ?_⟩
  refine attr_of hb (thn (he.run pins s σ H _ I h) fun u s1 hh => ?_)
  obtain ⟨x, H1, I1, rx, ex, ec, dd, v, ed, ea, q⟩ := hh
  subst ex
  obtain rfl : u = Value.ref a := rx
  subst ec
  subst ed
  obtain ⟨ha, _⟩ := I1.pin (a, oe) (List.mem_append_left _ List.mem_cons_self)
  obtain ⟨vs, hd⟩ := hf
  have hx : ObjOk X.prog X.w H1 s1.heap dd (.xd [(("code" : Str), v)]) := I1.hok dd _ ea
  obtain ⟨mA, hns, hr⟩ := hx
  obtain ⟨od, ho, hl⟩ := lookIn_ns hns
  have l : List.lookup ("code" : Str) [(("code" : Str), v)] = some v := by simp [List.lookup]
  obtain ⟨u, hu, ru⟩ := RelO.some_of (v := v) (o := mA "code") (by rw [← l]; exact hr "code")
  have J : PySem.W.InstAt s1.heap a oe C (some od) := ⟨ha, hz.1, by unfold PySem.W.notCls; rw [hd] <;> rfl, by rw [hz.2]; exact ho⟩
  exact HandSPX.exc_get I1.kIn J T.ga T.gg T.exC (PySem.W.findObj_own T.hdC T.noN rfl (by rw [hl, hu])) (handed_of ru) ⟨v, H1, I1.tok _, ru, q⟩
end
end L2

namespace L2
open PySem PySem.Spec PyProof.Rows
/-- an if whose test is known -/
theorem if_true_of {c : Bool} {A B : Prop} (hc : c = true) (h : A) : if c = true then A else B := by
  rw [if_pos hc]
  exact h
theorem if_false_of {c : Bool} {A B : Prop} (hc : c = false) (h : B) : if c = true then A else B := by
  rw [hc, if_neg Bool.false_ne_true]
  exact h
end L2
namespace RugW
open PySem PySem.Spec PyProof.Rows L2
open PySem.W (Codec)
/-! ### words of this proof -/
/-- a module's constant that is a whole number -/
theorem pe_gint {X : Cx} {x : Str} {n : Int} {pos : Pos} (hg : Gl X x) (hm : ∃ t, X.mg x = some (.int n t)) (hd : (x == ("__debug__" : Str)) = false := by decide) : PE X (.Name x pos) (tC (.int n)) := by
  obtain ⟨t, e⟩ := hm
  exact pe_glob hg e ⟨t, rfl⟩ hd
/-- a def of the text, by its name, with its promise -/
structure Df (P : Program) (w : World) (K : PySem.W.Frag) (mg : Str → Option Value) (base : Heap) (CX : CXT) (k : Nat) (x : Str) (ps : List Str) (sp : Sp) : Prop where
  ex : ∃ (f : Addr) (fd : FuncData), mg x = some (.ref f) ∧ PySem.W.keepIn K (.ref f) = true ∧ Binds K fd ps [] ∧ FnOk P w K mg base CX k f fd ps sp
/-- a def of the text, as it stands behind the top -/
structure Fd (K : PySem.W.Frag) (mg : Str → Option Value) (x : Str) (st : Stmt) : Prop where
  ex : ∃ (f : Addr) (fd : FuncData), mg x = some (.ref f) ∧ Fun K x x st f fd
theorem Fd.mk' {K : PySem.W.Frag} {mg : Str → Option Value} {x : Str} {st : Stmt} {f : Addr} {fd : FuncData} (h1 : mg x = some (.ref f)) (h2 : Fun K x x st f fd) : Fd K mg x st := ⟨f, fd, h1, h2⟩
section
variable {X : Cx} {k : Nat} {x : Str} {ps : List Str} {sp : Sp} {p pos : Pos} {e : Expr} {es : List Expr} {t : TA}
/-- a call of a def that lets nothing out -/
theorem pe_df (D : Df X.prog X.w X.K X.mg X.base CX0 k x ps sp) (hr : Room k X.A) (hg : Gl X x) (ha : PA X (e :: es) t) (hdb : (x == ("__debug__" : Str)) = false := by decide)
    (he : starEach (e :: es) X.env = (false, eval e X.env) :: starEach es X.env := by rfl) (hpl : (backTo pos (starEach es X.env)).any (·.1) = false := by rfl) : PE X (.Call (.Name x p) (e :: es) [] pos) (tCallS sp (fun _ => E0) t) := by
  obtain ⟨f, fd, h1, h2, h3, h4⟩ := D.ex
  exact pe_callS h4 hr hg h1 h2 h3 (fun _ _ _ _ _ _ _ h => (h : False).elim) ha hdb he hpl
/-- a call of a def that may raise, its errors wished for at the slots as they stand -/
theorem pe_dfS {W : WX} (D : Df X.prog X.w X.K X.mg X.base (L2.CX X.prog X.w) k x ps sp) (hr : Room k X.A) (hg : Gl X x) (tk : Takes X W) (ha : PA X (e :: es) t) (hdb : (x == ("__debug__" : Str)) = false := by decide)
    (he : starEach (e :: es) X.env = (false, eval e X.env) :: starEach es X.env := by rfl) (hpl : (backTo pos (starEach es X.env)).any (·.1) = false := by rfl) : PE X (.Call (.Name x p) (e :: es) [] pos) (tCallS sp (WE W) t) := by
  obtain ⟨f, fd, h1, h2, h3, h4⟩ := D.ex
  exact pe_callS h4 hr hg h1 h2 h3 (fun σ => passAt tk σ) ha hdb he hpl
end
theorem iteD {p A B : Prop} [Decidable p] (h1 : p → A) (h2 : ¬ p → B) : if decide p = true then A else B := by
  by_cases h : p
  · rw [if_pos (decide_eq_true h)]
    exact h1 h
  · rw [if_neg (by rw [decide_eq_false h]; exact Bool.false_ne_true)]
    exact h2 h
theorem iteND {p A B : Prop} [Decidable p] (h1 : ¬ p → A) (h2 : p → B) : if (!decide p) = true then A else B := by
  by_cases h : p
  · rw [if_neg (by rw [decide_eq_true h]; exact Bool.false_ne_true)]
    exact h2 h
  · rw [if_pos (by rw [decide_eq_false h]; rfl)]
    exact h1 h
theorem iteB {b : Bool} {A B : Prop} (h1 : b = true → A) (h2 : b = false → B) : if b = true then A else B := by
  cases b with
  | true => exact iteT (h1 rfl)
  | false => exact iteF (h2 rfl)
/-! ### heaps -/
theorem same_upd {H : Hp} {p : Addr} {o : HO} (h : H p = none) : Same H (upd H p o) := fun b u e => by rw [upd_ne (ne_of_none e h)]; exact e
theorem Same.seqT {K : PySem.W.Frag} {H H' : Hp} {a : Addr} {xs : List V} (e : Same H H') (h : SqT K H a xs) : SqT K H' a xs := by
  rcases h with (h | ⟨o, h⟩) | h
  · exact .inl (.inl (e _ _ h))
  · exact .inl (.inr ⟨o, e _ _ h⟩)
  · exact .inr h
/-- an error of the class at C with code z leaves -/
def Rz (C : Addr) (z : Int) (H : Hp) (E : XK) : Prop := ∀ (H' : Hp) (d : Addr), Same H H' → H' d = some (.xd [(("code" : Str), .int z)]) → E (.ref C) (some d) H'
theorem Rz.same {C : Addr} {z : Int} {H H1 : Hp} {E : XK} (h : Rz C z H E) (s : Same H H1) : Rz C z H1 E := fun H' d s' e => h H' d (s.trans s') e
theorem Rz.new {C : Addr} {z : Int} {H : Hp} {E : XK} (h : Rz C z H E) : ∀ d : Addr, H d = none → E (.ref C) (some d) (upd H d (.xd [(("code" : Str), .int z)])) := fun _ hd => h _ _ (same_upd hd) upd_same
theorem take_more {α : Type} {l : List α} {i : Nat} {x : α} (h : l[i]? = some x) : l.take (i + 1) = l.take i ++ [x] := by
  rw [List.take_add_one, h]
  rfl
theorem get_map {α β : Type} {f : α → β} {l : List α} {i : Nat} {y : β} (h : (l.map f)[i]? = some y) : ∃ x, l[i]? = some x ∧ y = f x := by
  rw [List.getElem?_map] at h
  obtain ⟨x, h1, h2⟩ := Option.map_eq_some_iff.mp h
  exact ⟨x, h1, h2.symm⟩
/-! ### fields -/
theorem lk_here {k : Str} {v : V} {r : List (Str × V)} : List.lookup k ((k, v) :: r) = some v := by
  have e : (k == k) = true := beq_self_eq_true k
  simp only [List.lookup, e]
theorem lk_past {k g : Str} {v : V} {r : List (Str × V)} (h : (k == g) = false) : List.lookup k ((g, v) :: r) = List.lookup k r := by
  simp only [List.lookup, h]
theorem put_past {f g : Str} {v x : V} {r : List (Str × V)} (h : ¬ g = f) : putF f v ((g, x) :: r) = (g, x) :: putF f v r := if_neg h
/-- an error of the class at S is what «except S» names -/
theorem exm_self {K : PySem.W.Frag} {S : Addr} (h1 : PySem.W.subIn K (.ref S) (.type "BaseException") = some true) (h2 : PySem.W.isClsIn K S = true) (h3 : PySem.W.typeIn K (.ref S) = some (.type "type")) (h4 : PySem.W.subIn K (.ref S) (.ref S) = some true) :
    PySem.W.exmOne K (.ref S) (.ref S) = some true := by
  have e1 : (PySem.W.subIn K (.ref S) (.type "BaseException") == some true) = true := by rw [h1] <;> rfl
  have e2 : ((PySem.W.clsIn K S).isSome && PySem.W.typeIn K (.ref S) == some (.type "type")) = true := by
    have h2' : (PySem.W.clsIn K S).isSome = true := h2
    rw [h2', h3] <;> rfl
  show (if (PySem.W.subIn K (.ref S) (.type "BaseException") == some true) = true then (if ((PySem.W.clsIn K S).isSome && PySem.W.typeIn K (.ref S) == some (.type "type")) = true then PySem.W.subIn K (.ref S) (.ref S) else none) else none) = some true
  rw [if_pos e1, if_pos e2]
  exact h4
end RugW
namespace RugW
open PySem PySem.Spec PyProof.Rows L2 Evl
/-! ### what evaluates to what -/
/-- three whole numbers as a tuple's items -/
def tri (t : Int × Int × Int) : List V := [.int t.1, .int t.2.1, .int t.2.2]
/-- a new tuple of the promise's values -/
def RetU (xs : List V) (H : Hp) (Q : VK) : Prop := ∀ p H2, H p = none → Ex H H2 → H2 p = some (.tup xs) → Q (.ref p) H2
theorem RetU.go {xs ys : List V} {H H' H2 : Hp} {Q : VK} {p : Addr} (k : RetU xs H Q) (e : Ex H H') (hp : H' p = none) (e2 : Ex H' H2) (h : H2 p = some (.tup ys)) (q : ys = xs) : Q (.ref p) H2 := k p H2 (fresh_back e hp) (e.trans e2) (by rw [h, q])
theorem RetL.go' {xs ys : List V} {H H' H2 : Hp} {Q : VK} {p : Addr} (k : RetL xs H Q) (e : Ex H H') (hp : H' p = none) (e2 : Ex H' H2) (h : H2 p = some (.lst ys)) (q : ys = xs) : Q (.ref p) H2 := k p H2 (fresh_back e hp) (e.trans e2) (by rw [h, q])
def SpU (sp : Sp) (vs : List V) (H : Hp) (xs : List V) : Prop := ∀ H1, Ex H H1 → ∀ Q : VK, (∀ p H2, H1 p = none → Ex H1 H2 → H2 p = some (.tup xs) → Q (.ref p) H2) → ∀ E : XK, sp vs H1 Q E
section
variable {K : PySem.W.Frag} {σ : L2.St} {H : Hp} {ta tb te : TE} {t : TA} {x y v : V}
theorem ev_fld {a B dx : Addr} {fs : List (Str × V)} {f : Str} (h : Ev te σ H (.ref a)) (hb : H a = some (.ins B dx fs)) (cl : Cls K B) (na : NoAttr K B f) (lk : fs.lookup f = some v) : Ev (tFld K te f) σ H v := fun H1 e _ q =>
  h H1 e _ fun H2 e2 => ⟨a, B, dx, fs, v, rfl, e2 _ _ (e _ _ hb), cl, na, lk, q H2 e2⟩
theorem ev_cmp {p : Int → Int → Bool} {i j : Int} (ha : Ev ta σ H (.int i)) (hb : Ev tb σ H (.int j)) : Ev (tCmp p ta tb) σ H (.bl (p i j)) := fun H1 e _ q =>
  ha H1 e _ fun H2 e2 => hb H2 (e.trans e2) _ fun H3 e3 => ⟨i, j, rfl, rfl, q H3 (e2.trans e3)⟩
theorem ev_min2 {i j : Int} (h : EvA t σ H [.int i, .int j]) : Ev (tCB (fun xs H Q => ∃ i j, xs = [.int i, .int j] ∧ Q (.int (if j < i then j else i)) H) t) σ H (.int (min i j)) := fun H1 e _ q =>
  h H1 e _ fun H2 e2 => ⟨i, j, rfl, by
    have z : (if j < i then j else i) = min i j := by omega
    rw [z]
    exact q H2 e2⟩
theorem ev_max2' {i j : Int} (h : EvA t σ H [.int i, .int j]) : Ev (tCB (fun xs H Q => ∃ i j, xs = [.int i, .int j] ∧ Q (.int (if j > i then j else i)) H) t) σ H (.int (max i j)) := fun H1 e _ q =>
  h H1 e _ fun H2 e2 => ⟨i, j, rfl, by
    have z : (if j > i then j else i) = max i j := by omega
    rw [z]
    exact q H2 e2⟩
/-- a call of a def that hands back a value, a new list, a new tuple -/
theorem ev_df {sp : Sp} {vs : List V} {E : L2.St → XK} (h : EvA t σ H vs) (hs : ∀ H1, Ex H H1 → ∀ (Q : VK) (E : XK), RetV v H1 Q → sp vs H1 Q E) : Ev (tCallS sp E t) σ H v := fun H1 e _ q =>
  h H1 e _ fun H2 e2 => hs H2 (e.trans e2) _ _ fun H3 e3 => q H3 (e2.trans e3)
theorem eu_df {sp : Sp} {vs xs : List V} {E : L2.St → XK} (h : EvA t σ H vs) (hs : ∀ H1, Ex H H1 → ∀ (Q : VK) (E : XK), RetU xs H1 Q → sp vs H1 Q E) : EvU (tCallS sp E t) σ H xs := fun H1 e _ q =>
  h H1 e _ fun H2 e2 => hs H2 (e.trans e2) _ _ fun p H3 hp e3 h3 => q p H3 (fresh_back e2 hp) (e2.trans e3) h3
theorem el_df {sp : Sp} {vs xs : List V} {E : L2.St → XK} (h : EvA t σ H vs) (hs : ∀ H1, Ex H H1 → ∀ (Q : VK) (E : XK), RetL xs H1 Q → sp vs H1 Q E) : EvL (tCallS sp E t) σ H xs := fun H1 e _ q =>
  h H1 e _ fun H2 e2 => hs H2 (e.trans e2) _ _ fun p H3 hp e3 h3 => q p H3 (fresh_back e2 hp) (e2.trans e3) h3
/-- a method that hands back a new tuple -/
theorem eu_meth {C a dx : Addr} {fs : List (Str × V)} {m : Str} {sp : Sp} {E : XK} {vs xs : List V} (ho : Ev te σ H (.ref a)) (hb : H a = some (.ins C dx fs)) (lk : fs.lookup m = none) (h : EvA t σ H vs)
    (hs : ∀ H1, Ex H H1 → ∀ (Q : VK) (E : XK), RetU xs H1 Q → sp (.ref a :: vs) H1 Q E) : EvU (tMeth C m sp [] E te t) σ H xs := fun H1 e _ q =>
  ho H1 e _ fun H2 e2 => ⟨a, dx, fs, rfl, e2 _ _ (e _ _ hb), lk, h H2 (e.trans e2) _ fun H3 e3 => by
    have z := hs H3 ((e.trans e2).trans e3) _ E fun p H4 hp e4 h4 => q p H4 (fresh_back (e2.trans e3) hp) ((e2.trans e3).trans e4) h4
    rw [List.append_nil]
    exact z⟩
/-- a chain of two comparisons -/
theorem ev_chain {r r' : R2} {a b : Bool} {z w : V} (tc : TE) (ha : Ev ta σ H x) (hb : Ev tb σ H y) (hr : RV r x y H (.bl a)) (hc : Ev tc σ H z) (hr' : a = true → RV r' y z H (.bl b)) (hw : w = .bl (a && b)) : Ev (tChain r r' ta tb tc) σ H w := fun H1 e Q q =>
  ha H1 e _ fun H2 e2 => hb H2 (e.trans e2) _ fun H3 e3 => hr H3 ((e.trans e2).trans e3) _ fun H4 e4 => ⟨a, rfl, by
    subst hw
    cases a with
    | true => exact hc H4 (((e.trans e2).trans e3).trans e4) _ fun H5 e5 => hr' rfl H5 ((((e.trans e2).trans e3).trans e4).trans e5) _ fun H6 e6 => q H6 ((((e2.trans e3).trans e4).trans e5).trans e6)
    | false => exact q H4 ((e2.trans e3).trans e4)⟩
end
/-- a range with a step -/
theorem rgC_of {a b c : Int} (ha : 0 ≤ a) (ha2 : a ≤ 1000000) (hb : 0 ≤ b) (hb2 : b ≤ 1000000) (hc : 1 ≤ c) (hc2 : c ≤ 1000000) : RgC a b c (if a < b then (b - a - 1) / c + 1 else 0).toNat := by
  have e : Builtin.Range.rangeSize a b c = if a < b then (b - a - 1) / c + 1 else 0 := by
    unfold Builtin.Range.rangeSize
    rw [if_pos (by omega)]
  have hn : 0 ≤ (if a < b then (b - a - 1) / c + 1 else 0) ∧ (if a < b then (b - a - 1) / c + 1 else 0) ≤ 2000000 := by
    by_cases q : a < b
    · rw [if_pos q]
      have h1 : 0 ≤ (b - a - 1) / c := Int.ediv_nonneg (by omega) (by omega)
      have h2 : (b - a - 1) / c ≤ b - a - 1 := Int.ediv_le_self _ (by omega)
      omega
    · rw [if_neg q]
      omega
  refine ⟨by omega, by omega, ?_, by rw [e]; omega⟩
  unfold Builtin.Range.small
  rw [e]
  generalize (if a < b then (b - a - 1) / c + 1 else 0) = n at hn
  simp only [Builtin.Range.rangeFitsLong, Bool.and_eq_true, Bool.or_eq_true, decide_eq_true_eq, beq_iff_eq, if_pos (show c > 0 by omega)]
  omega
/-- a comprehension over a range with a step -/
theorem lc_step {lo c : Int} {n : Nat} {g : TG} {tt : TT} {te : TE} {vs : List Nat} {σ : L2.St} {H1 : Hp} {D : Addr} {Qd : Hp → Prop} (Pv : Nat → Hp → Prop) (start : Pv 0 (upd H1 D (.lst [])))
    (turn : ∀ (i : Nat) H, i < n → Pv i H → g (.int (lo + (i : Nat) * c)) (wipe σ vs) H fun σ2 H2 => wipe σ2 vs = wipe σ vs ∧ tt σ2 H2 fun b H3 =>
      if b = true then te σ2 H3 fun y H4 => ∃ acc, H4 D = some (.lst acc) ∧ acc.length < sizeLine ∧ Pv (i + 1) (upd H4 D (.lst (acc ++ [y]))) else Pv (i + 1) H3) (done : ∀ H, Pv n H → Qd H) :
    ∃ W : Nat → Nat → Hp → Prop, (∃ m, W 0 m (upd H1 D (.lst []))) ∧ ∀ i m H, W i m H →
      ((Itc lo c n).stop i H ∧ Qd H) ∨ ((Itc lo c n).go i H ∧ ∃ Nx : Hp → Prop, (∀ H', Nx H' → ∃ m', m' < m ∧ W (i + 1) m' H') ∧ ∀ x H', (Itc lo c n).yld i H x H' → g x (wipe σ vs) H' fun σ2 H2 => wipe σ2 vs = wipe σ vs ∧ tt σ2 H2 fun b H3 =>
        if b = true then te σ2 H3 fun y H4 => ∃ acc, H4 D = some (.lst acc) ∧ acc.length < sizeLine ∧ Nx (upd H4 D (.lst (acc ++ [y]))) else Nx H3) := by
  refine ⟨fun i m H => i ≤ n ∧ m + i = n ∧ Pv i H, ⟨n, Nat.zero_le _, rfl, start⟩, fun i m H w => ?_⟩
  obtain ⟨w1, w2, w3⟩ := w
  rcases Nat.lt_or_ge i n with lt | ge
  · refine Or.inr ⟨lt, Pv (i + 1), fun H' p' => ⟨m - 1, by omega, lt, by omega, p'⟩, fun x H' y => ?_⟩
    obtain ⟨y1, y2⟩ := y
    rw [y1, y2]
    exact turn i H lt w3
  · have z : i = n := Nat.le_antisymm w1 ge
    rw [z] at w3
    exact Or.inl ⟨ge, done H w3⟩
/-- tuples of three whole numbers each, at their places -/
def TupsAt (H : Hp) (ps : List Addr) (bs : List (Int × Int × Int)) : Prop := ps.length = bs.length ∧ ∀ (i : Nat) (p : Addr) (b : Int × Int × Int), ps[i]? = some p → bs[i]? = some b → H p = some (.tup (tri b))
def RingsAt (H : Hp) (a : Addr) (bs : List (Int × Int × Int)) : Prop := ∃ ps : List Addr, H a = some (.lst (ps.map V.ref)) ∧ TupsAt H ps bs
theorem TupsAt.ex {H H' : Hp} {ps : List Addr} {bs : List (Int × Int × Int)} (h : TupsAt H ps bs) (e : Ex H H') : TupsAt H' ps bs := ⟨h.1, fun i p b h1 h2 => e _ _ (h.2 i p b h1 h2)⟩
theorem RingsAt.ex {H H' : Hp} {a : Addr} {bs : List (Int × Int × Int)} (h : RingsAt H a bs) (e : Ex H H') : RingsAt H' a bs := let ⟨ps, h1, h2⟩ := h; ⟨ps, e _ _ h1, h2.ex e⟩
theorem TupsAt.snoc {H : Hp} {ps : List Addr} {bs : List (Int × Int × Int)} {p : Addr} {b : Int × Int × Int} (h : TupsAt H ps bs) (hp : H p = some (.tup (tri b))) : TupsAt H (ps ++ [p]) (bs ++ [b]) := by
  refine ⟨by rw [List.length_append, List.length_append, h.1]; rfl, fun i q c h1 h2 => ?_⟩
  rcases Nat.lt_or_ge i ps.length with lt | ge
  · rw [List.getElem?_append_left lt] at h1
    rw [List.getElem?_append_left (by rw [← h.1]; exact lt)] at h2
    exact h.2 i q c h1 h2
  · rw [List.getElem?_append_right ge] at h1
    rw [List.getElem?_append_right (by rw [← h.1]; exact ge)] at h2
    have z : i - ps.length = 0 := by
      have := (List.getElem?_eq_some_iff.mp h1).1
      simp only [List.length_cons, List.length_nil] at this
      omega
    rw [z] at h1
    rw [show i - bs.length = 0 by rw [← h.1]; exact z] at h2
    have h1 : p = q := Option.some.inj h1
    have h2 : b = c := Option.some.inj h2
    rw [← h1, ← h2]
    exact hp
end RugW
namespace RugW
open PySem PySem.Spec PyProof.Rows L2 Evl
open PySem.W (Codec)
def top (i : Nat) : Stmt := PySem.Challenge.pw_rugborders_s07_sizes.main.body.getD i (.Pass ⟨0, 0, 0, 0⟩)
abbrev s_fits_along : Stmt := top 5
abbrev s_fit_along : Stmt := top 8
abbrev s_least_side : Stmt := top 9
abbrev s_threes : Stmt := top 10
abbrev s_look_kind : Stmt := top 15
abbrev s_look_lengths : Stmt := top 16
abbrev s_look_depth : Stmt := top 17
abbrev s_look_borders : Stmt := top 18
abbrev s_sizes : Stmt := top 21
/-- what the top has written -/
structure Txt (K : PySem.W.Frag) (mg : Str → Option Value) (C fI B fB fS : Addr) : Prop where
  ref : PySem.RefX.RefTxt K mg C fI
  g_SET : ∃ t, mg "SET" = some (.int 0 t)
  g_MET : ∃ t, mg "MET" = some (.int 1 t)
  g_MOST_WHOLE : ∃ t, mg "MOST_WHOLE" = some (.int 512 t)
  g_MOST_KIND : ∃ t, mg "MOST_KIND" = some (.int 2 t)
  g_MOST_LENGTH : ∃ t, mg "MOST_LENGTH" = some (.int 512 t)
  g_MOST_DEPTH : ∃ t, mg "MOST_DEPTH" = some (.int 128 t)
  g_MOST_NUMBERS : ∃ t, mg "MOST_NUMBERS" = some (.int 48 t)
  b_len : mg "len" = none
  b_range : mg "range" = none
  b_tuple : mg "tuple" = none
  d_fits_along : Fd K mg "fits_along" s_fits_along
  d_fit_along : Fd K mg "fit_along" s_fit_along
  d_least_side : Fd K mg "least_side" s_least_side
  d_threes : Fd K mg "threes" s_threes
  d_look_kind : Fd K mg "look_kind" s_look_kind
  d_look_lengths : Fd K mg "look_lengths" s_look_lengths
  d_look_depth : Fd K mg "look_depth" s_look_depth
  d_look_borders : Fd K mg "look_borders" s_look_borders
  d_sizes : Fd K mg "sizes" s_sizes
/-! ### fits_along, fits_round -/
def spFitsAlong : Sp := fun vs H Q _ => ∃ (kind L h side : Int), vs = [.int kind, .int L, .int h, .int side] ∧ 1 ≤ L ∧ Q (.bl (Rug.fitsAlong kind L h side)) H
theorem sc_fits_along : FnScope ["kind", "length", "depth", "side"] ["kind", "length", "depth", "side"] (defScope s_fits_along) := ⟨rfl, rfl, rfl, by decide +kernel, rfl, by decide +kernel, by decide +kernel⟩
section
variable {P : Program} {w : World} {K : PySem.W.Frag} {mg : Str → Option Value} {base : Heap} {C fI B fB fS : Addr}
theorem ok_fits_along (T : Txt K mg C fI B fB fS) : Df P w K mg base CX0 1 "fits_along" ["kind", "length", "depth", "side"] spFitsAlong := by
  obtain ⟨f, fd, hf, F⟩ := T.d_fits_along.ex
  refine ⟨f, fd, hf, F.kp, F.binds fun _ _ _ _ _ _ us hl => match us, hl with | [_, _, _, _], _ => rfl, F.ok sc_fits_along (fun vs H Q E h => ?_) (fun cdv A outer s H vs Q E hr h => ⟨_,
    pss_cons (ps_if (pt_cmp (pc_eqI (pv 0) (pe_gint rfl T.g_SET)) (nomark _)) (pss_one (ps_ret (pe_cmp (pc_eqI (pe_op op_mod (pv 3) (pv 1)) pe_int) (nomark _)))) pss_nil)
    (pss_cons (ps_if (pt_cmp (pc_eqI (pv 0) (pe_gint rfl T.g_MET)) (nomark _)) (pss_one (ps_ret (pe_cmp (pc_eqI (pe_op op_mod (pe_op op_add (pv 3) (pe_op op_mul pe_int (pv 2))) (pe_op op_mul pe_int (pv 1))) pe_int) (nomark _)))) pss_nil)
    (pss_one (ps_ret (pe_cmp (pc_eqI (pe_op op_mod (pe_op op_add (pv 3) (pv 2)) (pv 1)) pe_int) (nomark _))))), ?_⟩)⟩
  · obtain ⟨kind, L, h, side, rfl, _⟩ := h
    rfl
  · obtain ⟨kind, L, h, side, rfl, hL, q⟩ := h
    unfold Rug.fitsAlong at q
    refine ⟨_, rfl, _, _, rfl, rfl, _, rfl, iteD (fun c => ?_) fun c => ?_⟩
    · rw [if_pos c] at q
      exact ⟨_, rfl, _, rfl, _, _, rfl, rfl, hL, _, _, rfl, rfl, q⟩
    · rw [if_neg c] at q
      refine ⟨_, rfl, _, _, rfl, rfl, _, rfl, iteD (fun c => ?_) fun c => ?_⟩
      · rw [if_pos c] at q
        exact ⟨_, rfl, _, rfl, _, _, rfl, rfl, .inl ⟨by decide, by decide⟩, _, _, rfl, rfl, _, rfl, _, _, rfl, rfl, .inl ⟨by decide, by decide⟩, _, _, rfl, rfl, by show 0 < 2 * L; omega, _, _, rfl, rfl, q⟩
      · rw [if_neg c] at q
        exact ⟨_, rfl, _, rfl, _, _, rfl, rfl, _, rfl, _, _, rfl, rfl, hL, _, _, rfl, rfl, q⟩
end
/-! ### looks at arguments -/
def spLookKind (C : Addr) : Sp := fun vs H Q E => ∃ (kind : Int), vs = [.int kind] ∧ (¬ kind ≤ 2 → Rz C (-1) H E) ∧ (kind ≤ 2 → Q .non H)
def spLookDepth (C : Addr) : Sp := fun vs H Q E => ∃ (h : Int), vs = [.int h] ∧ (Rug.okDeep h = false → Rz C (-1) H E) ∧ (Rug.okDeep h = true → Q .non H)
theorem sc_look_kind : FnScope ["kind"] ["kind"] (defScope s_look_kind) := ⟨rfl, rfl, rfl, by decide +kernel, rfl, by decide +kernel, by decide +kernel⟩
theorem sc_look_depth : FnScope ["depth"] ["depth"] (defScope s_look_depth) := ⟨rfl, rfl, rfl, by decide +kernel, rfl, by decide +kernel, by decide +kernel⟩
section
variable {P : Program} {w : World} {K : PySem.W.Frag} {mg : Str → Option Value} {base : Heap} {C fI B fB fS : Addr}
theorem ok_look_kind (T : Txt K mg C fI B fB fS) : Df P w K mg base (L2.CX P w) 3 "look_kind" ["kind"] (spLookKind C) := by
  obtain ⟨f, fd, hf, F⟩ := T.d_look_kind.ex
  refine ⟨f, fd, hf, F.kp, F.binds fun _ _ _ _ _ _ us hl => match us, hl with | [_], _ => rfl, F.okX sc_look_kind (fun vs H Q E h => ?_) (fun cdv A outer s H vs Q E hr h => ⟨_,
    pss_one (ps_if (pt_cmp (pc_gt (pv 0) (pe_gint rfl T.g_MOST_KIND)) (nomark _)) (pss_one (ps_raiseRef rfl T.ref hr (takes_of rfl rfl rfl rfl) (by exact pa_cons (pe_un un_neg pe_int) pa_nil))) pss_nil), ?_⟩)⟩
  · obtain ⟨kind, rfl, _⟩ := h
    rfl
  · obtain ⟨kind, rfl, h1, h2⟩ := h
    refine ⟨_, rfl, _, _, rfl, rfl, _, rfl, iteD (fun c => ?_) fun c => ?_⟩
    · exact ⟨_, rfl, _, rfl, (h1 (by omega)).new⟩
    · exact h2 (by omega)
theorem ok_look_depth (T : Txt K mg C fI B fB fS) : Df P w K mg base (L2.CX P w) 3 "look_depth" ["depth"] (spLookDepth C) := by
  obtain ⟨f, fd, hf, F⟩ := T.d_look_depth.ex
  refine ⟨f, fd, hf, F.kp, F.binds fun _ _ _ _ _ _ us hl => match us, hl with | [_], _ => rfl, F.okX sc_look_depth (fun vs H Q E h => ?_) (fun cdv A outer s H vs Q E hr h => ⟨_,
    pss_one (ps_if (pt_not (pt_chain op_le op_le pe_int (pv 0) (pe_gint rfl T.g_MOST_DEPTH) )) (pss_one (ps_raiseRef rfl T.ref hr (takes_of rfl rfl rfl rfl) (by exact pa_cons (pe_un un_neg pe_int) pa_nil))) pss_nil), ?_⟩)⟩
  · obtain ⟨h, rfl, _⟩ := h
    rfl
  · obtain ⟨h, rfl, h1, h2⟩ := h
    unfold Rug.okDeep at h1 h2
    refine ⟨_, rfl, _, _, rfl, rfl, _, rfl, iteD (fun c => ?_) fun c => ?_⟩
    · refine ⟨_, _, rfl, rfl, _, rfl, ?_⟩
      rw [decide_eq_true c, Bool.true_and] at h1 h2
      refine iteND (fun d => ?_) fun d => ?_
      · exact ⟨_, rfl, _, rfl, (h1 (decide_eq_false d)).new⟩
      · exact h2 (decide_eq_true d)
    · rw [decide_eq_false c, Bool.false_and] at h1 h2
      refine ⟨_, rfl, iteT ?_⟩
      exact ⟨_, rfl, _, rfl, (h1 rfl).new⟩
end
/-! ### lengths, sides, steps -/
def spLookLengths (K : PySem.W.Frag) (C : Addr) : Sp := fun vs H Q E => ∃ (a : Addr) (ns : List Int), vs = [.ref a] ∧ SqL K H a (ns.map V.int) ∧ (ns.all Rug.okOne = false → Rz C (-1) H E) ∧ (ns.all Rug.okOne = true → Q .non H)
theorem sc_look_lengths : FnScope ["numbers", "number"] ["numbers"] (defScope s_look_lengths) := ⟨rfl, rfl, rfl, by decide +kernel, rfl, by decide +kernel, by decide +kernel⟩
section
variable {P : Program} {w : World} {K : PySem.W.Frag} {mg : Str → Option Value} {base : Heap} {C fI B fB fS : Addr}
theorem ok_look_lengths (T : Txt K mg C fI B fB fS) : Df P w K mg base (L2.CX P w) 3 "look_lengths" ["numbers"] (spLookLengths K C) := by
  obtain ⟨f, fd, hf, F⟩ := T.d_look_lengths.ex
  refine ⟨f, fd, hf, F.kp, F.binds fun _ _ _ _ _ _ us hl => match us, hl with | [_], _ => rfl, F.okX sc_look_lengths (fun vs H Q E h => ?_) (fun cdv A outer s H vs Q E hr h => ⟨_,
    pss_one (ps_for (passes_of rfl) rfl (pi_list (pv 0)) (pg_name (i := 1) sc_look_lengths.nd rfl (Or.inl rfl))
      (pss_one (ps_if (pt_not (pt_chain op_le op_le pe_int (pv 1) (pe_gint rfl T.g_MOST_LENGTH))) (pss_one (ps_raiseRef rfl T.ref hr (takes_of rfl rfl rfl rfl) (by exact pa_cons (pe_un un_neg pe_int) pa_nil))) pss_nil))), ?_⟩)⟩
  · obtain ⟨a, ns, rfl, _⟩ := h
    rfl
  · obtain ⟨a, ns, rfl, hS, h1, h2⟩ := h
    refine ⟨_, rfl, a, rfl, ⟨_, hS⟩, for_list (K := K) (a := a) (xs := ns.map V.int) (fun i σ H' => ∃ v : Option V, σ = [some (.ref a), v] ∧ H' = H ∧ (ns.take i).all Rug.okOne = true)
      ⟨none, rfl, rfl, rfl⟩ (fun i σ H' _ ⟨_, _, e, _⟩ => by rw [e]; exact hS) ?_ ?_⟩
    · rintro i y σ H' hi ⟨v, rfl, rfl, ha⟩
      obtain ⟨z, hz, rfl⟩ := get_map hi
      have more : (ns.take (i + 1)).all Rug.okOne = Rug.okOne z := by
        rw [take_more hz, List.all_append, ha, Bool.true_and]
        simp
      have bad : Rug.okOne z = false → ns.all Rug.okOne = false := fun b => by
        cases q : ns.all Rug.okOne with
        | false => rfl
        | true =>
          have := List.all_eq_true.mp q z (List.mem_of_getElem? hz)
          rw [b] at this
          cases this
      have e : Rug.okOne z = (decide (1 ≤ z) && decide (z ≤ 512)) := rfl
      refine ⟨_, rfl, _, _, rfl, rfl, _, rfl, iteD (fun c => ?_) fun c => ?_⟩
      · refine ⟨_, _, rfl, rfl, _, rfl, ?_⟩
        rw [decide_eq_true c, Bool.true_and] at e
        refine iteND (fun d => ?_) fun d => ?_
        · exact ⟨_, rfl, _, rfl, (h1 (bad (by rw [e]; exact decide_eq_false d))).new⟩
        · exact ⟨_, rfl, rfl, by rw [more, e]; exact decide_eq_true d⟩
      · rw [decide_eq_false c, Bool.false_and] at e
        refine ⟨_, rfl, iteT ?_⟩
        exact ⟨_, rfl, _, rfl, (h1 (bad e)).new⟩
    · rintro σ H' ⟨v, rfl, rfl, ha⟩
      rw [List.length_map, List.take_length] at ha
      exact h2 ha
end
/-! ### the numbers of a row of borders -/
def spLookBorders (K : PySem.W.Frag) (C : Addr) : Sp := fun vs H Q E => ∃ (a : Addr) (ns : List Int), vs = [.ref a] ∧ SqL K H a (ns.map V.int) ∧ ns.length ≤ 1000 ∧ (Rug.rowsOk ns = false → Rz C (-1) H E) ∧ (Rug.rowsOk ns = true → RetV .non H Q)
theorem sc_look_borders : FnScope ["numbers", "k"] ["numbers"] (defScope s_look_borders) := ⟨rfl, rfl, rfl, by decide +kernel, rfl, by decide +kernel, by decide +kernel⟩
section
variable {P : Program} {w : World} {K : PySem.W.Frag} {mg : Str → Option Value} {base : Heap} {C fI B fB fS : Addr}
theorem ok_look_borders (T : Txt K mg C fI B fB fS) : Df P w K mg base (L2.CX P w) 6 "look_borders" ["numbers"] (spLookBorders K C) := by
  obtain ⟨f, fd, hf, F⟩ := T.d_look_borders.ex
  refine ⟨f, fd, hf, F.kp, F.binds fun _ _ _ _ _ _ us hl => match us, hl with | [_], _ => rfl, F.okX sc_look_borders (fun vs H Q E h => ?_) (fun cdv A outer s H vs Q E hr h => ⟨_,
    pss_cons (ps_if (pt_cmpR op_gt (pe_op op_mod (pe_callB call_len_seq (by rfl) T.b_len PySem.boot_len (pa_cons (pv 0) pa_nil)) pe_int) pe_int (nomark _)) (pss_one (ps_raiseRef rfl T.ref hr (takes_of rfl rfl rfl rfl) (by exact pa_cons (pe_un un_neg pe_int) pa_nil))) pss_nil)
    (pss_one (ps_for (passes_of rfl) rfl (pi_range3 (by rfl) T.b_range (pa_cons pe_int (pa_cons (pe_callB call_len_seq (by rfl) T.b_len PySem.boot_len (pa_cons (pv 0) pa_nil)) (pa_cons pe_int pa_nil)))) (pg_name (i := 1) sc_look_borders.nd rfl (Or.inl rfl))
      (pss_cons (ps_expr (pe_dfS (ok_look_kind T) (hr.mono (by decide)) rfl (takes_of rfl rfl rfl rfl) (by exact pa_cons (pe_ix ix_list (pv 0) (pv 1) (fun _ _ => rfl)) pa_nil)))
      (pss_cons (ps_expr (pe_dfS (ok_look_lengths T) (hr.mono (by decide)) rfl (takes_of rfl rfl rfl rfl) (by exact pa_cons (pe_lst (pa_cons (pe_ix ix_list (pv 0) (pe_op op_add (pv 1) pe_int) (fun _ _ => rfl)) pa_nil)) pa_nil)))
      (pss_one (ps_expr (pe_dfS (ok_look_depth T) (hr.mono (by decide)) rfl (takes_of rfl rfl rfl rfl) (by exact pa_cons (pe_ix ix_list (pv 0) (pe_op op_add (pv 1) pe_int) (fun _ _ => rfl)) pa_nil)))))))), ?_⟩)⟩
  · obtain ⟨a, ns, rfl, _⟩ := h
    rfl
  · obtain ⟨a, ns, rfl, hS, hz, h1, h2⟩ := h
    refine ⟨_, rfl, a, _, rfl, .inl hS, _, _, rfl, rfl, (by show (0 : Int) < 3; decide), _, _, rfl, rfl, _, rfl, ?_⟩
    rw [List.length_map]
    refine iteD (fun c => ?_) fun c => ?_
    · exact ⟨_, rfl, _, rfl, (h1 (Rug.rowsOk_cut ns (by omega))).new⟩
    · have hm : ns.length % 3 = 0 := by omega
      have tl := Rug.threes_len ns hm
      have all := Rug.rowsOk_all ns hm
      refine ⟨_, rfl, a, _, rfl, .inl hS, ?_⟩
      rw [List.length_map]
      refine ⟨0, _, 3, _, rfl, rgC_of (by decide) (by decide) (by omega) (by omega) (by decide) (by decide), ?_⟩
      have en : (if (0 : Int) < (ns.length : Int) then ((ns.length : Int) - 0 - 1) / 3 + 1 else 0).toNat = (Rug.threes ns).length := by
        by_cases c : (0 : Int) < (ns.length : Int)
        · rw [if_pos c]
          omega
        · rw [if_neg c]
          omega
      rw [en]
      refine for_rangeC (fun i σ H' => ∃ v : Option V, σ = [some (.ref a), v] ∧ Ex H H' ∧ ((Rug.threes ns).take i).all (fun t => Rug.okRow t.1 t.2.1 t.2.2) = true) ⟨none, rfl, Ex.refl H, rfl⟩ ?_ ?_
      · rintro i σ H' hi ⟨v, rfl, e, ok⟩
        obtain ⟨t, hti⟩ : ∃ t, (Rug.threes ns)[i]? = some t := ⟨_, List.getElem?_eq_getElem hi⟩
        obtain ⟨_, g1, g2, g3⟩ := Rug.threes_at ns i t hti
        have bad : Rug.okRow t.1 t.2.1 t.2.2 = false → Rug.rowsOk ns = false := fun b => by
          rw [all]
          cases z : (Rug.threes ns).all fun t => Rug.okRow t.1 t.2.1 t.2.2 with
          | false => rfl
          | true =>
            have := List.all_eq_true.mp z t (List.mem_of_getElem? hti)
            rw [b] at this
            cases this
        have er : Rug.okRow t.1 t.2.1 t.2.2 = (decide (t.1 ≤ 2) && Rug.okOne t.2.1 && Rug.okDeep t.2.2) := rfl
        have hS' := Same.seq e hS
        have i1 : atI (ns.map V.int) ((0 : Int) + (i : Int) * 3) = some (.int t.1) := at_of (j := 3 * i) (by omega) (by rw [List.getElem?_map, g1]; rfl)
        have i2 : atI (ns.map V.int) ((0 : Int) + (i : Int) * 3 + 1) = some (.int t.2.1) := at_of (j := 3 * i + 1) (by omega) (by rw [List.getElem?_map, g2]; rfl)
        have i3 : atI (ns.map V.int) ((0 : Int) + (i : Int) * 3 + 2) = some (.int t.2.2) := at_of (j := 3 * i + 2) (by omega) (by rw [List.getElem?_map, g3]; rfl)
        refine ⟨_, rfl, _, rfl, a, _, _, _, rfl, rfl, hS', i1, t.1, rfl, fun c1 => (h1 (bad (by rw [er, decide_eq_false c1]; rfl))).same e, fun c1 => ?_⟩
        rw [decide_eq_true c1, Bool.true_and] at er
        refine ⟨_, rfl, _, rfl, _, _, rfl, rfl, a, _, _, _, rfl, rfl, hS', i2, (by show 1 ≤ sizeLine; decide), fun p hp => ?_⟩
        have e2 : Ex H (upd H' p (.lst [.int t.2.1])) := e.trans (same_upd hp)
        have eA : [t.2.1].all Rug.okOne = Rug.okOne t.2.1 := by simp
        refine ⟨p, [t.2.1], rfl, SqL.of upd_same, fun c2 => (h1 (bad (by rw [er, ← eA, c2]; rfl))).same e2, fun c2 => ?_⟩
        rw [← eA, c2, Bool.true_and] at er
        refine ⟨_, rfl, _, rfl, _, _, rfl, rfl, a, _, _, _, rfl, rfl, Same.seq e2 hS, i3, t.2.2, rfl, fun c3 => (h1 (bad (by rw [er, c3]))).same e2, fun c3 => ?_⟩
        refine ⟨_, rfl, e2, ?_⟩
        rw [take_more hti, List.all_append, ok, Bool.true_and]
        simp only [List.all_cons, List.all_nil, Bool.and_true]
        rw [er, c3]
      · rintro σ H' ⟨v, rfl, e, ok⟩
        rw [List.take_length, ← all] at ok
        exact h2 ok H' e
end
/-! ### several borders, one round another -/
def spFitAlong : Sp := fun vs H Q _ => ∃ (a : Addr) (bs : List (Int × Int × Int)) (side : Int), vs = [.ref a, .int side] ∧ RingsAt H a bs ∧ (∀ b ∈ bs, 1 ≤ b.2.1) ∧ RetV (.bl (Rug.fitAlong bs side)) H Q
theorem sc_fit_along : FnScope ["borders", "side", "kind", "length", "depth"] ["borders", "side"] (defScope s_fit_along) := ⟨rfl, rfl, rfl, by decide +kernel, rfl, by decide +kernel, by decide +kernel⟩
def spLeastSide : Sp := fun vs H Q _ => ∃ (a : Addr) (bs : List (Int × Int × Int)) (p W : Int), vs = [.ref a, .int p, .int W] ∧ RingsAt H a bs ∧ (∀ b ∈ bs, 1 ≤ b.2.1) ∧ (1 ≤ p ∧ p ≤ 512 ∧ 1 ≤ W ∧ W ≤ 512) ∧ RetV (.int (Rug.leastSide bs p W)) H Q
theorem sc_least_side : FnScope ["borders", "step", "least", "first", "side"] ["borders", "step", "least"] (defScope s_least_side) := ⟨rfl, rfl, rfl, by decide +kernel, rfl, by decide +kernel, by decide +kernel⟩
def spThrees (K : PySem.W.Frag) : Sp := fun vs H Q _ => ∃ (a : Addr) (ns : List Int), vs = [.ref a] ∧ SqL K H a (ns.map V.int) ∧ ns.length % 3 = 0 ∧ ns.length ≤ 1000 ∧ ∀ p H', H p = none → Ex H H' → RingsAt H' p (Rug.threes ns) → Q (.ref p) H'
theorem sc_threes : FnScope ["numbers", "k"] ["numbers"] (defScope s_threes) := ⟨rfl, rfl, rfl, by decide +kernel, rfl, by decide +kernel, by decide +kernel⟩
def rTupOf (K : PySem.W.Frag) : List V → Hp → VK → Prop := fun xs H Q => ∃ p ys, xs = [.ref p] ∧ ((SqL K H p ys ∧ ∀ l, H l = none → Q (.ref l) (upd H l (.tup ys))) ∨ (SqT K H p ys ∧ Q (.ref p) H))
section
variable {P : Program} {w : World} {K : PySem.W.Frag} {mg : Str → Option Value} {base : Heap} {C fI B fB fS : Addr}
theorem ok_fit_along (T : Txt K mg C fI B fB fS) : Df P w K mg base CX0 3 "fit_along" ["borders", "side"] spFitAlong := by
  obtain ⟨f, fd, hf, F⟩ := T.d_fit_along.ex
  refine ⟨f, fd, hf, F.kp, F.binds fun _ _ _ _ _ _ us hl => match us, hl with | [_, _], _ => rfl, F.ok sc_fit_along (fun vs H Q E h => ?_) (fun cdv A outer s H vs Q E hr h => ⟨_,
    pss_cons (ps_for PassesOwn.never rfl (pi_list (pv 0)) (pg_tup rfl (pgs_cons (pg_name (i := 2) sc_fit_along.nd rfl (Or.inl rfl)) (pgs_cons (pg_name (i := 3) sc_fit_along.nd rfl (Or.inl rfl)) (pgs_cons (pg_name (i := 4) sc_fit_along.nd rfl (Or.inl rfl)) pgs_nil))))
      (pss_cons (ps_if (pt_not (pt_val (pe_df (ok_fits_along T) (hr.mono (by decide)) rfl (by exact pa_cons (pv 2) (pa_cons (pv 3) (pa_cons (pv 4) (pa_cons (pv 1) pa_nil))))))) (pss_one (ps_ret pe_bl)) pss_nil)
        (pss_one (ps_aug (i := 1) sc_fit_along.nd rfl (Or.inl rfl) (pe_op op_mul pe_int (pv 4)) ip_add))))
    (pss_one (ps_ret (pe_cmpR op_le (pv 1) (pe_gint rfl T.g_MOST_WHOLE) (nomark _)))), ?_⟩)⟩
  · obtain ⟨a, bs, side, rfl, _⟩ := h
    rfl
  · obtain ⟨a, bs, side, rfl, ⟨ps, ha, hps⟩, hL, q⟩ := h
    refine q_forL (ev_var rfl) (SqL.of ha) (fun i σ H' => ∃ (s : Int) (k l d : Option V), σ = [some (.ref a), some (.int s), k, l, d] ∧ Ex H H' ∧ Rug.fitAlong bs side = Rug.fitAlong (bs.drop i) s) (fun H1 e1 => ⟨side, none, none, none, rfl, e1, rfl⟩) (fun i σ' H' _ ⟨_, _, _, _, _, e, _⟩ => SqL.of (e _ _ ha)) ?_ ?_
    · rintro i x σ' H' hi ⟨s, k, l, d, rfl, e, eq⟩
      obtain ⟨p, hp, rfl⟩ := get_map hi
      have hlt := (List.getElem?_eq_some_iff.mp hp).1
      obtain ⟨b, hb⟩ : ∃ b, bs[i]? = some b := ⟨_, List.getElem?_eq_getElem (by rw [← hps.1]; exact hlt)⟩
      have ht := e _ _ (hps.2 i p b hp hb)
      have hd : bs.drop i = b :: bs.drop (i + 1) := by
        obtain ⟨h1, h2⟩ := List.getElem?_eq_some_iff.mp hb
        rw [List.drop_eq_getElem_cons h1, h2]
      rw [hd, Rug.fitAlong_cons] at eq
      have hL' := hL b (List.mem_of_getElem? hb)
      refine ⟨p, tri b, rfl, SqT.of ht, rfl, _, _, rfl, _, _, rfl, _, _, rfl, rfl, ?_⟩
      refine q_when (et_not (et_B (ev_df (v := .bl (Rug.fitsAlong b.1 b.2.1 b.2.2 s)) (ea_cons (ev_var rfl) (ea_cons (ev_var rfl) (ea_cons (ev_var rfl) (ea_cons (ev_var rfl) ea_nil)))) fun H1 e1 Q' E' q' => ⟨b.1, b.2.1, b.2.2, s, rfl, hL', q' H1 (Ex.refl H1)⟩))) (fun c H1 e1 => ?_) fun c H1 e1 => ?_
      · rw [Bool.not_eq_true'] at c
        rw [c, Bool.false_and] at eq
        rw [eq] at q
        exact s_ret ev_c fun H2 e2 => q H2 ((e.trans e1).trans e2)
      · rw [Bool.not_eq_false'] at c
        rw [c, Bool.true_and] at eq
        refine s_aug (a := s) (b := 2 * b.2.2) rfl (ev_op ev_c (ev_var rfl) (rv_I (.inl ⟨by decide, by decide⟩))) fun H2 e2 => ⟨s + 2 * b.2.2, _, _, _, rfl, (e.trans e1).trans e2, eq⟩
    · rintro σ' H' ⟨s, k, l, d, rfl, e, eq⟩
      rw [List.length_map, hps.1, List.drop_length] at eq
      rw [eq] at q
      exact s_ret (ev_op (ev_var rfl) ev_c rv_I0) fun H2 e2 => q H2 (e.trans e2)
theorem ok_least_side (T : Txt K mg C fI B fB fS) : Df P w K mg base CX0 5 "least_side" ["borders", "step", "least"] spLeastSide := by
  obtain ⟨f, fd, hf, F⟩ := T.d_least_side.ex
  refine ⟨f, fd, hf, F.kp, F.binds fun _ _ _ _ _ _ us hl => match us, hl with | [_, _, _], _ => rfl, F.ok sc_least_side (fun vs H Q E h => ?_) (fun cdv A outer s H vs Q E hr h => ⟨_,
    pss_cons (ps_set (i := 3) sc_least_side.nd rfl (Or.inl rfl) (pe_op op_mul (pe_op op_fdiv (pe_op op_sub (pe_op op_add (pv 2) (pv 1)) pe_int) (pv 1)) (pv 1)))
    (pss_cons (ps_for PassesOwn.never rfl (pi_range3 (by rfl) T.b_range (pa_cons (pv 3) (pa_cons (pe_op op_add (pe_gint rfl T.g_MOST_WHOLE) pe_int) (pa_cons (pv 1) pa_nil)))) (pg_name (i := 4) sc_least_side.nd rfl (Or.inl rfl))
      (pss_one (ps_if (pt_val (pe_df (ok_fit_along T) (hr.mono (by decide)) rfl (by exact pa_cons (pv 0) (pa_cons (pv 4) pa_nil)))) (pss_one (ps_ret (pv 4))) pss_nil)))
    (pss_one (ps_ret pe_int))), ?_⟩)⟩
  · obtain ⟨a, bs, p, W, rfl, _⟩ := h
    rfl
  · obtain ⟨a, bs, p, W, rfl, hR, hL, ⟨p1, p2, w1, w2⟩, q⟩ := h
    have fb : 0 ≤ Rug.sideFirst p W ∧ Rug.sideFirst p W ≤ 1000000 := by
      unfold Rug.sideFirst
      have h1 := Int.ediv_mul_le (W + p - 1) (show p ≠ 0 by omega)
      have h2 : 0 ≤ (W + p - 1) / p := Int.ediv_nonneg (by omega) (by omega)
      have h3 := Int.mul_nonneg h2 (show 0 ≤ p by omega)
      omega
    refine q_asg (v := .int (Rug.sideFirst p W)) (ev_op (ev_op (ev_op (ev_op (ev_var rfl) (ev_var rfl) rv_I0) ev_c rv_I0) (ev_var rfl) (rv_I ⟨by omega, by omega⟩)) (ev_var rfl) (rv_I (.inr ⟨by omega, by omega⟩))) fun H1 e1 => ?_
    refine ⟨_, rfl, _, _, rfl, rfl, _, rfl, _, _, p, _, rfl, rgC_of fb.1 fb.2 (by decide) (by decide) p1 (by omega), ?_⟩
    refine for_rangeC (fun i σ H' => ∃ v : Option V, σ = [some (.ref a), some (.int p), some (.int W), some (.int (Rug.sideFirst p W)), v] ∧ Ex H H' ∧ ∀ j : Nat, j < i → Rug.fitAlong bs (Rug.sideFirst p W + (j : Int) * p) = false) ⟨none, rfl, e1, fun j hj => absurd hj (Nat.not_lt_zero _)⟩ ?_ ?_
    · rintro i σ H' hi ⟨v, rfl, e, hno⟩
      refine s_when (et_B (ev_df (v := .bl (Rug.fitAlong bs (Rug.sideFirst p W + (i : Int) * p))) (ea_cons (ev_var rfl) (ea_cons (ev_var rfl) ea_nil)) fun H2 e2 Q' E' q' => ⟨a, bs, _, rfl, hR.ex (e.trans e2), hL, q'⟩)) (fun c H2 e2 => ?_) fun c H2 e2 => ?_
      · rw [Rug.least_hit hi hno c] at q
        exact s_ret (ev_var rfl) fun H3 e3 => q H3 ((e.trans e2).trans e3)
      · refine ⟨_, rfl, e.trans e2, fun j hj => ?_⟩
        rcases Nat.lt_or_ge j i with lt | ge
        · exact hno j lt
        · rw [show j = i by omega]
          exact c
    · rintro σ H' ⟨v, rfl, e, hno⟩
      rw [Rug.least_miss hno] at q
      exact q H' e
theorem ok_threes (T : Txt K mg C fI B fB fS) : Df P w K mg base CX0 1 "threes" ["numbers"] (spThrees K) := by
  obtain ⟨f, fd, hf, F⟩ := T.d_threes.ex
  refine ⟨f, fd, hf, F.kp, F.binds fun _ _ _ _ _ _ us hl => match us, hl with | [_], _ => rfl, F.ok sc_threes (fun vs H Q E h => ?_) (fun cdv A outer s H vs Q E hr h => ⟨_,
    pss_one (ps_ret (pe_lc (own := [("k", 1)]) (g := gName 1) (tt := tYes) (te := tCB (rTupOf K) (tCons (tSl (rSlL K) (tVar 0) (tPart (tVar 1)) (tPart (tOp (rI0 fun i j => .int (i + j)) (tVar 1) (tC (.int 3))))) tNil)) rfl sc_threes.nd
      (pi_range3 (by rfl) T.b_range (pa_cons pe_int (pa_cons (pe_callB call_len_seq (by rfl) T.b_len PySem.boot_len (pa_cons (pv 0) pa_nil)) (pa_cons pe_int pa_nil))))
      (blkOk_by (N := ["numbers", "k"]) (sc := defScope s_threes) (by decide +kernel))
      (fun _ _ _ _ _ => pg_name (i := 1) sc_threes.nd rfl (Or.inl rfl)) (fun _ _ _ _ _ => pts_nil)
      (fun _ _ _ _ _ => pe_callTy call_tuple_of (by rfl) T.b_tuple (by decide +kernel) (by exact pa_cons (pe_slice sl_list (pv 0) (po_some (pv 1)) (po_some (pe_op op_add (pv 1) pe_int))) pa_nil)))), ?_⟩)⟩
  · obtain ⟨a, ns, rfl, _⟩ := h
    rfl
  · obtain ⟨a, ns, rfl, hS, hm, hz, q⟩ := h
    have tl := Rug.threes_len ns hm
    refine ⟨_, rfl, a, _, rfl, .inl hS, ?_⟩
    rw [List.length_map]
    refine ⟨0, _, 3, _, rfl, rgC_of (by decide) (by decide) (by omega) (by omega) (by decide) (by decide), fun D hD => ?_⟩
    have en : (if (0 : Int) < (ns.length : Int) then ((ns.length : Int) - 0 - 1) / 3 + 1 else 0).toNat = (Rug.threes ns).length := by
      by_cases c : (0 : Int) < (ns.length : Int)
      · rw [if_pos c]
        omega
      · rw [if_neg c]
        omega
    rw [en]
    refine lc_step (fun i H' => Ex H H' ∧ ∃ ps : List Addr, H' D = some (.lst (ps.map V.ref)) ∧ TupsAt H' ps ((Rug.threes ns).take i)) ⟨same_upd hD, [], upd_same, rfl, fun i p b h1 => by simp at h1⟩ ?_ ?_
    · rintro i H' hi ⟨e, ps, hps, ht⟩
      refine ⟨rfl, ?_⟩
      obtain ⟨t, hti⟩ : ∃ t, (Rug.threes ns)[i]? = some t := ⟨_, List.getElem?_eq_getElem hi⟩
      have at3 := Rug.threes_at ns i t hti
      have ec : cutV (ns.map V.int) (some ((0 : Int) + (i : Int) * 3)) (some ((0 : Int) + (i : Int) * 3 + 3)) = tri t := by
        have z1 : (0 : Int) + (i : Int) * 3 = ((3 * i : Nat) : Int) := by omega
        have z2 : (0 : Int) + (i : Int) * 3 + 3 = ((3 * i + 3 : Nat) : Int) := by omega
        unfold cutV
        rw [z2, z1, HT.sIx_nat, HT.sIx_nat, List.length_map]
        have l3 : 3 * i + 3 ≤ ns.length := by omega
        rw [show min (3 * i) ns.length = 3 * i by omega, show min (3 * i + 3) ns.length = 3 * i + 3 by omega, show 3 * i + 3 - 3 * i = 3 by omega, ← List.map_drop, ← List.map_take, at3.1]
        rfl
      refine ⟨_, rfl, _, rfl, _, rfl, _, rfl, _, _, rfl, rfl, _, rfl, a, _, rfl, Same.seq e hS, fun l hl => ?_⟩
      refine ⟨l, _, rfl, .inl ⟨SqL.of upd_same, fun m hm' => ?_⟩⟩
      have nD : D ≠ l := fun z => by rw [← z, hps] at hl; cases hl
      have eD : upd H' l (.lst (cutV (ns.map V.int) (some ((0 : Int) + (i : Int) * 3)) (some ((0 : Int) + (i : Int) * 3 + 3)))) D = some (.lst (ps.map V.ref)) := by rw [upd_ne nD]; exact hps
      have nm : D ≠ m := fun z => by rw [← z, eD] at hm'; cases hm'
      refine ⟨ps.map V.ref, by rw [upd_ne nm]; exact eD, ?_, ?_, ps ++ [m], ?_, ?_⟩
      · rw [List.length_map, ht.1, List.length_take]
        exact small1000 (by omega)
      · intro b o q1
        have hb : b ≠ D := fun z => by rw [z, hD] at q1; cases q1
        rw [upd_ne hb]
        exact (same_upd hm') _ _ ((same_upd hl) _ _ (e _ _ q1))
      · rw [upd_same, List.map_append]
        rfl
      · rw [take_more hti]
        have e2 : ∀ b o, b ≠ D → H' b = some o → upd (upd (upd H' l (.lst (cutV (ns.map V.int) (some ((0 : Int) + (i : Int) * 3)) (some ((0 : Int) + (i : Int) * 3 + 3))))) m (.tup (cutV (ns.map V.int) (some ((0 : Int) + (i : Int) * 3)) (some ((0 : Int) + (i : Int) * 3 + 3))))) D (.lst (ps.map V.ref ++ [V.ref m])) b = some o := fun b o hb q1 => by
          rw [upd_ne hb]
          exact (same_upd hm') _ _ ((same_upd hl) _ _ q1)
        refine TupsAt.snoc ⟨ht.1, fun j p b h1 h2 => ?_⟩ ?_
        · have q1 := ht.2 j p b h1 h2
          exact e2 _ _ (fun z => by rw [z, hps] at q1; cases q1) q1
        · rw [upd_ne (Ne.symm nm), upd_same, ec]
    · rintro H' ⟨e, ps, hps, ht⟩
      rw [List.take_length] at ht
      exact q D H' hD e ⟨ps, hps, ht⟩
end
/-! ### sizes -/
def spSizes (K : PySem.W.Frag) : Sp := fun vs H Q _ => ∃ (p q W Hh : Int) (a : Addr) (ns : List Int), vs = [.int p, .int q, .int W, .int Hh, .ref a] ∧ SqL K H a (ns.map V.int) ∧
  ∀ (H' : Hp) (l : Addr), H' l = some (.lst ((Rug.sizesAns p q W Hh ns).map V.int)) → Q (.ref l) H'
theorem sc_sizes : FnScope ["p", "q", "W", "H", "borders", "refusal", "rings", "wide", "high"] ["p", "q", "W", "H", "borders"] (defScope s_sizes) := ⟨rfl, rfl, rfl, by decide +kernel, rfl, by decide +kernel, by decide +kernel⟩
section
variable {P : Program} {w : World} {K : PySem.W.Frag} {mg : Str → Option Value} {base : Heap} {C fI B fB fS : Addr}
theorem ok_sizes {f : Addr} {fd : FuncData} (F : Fun K "sizes" "sizes" s_sizes f fd) (T : Txt K mg C fI B fB fS) : FnOk P w K mg base CX0 15 f fd ["p", "q", "W", "H", "borders"] (spSizes K) := by
  refine F.ok sc_sizes (fun vs H Q E h => ?_) (fun cdv A outer s H vs Q E hr h => ⟨_,
    pss_cons (ps_if (pt_cmpR op_gt (pe_callB call_len_seq (by rfl) T.b_len PySem.boot_len (pa_cons (pv 4) pa_nil)) (pe_gint rfl T.g_MOST_NUMBERS) (nomark _)) (pss_one (ps_ret (pe_lst (pa_cons (pe_un un_neg pe_int) pa_nil)))) pss_nil)
    (pss_cons (ps_try_as (i := 5) (tb := fun W => tSeq (tDrop (tCallS (spLookLengths K C) (WE W) (tCons (tLst (tCons (tVar 0) (tCons (tVar 1) (tCons (tVar 2) (tCons (tVar 3) tNil))))) tNil))) (tDrop (tCallS (spLookBorders K C) (WE W) (tCons (tVar 4) tNil))))
      (ts := fun a cls d => tRet (tLst (tCons (tByRef C a cls d (tVar 5)) tNil))) (Wout := fun _ _ _ _ => False) rfl rfl sc_sizes.nd rfl rfl ⟨rfl, by decide, Or.inl T.ref.gC⟩ takes0
      (fun W pn xe tk _ => pss_cons (ps_expr (by exact pe_dfS (ok_look_lengths T) (hr.mono (by decide)) rfl tk (by exact pa_cons (pe_lst (pa_cons (pv 0) (pa_cons (pv 1) (pa_cons (pv 2) (pa_cons (pv 3) pa_nil))))) pa_nil)))
        (pss_one (ps_expr (by exact pe_dfS (ok_look_borders T) (hr.mono (by decide)) rfl tk (by exact pa_cons (pv 4) pa_nil)))))
      (fun a oe cls d pn hz hf => pss_one (ps_ret (pe_lst (by exact pa_cons (pe_byRef T.ref hz hf (pv 5)) pa_nil)))))
    (pss_cons (ps_set (i := 6) sc_sizes.nd rfl (Or.inl rfl) (pe_df (ok_threes T) (hr.mono (by decide)) rfl (by exact pa_cons (pv 4) pa_nil)))
    (pss_cons (ps_set (i := 7) sc_sizes.nd rfl (Or.inl rfl) (pe_df (ok_least_side T) (hr.mono (by decide)) rfl (by exact pa_cons (pv 6) (pa_cons (pv 0) (pa_cons (pv 2) pa_nil)))))
    (pss_cons (ps_set (i := 8) sc_sizes.nd rfl (Or.inl rfl) (pe_df (ok_least_side T) (hr.mono (by decide)) rfl (by exact pa_cons (pv 6) (pa_cons (pv 1) (pa_cons (pv 3) pa_nil)))))
    (pss_cons (ps_if (PW.pt (pw_or (pt_cmp (pc_eqI (pv 7) pe_int) (nomark _)) (pw_or1 (pt_cmp (pc_eqI (pv 8) pe_int) (nomark _))))) (pss_one (ps_ret (pe_lst (pa_cons (pe_un un_neg pe_int) pa_nil)))) pss_nil)
    (pss_one (ps_ret (pe_lst (pa_cons pe_int (pa_cons (pv 7) (pa_cons (pv 8) pa_nil))))))))))), ?_⟩)
  · obtain ⟨p, q, W, Hh, a, ns, rfl, _⟩ := h
    rfl
  · obtain ⟨p, q, W, Hh, a, ns, rfl, hS, k⟩ := h
    unfold Rug.sizesAns at k
    refine q_when (et_test (ev_op (ev_len (ev_var rfl) hS) ev_c rv_I0)) (fun c H1 e1 => ?_) fun c H1 e1 => ?_
    · have c := of_decide_eq_true c
      rw [List.length_map] at c
      rw [if_pos (by omega)] at k
      exact ⟨_, rfl, (by show 1 ≤ sizeLine; decide), fun l hl => k _ l upd_same⟩
    · have c := of_decide_eq_false c
      rw [List.length_map] at c
      rw [if_neg (by omega)] at k
      have eA : [p, q, W, Hh].all Rug.okOne = (Rug.okOne p && Rug.okOne q && Rug.okOne W && Rug.okOne Hh) := by simp [Bool.and_assoc]
      rw [← eA] at k
      refine ⟨_, rfl, _, rfl, _, rfl, _, rfl, (by show 4 ≤ sizeLine; decide), fun l hl => ?_⟩
      have e2 : Ex H (upd H1 l (.lst [.int p, .int q, .int W, .int Hh])) := e1.trans (same_upd hl)
      refine ⟨l, [p, q, W, Hh], rfl, SqL.of upd_same, fun c2 => ?_, fun c2 => ?_⟩
      · rw [if_pos c2] at k
        intro H' d s2 hd
        refine ⟨true, T.ref.te, fun _ a0 _ => ?_, fun z => Bool.noConfusion z⟩
        exact ⟨_, rfl, rfl, rfl, d, _, rfl, hd, (by show 1 ≤ sizeLine; decide), fun l hl => k _ l upd_same⟩
      · rw [if_neg (by rw [c2]; decide)] at k
        refine ⟨_, rfl, a, ns, rfl, Same.seq e2 hS, by omega, fun c3 => ?_, fun c3 H2 e3 => ?_⟩
        · rw [if_pos c3] at k
          intro H' d s2 hd
          refine ⟨true, T.ref.te, fun _ a0 _ => ?_, fun z => Bool.noConfusion z⟩
          exact ⟨_, rfl, rfl, rfl, d, _, rfl, hd, (by show 1 ≤ sizeLine; decide), fun l hl => k _ l upd_same⟩
        · rw [if_neg (by rw [c3]; decide)] at k
          have e4 := e2.trans e3
          obtain ⟨hm, hL⟩ := Rug.rowsOk_one c3
          have ok : ∀ n ∈ [p, q, W, Hh], 1 ≤ n ∧ n ≤ 512 := fun n hn => by
            have := List.all_eq_true.mp c2 n hn
            unfold Rug.okOne at this
            simpa using this
          have o1 := ok p (by simp)
          have o2 := ok q (by simp)
          have o3 := ok W (by simp)
          have o4 := ok Hh (by simp)
          refine ⟨_, rfl, a, ns, rfl, Same.seq e4 hS, hm, by omega, fun r H3 hr3 e5 hR => ?_⟩
          dsimp only [gName]
          refine q_asg (v := .int (Rug.leastSide (Rug.threes ns) p W)) (ev_df (ea_cons (ev_var rfl) (ea_cons (ev_var rfl) (ea_cons (ev_var rfl) ea_nil))) fun H4 e6 Q' E' q' => ⟨r, _, p, W, rfl, hR.ex e6, hL, ⟨o1.1, o1.2, o3.1, o3.2⟩, q'⟩) fun H4 e6 => ?_
          have hR4 := hR.ex e6
          refine q_asg (v := .int (Rug.leastSide (Rug.threes ns) q Hh)) (ev_df (ea_cons (ev_var rfl) (ea_cons (ev_var rfl) (ea_cons (ev_var rfl) ea_nil))) fun H5 e7 Q' E' q' => ⟨r, _, q, Hh, rfl, hR4.ex e7, hL, ⟨o2.1, o2.2, o4.1, o4.2⟩, q'⟩) fun H5 e7 => ?_
          refine q_when (b := decide (Rug.leastSide (Rug.threes ns) p W = 0) || decide (Rug.leastSide (Rug.threes ns) q Hh = 0)) (et_or (et_B (ev_cmp (ev_var rfl) ev_c)) fun _ => et_B (ev_cmp (ev_var rfl) ev_c)) (fun c4 H6 e8 => ?_) fun c4 H6 e8 => ?_
          · simp only [Bool.or_eq_true, decide_eq_true_eq] at c4
            rw [if_pos c4] at k
            exact ⟨_, rfl, (by show 1 ≤ sizeLine; decide), fun l hl => k _ l upd_same⟩
          · simp only [Bool.or_eq_false_iff, decide_eq_false_iff_not] at c4
            rw [if_neg (by omega)] at k
            exact ⟨_, rfl, _, rfl, (by show 3 ≤ sizeLine; decide), fun l hl => k _ l upd_same⟩
end
/-! ### the end -/
theorem all_mk {P : Program} {w : World} {K : PySem.W.Frag} {h : Heap} {mg : Str → Option Value} {fa C f1 fd0 fd1 fd2 fd3 fd4 fd5 fd6 fd7 fd8 : Addr} {tk0 tk1 tk2 tk3 tk4 tk5 tk6 : Tok} (X : K.In h) (G : h.Ns mainGlobals mg) (hfa : mg "sizes" = some (.ref fa))
    {nm q : Str} {N : Addr} {bs : List Value} {sn : List Str} {sub : List Value} {ab : Bool} {col : Option Bool} {dd : Option Addr} {m0 m1 m2 m3 m5 : Option Value}
    {od1 an1 : Option Addr} {sl1 : Array (Option Value)} {oc1 dc1 pm1 cd1 ct1 : Value}
    {odd0 and0 : Option Addr} {sld0 : Array (Option Value)} {ocd0 kVd0 dcd0 pmd0 cdd0 ctd0 : Value}
    {odd1 and1 : Option Addr} {sld1 : Array (Option Value)} {ocd1 kVd1 dcd1 pmd1 cdd1 ctd1 : Value}
    {odd2 and2 : Option Addr} {sld2 : Array (Option Value)} {ocd2 kVd2 dcd2 pmd2 cdd2 ctd2 : Value}
    {odd3 and3 : Option Addr} {sld3 : Array (Option Value)} {ocd3 kVd3 dcd3 pmd3 cdd3 ctd3 : Value}
    {odd4 and4 : Option Addr} {sld4 : Array (Option Value)} {ocd4 kVd4 dcd4 pmd4 cdd4 ctd4 : Value}
    {odd5 and5 : Option Addr} {sld5 : Array (Option Value)} {ocd5 kVd5 dcd5 pmd5 cdd5 ctd5 : Value}
    {odd6 and6 : Option Addr} {sld6 : Array (Option Value)} {ocd6 kVd6 dcd6 pmd6 cdd6 ctd6 : Value}
    {odd7 and7 : Option Addr} {sld7 : Array (Option Value)} {ocd7 kVd7 dcd7 pmd7 cdd7 ctd7 : Value}
    {odd8 and8 : Option Addr} {sld8 : Array (Option Value)} {ocd8 kVd8 dcd8 pmd8 cdd8 ctd8 : Value}
    (aC : PySem.W.nsIn K mainGlobals "Refused" = some (some (.ref C)))
    (xL : K.lookup C = some (excClassObj nm q C N bs [.type "ValueError", .type "Exception", .type "BaseException", .type "object"] true sn sub ab col dd m0 m1 m2 m3 m5 "ValueError.__new__"))
    (sa : PySem.W.findIn K (.ref C) "__setattr__" = some (some (.builtin "object.__setattr__")))
    (ga : PySem.W.findIn K (.ref C) "__getattribute__" = some (some (.builtin "BaseException.__getattribute__")))
    (gg : PySem.W.findIn K (.ref C) "__getattr__" = some none)
    (nb : PySem.W.findIn K (.ref C) "code" = some none)
    (a1 : PySem.W.findIn K (.ref C) "__init__" = some (some (.ref f1)))
    (t1 : PySem.W.typeIn K (.ref f1) = some (.type "function"))
    (l1 : K.lookup f1 = some ⟨oc1, od1, .func (PySem.W.fnOf "__init__" "Refused.__init__" (PySem.RefX.iA ⟨4, 17, 4, 21⟩ ⟨4, 23, 4, 27⟩) (PySem.RefX.iB ⟨5, 8, 5, 12⟩ ⟨5, 8, 5, 17⟩ ⟨5, 20, 5, 24⟩ ⟨5, 8, 5, 24⟩) PySem.RefX.iS .none .none dc1 pm1 an1 cd1 ct1), sl1⟩)
    (c1 : PySem.W.codeIn K cd1 "Refused.__init__" = true)
    (kC : PySem.W.keepIn K (.ref C) = true)
    (eC : PySem.W.subIn K (.ref C) (.type "BaseException") = some true)
    (tC : PySem.W.typeIn K (.ref C) = some (.type "type"))
    (hC : PySem.W.hasDictIn K C = true)
    (iC : PySem.W.isClsIn K C = true)
    (sC : PySem.W.subIn K (.ref C) (.ref C) = some true)
    (g0 : PySem.W.nsIn K mainGlobals "SET" = some (some (.int 0 tk0)))
    (g1 : PySem.W.nsIn K mainGlobals "MET" = some (some (.int 1 tk1)))
    (g2 : PySem.W.nsIn K mainGlobals "MOST_WHOLE" = some (some (.int 512 tk2)))
    (g3 : PySem.W.nsIn K mainGlobals "MOST_KIND" = some (some (.int 2 tk3)))
    (g4 : PySem.W.nsIn K mainGlobals "MOST_LENGTH" = some (some (.int 512 tk4)))
    (g5 : PySem.W.nsIn K mainGlobals "MOST_DEPTH" = some (some (.int 128 tk5)))
    (g6 : PySem.W.nsIn K mainGlobals "MOST_NUMBERS" = some (some (.int 48 tk6)))
    (z0 : PySem.W.nsIn K mainGlobals "len" = some none)
    (z1 : PySem.W.nsIn K mainGlobals "range" = some none)
    (z2 : PySem.W.nsIn K mainGlobals "tuple" = some none)
    (ad0 : PySem.W.nsIn K mainGlobals "fits_along" = some (some (.ref fd0)))
    (ld0 : K.lookup fd0 = some ⟨ocd0, odd0, .func (PySem.W.fnOf "fits_along" "fits_along" (defArgs s_fits_along) (defBody s_fits_along) (defScope s_fits_along) .none kVd0 dcd0 pmd0 and0 cdd0 ctd0), sld0⟩)
    (cd0 : PySem.W.codeIn K cdd0 "fits_along" = true)
    (kd0 : PySem.W.keepIn K (.ref fd0) = true)
    (ad1 : PySem.W.nsIn K mainGlobals "fit_along" = some (some (.ref fd1)))
    (ld1 : K.lookup fd1 = some ⟨ocd1, odd1, .func (PySem.W.fnOf "fit_along" "fit_along" (defArgs s_fit_along) (defBody s_fit_along) (defScope s_fit_along) .none kVd1 dcd1 pmd1 and1 cdd1 ctd1), sld1⟩)
    (cd1 : PySem.W.codeIn K cdd1 "fit_along" = true)
    (kd1 : PySem.W.keepIn K (.ref fd1) = true)
    (ad2 : PySem.W.nsIn K mainGlobals "least_side" = some (some (.ref fd2)))
    (ld2 : K.lookup fd2 = some ⟨ocd2, odd2, .func (PySem.W.fnOf "least_side" "least_side" (defArgs s_least_side) (defBody s_least_side) (defScope s_least_side) .none kVd2 dcd2 pmd2 and2 cdd2 ctd2), sld2⟩)
    (cd2 : PySem.W.codeIn K cdd2 "least_side" = true)
    (kd2 : PySem.W.keepIn K (.ref fd2) = true)
    (ad3 : PySem.W.nsIn K mainGlobals "threes" = some (some (.ref fd3)))
    (ld3 : K.lookup fd3 = some ⟨ocd3, odd3, .func (PySem.W.fnOf "threes" "threes" (defArgs s_threes) (defBody s_threes) (defScope s_threes) .none kVd3 dcd3 pmd3 and3 cdd3 ctd3), sld3⟩)
    (cd3 : PySem.W.codeIn K cdd3 "threes" = true)
    (kd3 : PySem.W.keepIn K (.ref fd3) = true)
    (ad4 : PySem.W.nsIn K mainGlobals "look_kind" = some (some (.ref fd4)))
    (ld4 : K.lookup fd4 = some ⟨ocd4, odd4, .func (PySem.W.fnOf "look_kind" "look_kind" (defArgs s_look_kind) (defBody s_look_kind) (defScope s_look_kind) .none kVd4 dcd4 pmd4 and4 cdd4 ctd4), sld4⟩)
    (cd4 : PySem.W.codeIn K cdd4 "look_kind" = true)
    (kd4 : PySem.W.keepIn K (.ref fd4) = true)
    (ad5 : PySem.W.nsIn K mainGlobals "look_lengths" = some (some (.ref fd5)))
    (ld5 : K.lookup fd5 = some ⟨ocd5, odd5, .func (PySem.W.fnOf "look_lengths" "look_lengths" (defArgs s_look_lengths) (defBody s_look_lengths) (defScope s_look_lengths) .none kVd5 dcd5 pmd5 and5 cdd5 ctd5), sld5⟩)
    (cd5 : PySem.W.codeIn K cdd5 "look_lengths" = true)
    (kd5 : PySem.W.keepIn K (.ref fd5) = true)
    (ad6 : PySem.W.nsIn K mainGlobals "look_depth" = some (some (.ref fd6)))
    (ld6 : K.lookup fd6 = some ⟨ocd6, odd6, .func (PySem.W.fnOf "look_depth" "look_depth" (defArgs s_look_depth) (defBody s_look_depth) (defScope s_look_depth) .none kVd6 dcd6 pmd6 and6 cdd6 ctd6), sld6⟩)
    (cd6 : PySem.W.codeIn K cdd6 "look_depth" = true)
    (kd6 : PySem.W.keepIn K (.ref fd6) = true)
    (ad7 : PySem.W.nsIn K mainGlobals "look_borders" = some (some (.ref fd7)))
    (ld7 : K.lookup fd7 = some ⟨ocd7, odd7, .func (PySem.W.fnOf "look_borders" "look_borders" (defArgs s_look_borders) (defBody s_look_borders) (defScope s_look_borders) .none kVd7 dcd7 pmd7 and7 cdd7 ctd7), sld7⟩)
    (cd7 : PySem.W.codeIn K cdd7 "look_borders" = true)
    (kd7 : PySem.W.keepIn K (.ref fd7) = true)
    (ad8 : PySem.W.nsIn K mainGlobals "sizes" = some (some (.ref fd8)))
    (ld8 : K.lookup fd8 = some ⟨ocd8, odd8, .func (PySem.W.fnOf "sizes" "sizes" (defArgs s_sizes) (defBody s_sizes) (defScope s_sizes) .none kVd8 dcd8 pmd8 and8 cdd8 ctd8), sld8⟩)
    (cd8 : PySem.W.codeIn K cdd8 "sizes" = true)
    (kd8 : PySem.W.keepIn K (.ref fd8) = true)
    : ∃ fd : FuncData, (∀ (s : Shared) (us : List Value), us.length = (["p", "q", "W", "H", "borders"] : List Str).length → BindsTo s fd ⟨us, []⟩ ((["p", "q", "W", "H", "borders"] : List Str).zip us)) ∧ ∀ base : Heap, K.In base → base.Ns mainGlobals mg → FnOk P w K mg base CX0 15 fa fd ["p", "q", "W", "H", "borders"] (spSizes K) := by
  have low : PySem.RefX.RefTxt K mg C f1 :=
    { gC := PySem.W.mg_of X G aC, cls := ⟨nm, q, N, bs, _, sn, sub, ab, col, dd, m0, m1, m2, m3, m5, xL, by decide +kernel⟩, sa := sa, ga := ga, gg := gg, noN := nb, iC := a1, tC := t1, kC := kC, exC := eC, tyC := tC, hdC := hC, te := exm_self eC iC tC sC,
      fn := ⟨_, _, _, _, _, _, _, _, _, _, _, _, _, _, l1, c1⟩ }
  have T : Txt K mg C f1 fa fa fa :=
    { ref := low
      g_SET := ⟨_, PySem.W.mg_of X G g0⟩
      g_MET := ⟨_, PySem.W.mg_of X G g1⟩
      g_MOST_WHOLE := ⟨_, PySem.W.mg_of X G g2⟩
      g_MOST_KIND := ⟨_, PySem.W.mg_of X G g3⟩
      g_MOST_LENGTH := ⟨_, PySem.W.mg_of X G g4⟩
      g_MOST_DEPTH := ⟨_, PySem.W.mg_of X G g5⟩
      g_MOST_NUMBERS := ⟨_, PySem.W.mg_of X G g6⟩
      b_len := PySem.W.mg_none_of X G z0
      b_range := PySem.W.mg_none_of X G z1
      b_tuple := PySem.W.mg_none_of X G z2
      d_fits_along := Fd.mk' (PySem.W.mg_of X G ad0) (fun_mk (st := s_fits_along) ld0 cd0 kd0)
      d_fit_along := Fd.mk' (PySem.W.mg_of X G ad1) (fun_mk (st := s_fit_along) ld1 cd1 kd1)
      d_least_side := Fd.mk' (PySem.W.mg_of X G ad2) (fun_mk (st := s_least_side) ld2 cd2 kd2)
      d_threes := Fd.mk' (PySem.W.mg_of X G ad3) (fun_mk (st := s_threes) ld3 cd3 kd3)
      d_look_kind := Fd.mk' (PySem.W.mg_of X G ad4) (fun_mk (st := s_look_kind) ld4 cd4 kd4)
      d_look_lengths := Fd.mk' (PySem.W.mg_of X G ad5) (fun_mk (st := s_look_lengths) ld5 cd5 kd5)
      d_look_depth := Fd.mk' (PySem.W.mg_of X G ad6) (fun_mk (st := s_look_depth) ld6 cd6 kd6)
      d_look_borders := Fd.mk' (PySem.W.mg_of X G ad7) (fun_mk (st := s_look_borders) ld7 cd7 kd7)
      d_sizes := Fd.mk' (PySem.W.mg_of X G ad8) (fun_mk (st := s_sizes) ld8 cd8 kd8) }
  obtain ⟨f, fd, e1, F⟩ := T.d_sizes.ex
  cases (Value.ref.inj (Option.some.inj (hfa.symm.trans e1)) : fa = f)
  refine ⟨fd, ?_, fun base _ _ => ok_sizes F T⟩
  obtain ⟨_, _, _, _, _, _, _, _, _, rfl, _, _⟩ := F.ex
  exact fun s us hu => match us, hu with | [_, _, _, _, _], _ => .of_eq rfl
end RugW
open PySem PySem.W PyProof.Rows
set_option maxRecDepth 100000 in
set_option maxHeartbeats 8000000 in
theorem PySem.Challenge.cw_rugborders_s07_sizes_holds : PySem.Challenge.rw_rugborders_s07_sizes.Holds := by
  w_on; k_headS; (case hw => exact ⟨[.int 1, .int 1, .int 1, .int 1, .list []], by decide +kernel, by decide +kernel⟩)
  k_fillS
  refine L2.walk_specK (r := PySem.Challenge.rw_rugborders_s07_sizes) (k := 15) (CX := L2.CX0) (ps := ["p", "q", "W", "H", "borders"]) (sp := RugW.spSizes) (by decide +kernel) rfl rfl ⟨rfl, by decide, by decide⟩ (fun w h Y => PySem.W.kIn_of Y) ?F ?S (fun _ _ _ _ z => z)
  case F =>
    intro w mg fa h Y KX G hmg
    refine' RugW.all_mk KX G hmg ?cs_aC ?cs_xL ?cs_sa ?cs_ga ?cs_gg ?cs_nb ?cs_a1 ?cs_t1 ?cs_l1 ?cs_c1 ?cs_kC ?cs_eC ?cs_tC ?cs_hC ?cs_iC ?cs_sC ?cs_g0 ?cs_g1 ?cs_g2 ?cs_g3 ?cs_g4 ?cs_g5 ?cs_g6 ?cs_z0 ?cs_z1 ?cs_z2 ?cs_ad0 ?cs_ld0 ?cs_cd0 ?cs_kd0 ?cs_ad1 ?cs_ld1 ?cs_cd1 ?cs_kd1 ?cs_ad2 ?cs_ld2 ?cs_cd2 ?cs_kd2 ?cs_ad3 ?cs_ld3 ?cs_cd3 ?cs_kd3 ?cs_ad4 ?cs_ld4 ?cs_cd4 ?cs_kd4 ?cs_ad5 ?cs_ld5 ?cs_cd5 ?cs_kd5 ?cs_ad6 ?cs_ld6 ?cs_cd6 ?cs_kd6 ?cs_ad7 ?cs_ld7 ?cs_cd7 ?cs_kd7 ?cs_ad8 ?cs_ld8 ?cs_cd8 ?cs_kd8
    (case cs_aC => k_is)
    (case cs_xL => k_is)
    (case cs_sa => k_is)
    (case cs_ga => k_is)
    (case cs_gg => k_is)
    (case cs_nb => k_is)
    (case cs_a1 => k_is)
    (case cs_t1 => k_is)
    (case cs_l1 => k_is)
    (case cs_c1 => k_is)
    (case cs_kC => k_is)
    (case cs_eC => k_is)
    (case cs_tC => k_is)
    (case cs_hC => k_is)
    (case cs_iC => k_is)
    (case cs_sC => first | rfl | k_is)
    (case cs_g0 => k_is)
    (case cs_g1 => k_is)
    (case cs_g2 => k_is)
    (case cs_g3 => k_is)
    (case cs_g4 => k_is)
    (case cs_g5 => k_is)
    (case cs_g6 => k_is)
    (case cs_z0 => k_is)
    (case cs_z1 => k_is)
    (case cs_z2 => k_is)
    (case cs_ad0 => k_is)
    (case cs_ld0 => k_is)
    (case cs_cd0 => k_is)
    (case cs_kd0 => k_is)
    (case cs_ad1 => k_is)
    (case cs_ld1 => k_is)
    (case cs_cd1 => k_is)
    (case cs_kd1 => k_is)
    (case cs_ad2 => k_is)
    (case cs_ld2 => k_is)
    (case cs_cd2 => k_is)
    (case cs_kd2 => k_is)
    (case cs_ad3 => k_is)
    (case cs_ld3 => k_is)
    (case cs_cd3 => k_is)
    (case cs_kd3 => k_is)
    (case cs_ad4 => k_is)
    (case cs_ld4 => k_is)
    (case cs_cd4 => k_is)
    (case cs_kd4 => k_is)
    (case cs_ad5 => k_is)
    (case cs_ld5 => k_is)
    (case cs_cd5 => k_is)
    (case cs_kd5 => k_is)
    (case cs_ad6 => k_is)
    (case cs_ld6 => k_is)
    (case cs_cd6 => k_is)
    (case cs_kd6 => k_is)
    (case cs_ad7 => k_is)
    (case cs_ld7 => k_is)
    (case cs_cd7 => k_is)
    (case cs_kd7 => k_is)
    (case cs_ad8 => k_is)
    (case cs_ld8 => k_is)
    (case cs_cd8 => k_is)
    (case cs_kd8 => k_is)
  case S =>
    intro K H xs a hO hwi hask hx
    obtain ⟨p, q, W, Hh, ns, u⟩ := a
    cases hx with
    | cons x1 hx =>
    cases hx with
    | cons x2 hx =>
    cases hx with
    | cons x3 hx =>
    cases hx with
    | cons x4 hx =>
    cases hx with
    | cons x5 hx =>
    cases hx
    cases x1; cases x2; cases x3; cases x4
    cases x5 with
    | lst hs ha =>
    have e := L2.ints_dw ns _ ha
    subst e
    obtain ⟨w1, hwi⟩ := Bool.and_eq_true_iff.mp hwi
    obtain ⟨w2, hwi⟩ := Bool.and_eq_true_iff.mp hwi
    obtain ⟨w3, hwi⟩ := Bool.and_eq_true_iff.mp hwi
    obtain ⟨w4, hwi⟩ := Bool.and_eq_true_iff.mp hwi
    obtain ⟨w5, hwi⟩ := Bool.and_eq_true_iff.mp hwi
    have v1 : (0 : Int) ≤ p := of_decide_eq_true (Bool.and_eq_true_iff.mp w1).1
    have v2 : (0 : Int) ≤ q := of_decide_eq_true (Bool.and_eq_true_iff.mp w2).1
    have v3 : (0 : Int) ≤ W := of_decide_eq_true (Bool.and_eq_true_iff.mp w3).1
    have v4 : (0 : Int) ≤ Hh := of_decide_eq_true (Bool.and_eq_true_iff.mp w4).1
    have v5 : ∀ x ∈ (ns : List Int), (0 : Int) ≤ x := fun x hx => of_decide_eq_true (Bool.and_eq_true_iff.mp (List.all_eq_true.mp (Bool.and_eq_true_iff.mp w5).2 x hx)).1
    refine ⟨p, q, W, Hh, _, ns, rfl, hs, fun H' l hl => ?_⟩
    show L2.Dw K H' (.ref l) (.list ((PyWqbbch.sizes p q W Hh ns).map WData.int))
    rw [Rug.sizes_law v1 v2 v3 v4 v5]
    exact .lst (L2.SqL.of hl) (L2.dw_ints _)
#print axioms PySem.Challenge.cw_rugborders_s07_sizes_holds
