import PyProof.Rows.All
import Wide.All
import OpenK.AllK
import Wide.FinOn
import PyProof.EqAt
import PyProof.EqKinds
import PyProof.TupleCall
import Open.SpecLaws
import KE.OsGo
import HandS.ForMost
import HandS.ForSpec
import HandS.SetKeys
import HandS.Evl
import HandS.Iter
import HandS.Conv
import KE.KDictKeyed
import PySem.Challenge.RW_rugborders_s05_found
set_option Elab.async false
set_option linter.all false
set_option maxRecDepth 100000
set_option maxHeartbeats 4000000
/-! Plain law, part 0: bytes and whole numbers, rows of a text, charts. -/
namespace Rug
open Wqbbch

/-- a byte as a whole number -/
def bi (c : UInt8) : Int := (c.toNat : Int)
theorem bi_nonneg (c : UInt8) : 0 ≤ bi c := Int.natCast_nonneg _
theorem bi_le (c : UInt8) : bi c ≤ 255 := by
  have := c.toNat_lt
  unfold bi
  omega
theorem bi_inj {a b : UInt8} (h : bi a = bi b) : a = b := by
  unfold bi at h
  exact UInt8.toNat_inj.mp (by omega)
theorem bi_ten (c : UInt8) : (bi c = 10) ↔ c = 10 := ⟨fun h => bi_inj (b := 10) (by rw [h]; rfl), fun h => by subst h; rfl⟩
/-- what is handed in are bytes -/
theorem text_bi : ∀ (t : List Int), (∀ x ∈ t, 0 ≤ x ∧ x ≤ 255) → (RugDNeutral.text t).map bi = t
  | [], _ => rfl
  | x :: r, h => by
    have ih := text_bi r (fun y hy => h y (List.mem_cons_of_mem _ hy))
    obtain ⟨h0, h1⟩ := h x List.mem_cons_self
    show bi (UInt8.ofNat x.toNat) :: (RugDNeutral.text r).map bi = x :: r
    rw [ih]
    congr 1
    unfold bi
    rw [UInt8.toNat_ofNat']
    omega
theorem text_len (t : List Int) : (RugDNeutral.text t).length = t.length := by
  unfold RugDNeutral.text RugDNeutral.nats
  rw [List.length_map, List.length_map]
/-- some bytes are what is handed in -/
theorem text_of (t : List Int) (h : ∀ x ∈ t, 0 ≤ x ∧ x ≤ 255) : ∃ b : Bytes, t = b.map bi ∧ RugDNeutral.text t = b := ⟨_, (text_bi t h).symm, rfl⟩

/-! ### rows -/
def rowsGo (done : List Bytes) (w : Bytes) : Bytes → List Bytes
  | [] => done ++ [w]
  | x :: r => if x = 10 then rowsGo (done ++ [w]) [] r else rowsGo done (w ++ [x]) r
def rows (b : Bytes) : List Bytes := rowsGo [] [] b
/-- one byte more -/
def step (l : List Bytes) (x : UInt8) : List Bytes := if x = 10 then l ++ [[]] else l.dropLast ++ [l.getLastD [] ++ [x]]
theorem rowsGo_snoc : ∀ (b : Bytes) (done : List Bytes) (w : Bytes) (x : UInt8), rowsGo done w (b ++ [x]) = step (rowsGo done w b) x
  | [], done, w, x => by
    unfold step
    simp only [List.nil_append, rowsGo, List.getLastD_concat, List.dropLast_concat]
  | y :: r, done, w, x => by
    show (if y = 10 then rowsGo (done ++ [w]) [] (r ++ [x]) else rowsGo done (w ++ [y]) (r ++ [x])) = step (if y = 10 then rowsGo (done ++ [w]) [] r else rowsGo done (w ++ [y]) r) x
    split
    · exact rowsGo_snoc r _ _ x
    · exact rowsGo_snoc r _ _ x
theorem rows_snoc (b : Bytes) (x : UInt8) : rows (b ++ [x]) = step (rows b) x := rowsGo_snoc b [] [] x
theorem rowsGo_ne : ∀ (b : Bytes) (done : List Bytes) (w : Bytes), rowsGo done w b ≠ []
  | [], done, w => by simp [rowsGo]
  | y :: r, done, w => by
    unfold rowsGo
    split
    · exact rowsGo_ne r _ _
    · exact rowsGo_ne r _ _
theorem rows_ne (b : Bytes) : rows b ≠ [] := rowsGo_ne b [] []
theorem rowsGo_len : ∀ (b : Bytes) (done : List Bytes) (w : Bytes), (rowsGo done w b).length ≤ done.length + 1 + b.length
  | [], done, w => by simp [rowsGo]
  | y :: r, done, w => by
    unfold rowsGo
    split
    · have := rowsGo_len r (done ++ [w]) []
      simp only [List.length_append, List.length_cons, List.length_nil] at this ⊢
      omega
    · have := rowsGo_len r done (w ++ [y])
      simp only [List.length_cons] at this ⊢
      omega
theorem rows_len (b : Bytes) : (rows b).length ≤ b.length + 1 := by
  have := rowsGo_len b [] []
  simp only [List.length_nil] at this
  unfold rows
  omega
theorem rowsGo_each : ∀ (b : Bytes) (done : List Bytes) (w : Bytes) (n : Nat), (∀ r ∈ done, r.length ≤ n + b.length) → w.length ≤ n → ∀ r ∈ rowsGo done w b, r.length ≤ n + b.length
  | [], done, w, n, hd, hw, r, hr => by
    rcases List.mem_append.mp hr with h | h
    · exact hd r h
    · have e : r = w := by simpa using h
      subst e
      show r.length ≤ n + 0
      omega
  | y :: t, done, w, n, hd, hw, r, hr => by
    have hr : r ∈ (if y = 10 then rowsGo (done ++ [w]) [] t else rowsGo done (w ++ [y]) t) := hr
    have hd' : ∀ r ∈ done, r.length ≤ n + 1 + t.length := fun r h => by
      have := hd r h
      simp only [List.length_cons] at this
      omega
    have goal : r.length ≤ n + 1 + t.length := by
      split at hr
      · refine rowsGo_each t _ _ (n + 1) (fun r h => ?_) (Nat.zero_le _) r hr
        rcases List.mem_append.mp h with h | h
        · exact hd' r h
        · have e : r = w := by simpa using h
          subst e
          omega
      · refine rowsGo_each t _ _ (n + 1) hd' ?_ r hr
        rw [List.length_append]
        exact Nat.succ_le_succ hw
    simp only [List.length_cons]
    omega
theorem rows_each (b : Bytes) : ∀ r ∈ rows b, r.length ≤ b.length := fun r hr => by
  have := rowsGo_each b [] [] 0 (fun _ h => nomatch h) (Nat.le_refl _) r hr
  omega
/-- the text that rows make -/
def txt (rs : List Bytes) : Bytes := rs.flatMap fun r => r ++ [10]
theorem txt_append (a b : List Bytes) : txt (a ++ b) = txt a ++ txt b := List.flatMap_append
theorem txt_one (r : Bytes) : txt [r] = r ++ [10] := by simp [txt]
/-- the rows of a text make it again -/
theorem rowsGo_txt : ∀ (b : Bytes) (done : List Bytes) (w : Bytes), txt (rowsGo done w b).dropLast ++ (rowsGo done w b).getLastD [] = txt done ++ w ++ b
  | [], done, w => by simp [rowsGo]
  | y :: r, done, w => by
    show txt (if y = 10 then rowsGo (done ++ [w]) [] r else rowsGo done (w ++ [y]) r).dropLast ++ (if y = 10 then rowsGo (done ++ [w]) [] r else rowsGo done (w ++ [y]) r).getLastD [] = _
    split
    · rename_i e
      subst e
      rw [rowsGo_txt r, txt_append, txt_one]
      simp
    · rw [rowsGo_txt r]
      simp
theorem rows_txt (b : Bytes) : txt (rows b).dropLast ++ (rows b).getLastD [] = b := by
  have := rowsGo_txt b [] []
  simpa [rows, txt] using this
/-- no row holds the byte 10 -/
theorem rowsGo_no : ∀ (b : Bytes) (done : List Bytes) (w : Bytes), (∀ r ∈ done, (10 : UInt8) ∉ r) → (10 : UInt8) ∉ w → ∀ r ∈ rowsGo done w b, (10 : UInt8) ∉ r
  | [], done, w, hd, hw, r, hr => by
    rcases List.mem_append.mp hr with h | h
    · exact hd r h
    · have e : r = w := by simpa using h
      subst e
      exact hw
  | y :: t, done, w, hd, hw, r, hr => by
    have hr : r ∈ (if y = 10 then rowsGo (done ++ [w]) [] t else rowsGo done (w ++ [y]) t) := hr
    split at hr
    · refine rowsGo_no t _ _ (fun r h => ?_) (by simp) r hr
      rcases List.mem_append.mp h with h | h
      · exact hd r h
      · have e : r = w := by simpa using h
        subst e
        exact hw
    · rename_i ne
      refine rowsGo_no t _ _ hd (fun h => ?_) r hr
      rcases List.mem_append.mp h with h | h
      · exact hw h
      · have e : (10 : UInt8) = y := by simpa using h
        exact ne e.symm
/-- the specification's cut -/
theorem cut_rows : ∀ (b : Bytes) (p : Nat) (done : List Bytes) (w : Bytes), done ++ (cut LF p w b).map (·.2) = rowsGo done w b
  | [], p, done, w => rfl
  | y :: r, p, done, w => by
    show done ++ (if y = LF then (p, w) :: cut LF (p + w.length + 1) [] r else cut LF p (w ++ [y]) r).map (·.2) = if y = 10 then rowsGo (done ++ [w]) [] r else rowsGo done (w ++ [y]) r
    by_cases e : y = 10
    · rw [if_pos (show y = LF from e), if_pos e, ← cut_rows r (p + w.length + 1)]
      simp
    · rw [if_neg (show ¬ y = LF from e), if_neg e, cut_rows r p]
theorem cut_all (b : Bytes) : (cut LF 0 [] b).map (·.2) = rows b := by
  have := cut_rows b 0 [] []
  simpa [rows] using this

/-! ### colours -/
def isCol (c : UInt8) : Bool := (decide (97 ≤ bi c) && decide (bi c ≤ 122)) || (decide (65 ≤ bi c) && decide (bi c ≤ 90)) || (decide (48 ≤ bi c) && decide (bi c ≤ 57))
def col (c : UInt8) : Nat := (colourOf c).getD 0
theorem all_bytes {p : UInt8 → Prop} (h : ∀ n : Fin 256, p (UInt8.ofNat n.val)) (c : UInt8) : p c := by
  have := h ⟨c.toNat, c.toNat_lt⟩
  simpa using this
theorem isCol_iff (c : UInt8) : (colourOf c).isSome = isCol c := by
  refine all_bytes (p := fun c => (colourOf c).isSome = isCol c) ?_ c
  decide +kernel
theorem col_byte (c : UInt8) (h : isCol c = true) : byteOf (col c) = c := by
  refine all_bytes (p := fun c => isCol c = true → byteOf (col c) = c) ?_ c h
  decide +kernel
theorem col_lt (c : UInt8) (h : isCol c = true) : col c < COLOURS := by
  refine all_bytes (p := fun c => isCol c = true → col c < COLOURS) ?_ c h
  decide +kernel
theorem byte_inj : ∀ (a b : Nat), a < COLOURS → b < COLOURS → byteOf a = byteOf b → a = b := by
  have : ∀ (a b : Fin 62), byteOf a.val = byteOf b.val → a = b := by decide +kernel
  intro a b ha hb h
  have := this ⟨a, ha⟩ ⟨b, hb⟩ h
  exact congrArg Fin.val this
theorem byte_col (k : Nat) (h : k < COLOURS) : isCol (byteOf k) = true := by
  have : ∀ (a : Fin 62), isCol (byteOf a.val) = true := by decide +kernel
  exact this ⟨k, h⟩
theorem byte_zero : byteOf 0 = 97 := rfl
theorem not_lf (k : Nat) (h : k < COLOURS) : byteOf k ≠ 10 := by
  have : ∀ (a : Fin 62), byteOf a.val ≠ 10 := by decide +kernel
  exact this ⟨k, h⟩

/-! ### charts -/
/-- rows are a chart's -/
def isRight (rs : List Bytes) : Bool :=
  decide (1 ≤ rs.length) && decide (rs.length ≤ 512) && (decide (1 ≤ (rs.headD []).length) && decide ((rs.headD []).length ≤ 512)) && decide ((rs.headD []).length * rs.length ≤ 65536) &&
    rs.all fun r => decide (r.length = (rs.headD []).length) && r.all isCol
def readChart (b : Bytes) : Option (List Bytes) := if (rows b).getLastD [] ≠ [] ∨ isRight (rows b).dropLast = false then none else some (rows b).dropLast
def toChart (rs : List Bytes) : Chart := ⟨(rs.headD []).length, rs.length, rs.map fun r => r.map col⟩
structure Right (rs : List Bytes) (W H : Nat) : Prop where
  high : rs.length = H
  each : ∀ r ∈ rs, r.length = W
  cols : ∀ r ∈ rs, ∀ c ∈ r, isCol c = true
  w1 : 1 ≤ W
  w2 : W ≤ 512
  h1 : 1 ≤ H
  h2 : H ≤ 512
  kn : W * H ≤ 65536
theorem Right.head {rs : List Bytes} {W H : Nat} (h : Right rs W H) : (rs.headD []).length = W := by
  match rs, h with
  | [], h => exact absurd h.high (by have := h.h1; simp only [List.length_nil]; omega)
  | r :: l, h => exact h.each r List.mem_cons_self
theorem right_of {rs : List Bytes} (h : isRight rs = true) : Right rs (rs.headD []).length rs.length := by
  unfold isRight at h
  simp only [Bool.and_eq_true, decide_eq_true_eq, List.all_eq_true] at h
  obtain ⟨⟨⟨⟨h1, h2⟩, h3, h4⟩, h5⟩, h6⟩ := h
  exact ⟨rfl, fun r hr => (h6 r hr).1, fun r hr c hc => (h6 r hr).2 c hc, h3, h4, h1, h2, h5⟩
theorem of_right {rs : List Bytes} {W H : Nat} (h : Right rs W H) : isRight rs = true := by
  unfold isRight
  simp only [Bool.and_eq_true, decide_eq_true_eq, List.all_eq_true]
  rw [h.head, h.high]
  exact ⟨⟨⟨⟨h.h1, h.h2⟩, h.w1, h.w2⟩, h.kn⟩, fun r hr => ⟨h.each r hr, h.cols r hr⟩⟩
theorem map_col_byte : ∀ (r : Bytes), (∀ c ∈ r, isCol c = true) → (r.map col).map byteOf = r
  | [], _ => rfl
  | c :: r, h => by
    have ih := map_col_byte r (fun c hc => h c (List.mem_cons_of_mem _ hc))
    show byteOf (col c) :: (r.map col).map byteOf = c :: r
    rw [ih, col_byte c (h c List.mem_cons_self)]
theorem toChart_text {rs : List Bytes} (h : ∀ r ∈ rs, ∀ c ∈ r, isCol c = true) : (toChart rs).text = txt rs := by
  show (rs.map fun r => r.map col).flatMap (fun r => r.map byteOf ++ [LF]) = rs.flatMap fun r => r ++ [10]
  rw [List.flatMap_map]
  have : ∀ (l : List Bytes), (∀ r ∈ l, ∀ c ∈ r, isCol c = true) → (l.flatMap fun r => (r.map col).map byteOf ++ [LF]) = l.flatMap fun r => r ++ [10] := by
    intro l
    induction l with
    | nil => intro _; rfl
    | cons r l ih =>
      intro h
      rw [List.flatMap_cons, List.flatMap_cons, ih (fun r hr => h r (List.mem_cons_of_mem _ hr)), map_col_byte r (h r List.mem_cons_self)]
      rfl
  exact this rs h
theorem filterMap_cols : ∀ (r : Bytes), (∀ c ∈ r, isCol c = true) → (r.map colourOf).filterMap id = r.map col
  | [], _ => rfl
  | c :: r, h => by
    have ih := filterMap_cols r (fun c hc => h c (List.mem_cons_of_mem _ hc))
    have hc := isCol_iff c
    rw [h c List.mem_cons_self] at hc
    rw [List.map_cons, List.map_cons]
    obtain ⟨k, hk⟩ := Option.isSome_iff_exists.mp hc
    have e : (some k :: r.map colourOf).filterMap id = k :: (r.map colourOf).filterMap id := rfl
    rw [hk, e, ih]
    unfold col
    rw [hk]
    rfl
theorem filterMap_len : ∀ (r : Bytes), ((r.map colourOf).filterMap id).length ≤ r.length := fun r => by
  have := List.length_filterMap_le id (r.map colourOf)
  rwa [List.length_map] at this
theorem filterMap_full : ∀ (r : Bytes), ((r.map colourOf).filterMap id).length = r.length → ∀ c ∈ r, isCol c = true
  | [], _, c, hc => nomatch hc
  | x :: r, h, c, hc => by
    rw [List.map_cons] at h
    cases e : colourOf x with
    | none =>
      rw [e, List.filterMap_cons_none rfl] at h
      have := filterMap_len r
      simp only [List.length_cons] at h
      omega
    | some k =>
      have e2 : (some k :: r.map colourOf).filterMap id = k :: (r.map colourOf).filterMap id := rfl
      rw [e, e2] at h
      simp only [List.length_cons, Nat.add_right_cancel_iff] at h
      rcases List.mem_cons.mp hc with rfl | hc
      · rw [← isCol_iff, e]; rfl
      · exact filterMap_full r h c hc

/-- the chart of the specification's reading -/
def specChart (b : Bytes) : Chart :=
  let l := ((cut LF 0 [] b).map fun (x : Nat × Bytes) => x.2.map colourOf).dropLast
  ⟨(l.headD []).length, l.length, l.map fun (r : List (Option Nat)) => r.filterMap id⟩
theorem chartOf_eq (b : Bytes) : chartOf b = if (specChart b).right = true ∧ (specChart b).text = b then some (specChart b) else none := rfl
theorem specChart_eq (b : Bytes) : specChart b = ⟨((rows b).dropLast.headD []).length, (rows b).dropLast.length, (rows b).dropLast.map fun r => (r.map colourOf).filterMap id⟩ := by
  have e : ((cut LF 0 [] b).map fun (x : Nat × Bytes) => x.2.map colourOf).dropLast = (rows b).dropLast.map fun r => r.map colourOf := by
    rw [← cut_all, ← List.map_dropLast, ← List.map_dropLast, List.map_map]
    rfl
  unfold specChart
  rw [e]
  have h1 : ∀ l : List Bytes, ((l.map fun r => r.map colourOf).headD []).length = (l.headD []).length := by
    intro l
    cases l with
    | nil => rfl
    | cons r l => simp
  simp only [h1, List.length_map, List.map_map]
  rfl
theorem specChart_of {b : Bytes} {rs : List Bytes} (e : (rows b).dropLast = rs) (h : ∀ r ∈ rs, ∀ c ∈ r, isCol c = true) : specChart b = toChart rs := by
  rw [specChart_eq, e]
  unfold toChart
  congr 1
  exact List.map_congr_left fun r hr => filterMap_cols r (h r hr)
theorem toChart_right {rs : List Bytes} {W H : Nat} (h : Right rs W H) : (toChart rs).right = true := by
  unfold Chart.right toChart sizeOk SIDE KNOTS
  simp only [Bool.and_eq_true, decide_eq_true_eq, List.all_eq_true, List.length_map, h.head, h.high]
  refine ⟨⟨h.w1, h.w2, h.h1, h.h2⟩, h.kn, trivial, fun r hr => ?_⟩
  obtain ⟨q, hq, rfl⟩ := List.mem_map.mp hr
  refine ⟨by rw [List.length_map, h.each q hq], fun k hk => ?_⟩
  obtain ⟨c, hc, rfl⟩ := List.mem_map.mp hk
  exact col_lt c (h.cols q hq c hc)
theorem chartOf_read (b : Bytes) : chartOf b = (readChart b).map toChart := by
  unfold readChart
  rw [chartOf_eq]
  by_cases hc : (rows b).getLastD [] ≠ [] ∨ isRight (rows b).dropLast = false
  · rw [if_pos hc]
    refine if_neg ?_
    rintro ⟨hr, ht⟩
    -- the rows are right and the last is empty
    have hs := specChart_eq b
    have R : Right (rows b).dropLast ((rows b).dropLast.headD []).length (rows b).dropLast.length := by
      rw [hs] at hr
      unfold Chart.right sizeOk SIDE KNOTS at hr
      simp only [Bool.and_eq_true, decide_eq_true_eq, List.all_eq_true, List.length_map] at hr
      obtain ⟨⟨a1, a2, a3, a4⟩, a5, _, a7⟩ := hr
      have len : ∀ r ∈ (rows b).dropLast, ((r.map colourOf).filterMap id).length = ((rows b).dropLast.headD []).length := fun r hr =>
        (a7 _ (List.mem_map.mpr ⟨r, hr, rfl⟩)).1
      -- lengths of the text: each row is whole
      have tl : (txt (rows b).dropLast).length + ((rows b).getLastD []).length = b.length := by
        have := congrArg List.length (rows_txt b)
        rwa [List.length_append] at this
      have sum1 : ∀ l : List Bytes, (l.flatMap fun r => (((r.map colourOf).filterMap id).map byteOf) ++ [LF]).length ≤ (txt l).length := by
        intro l
        induction l with
        | nil => exact Nat.le_refl _
        | cons r l ih =>
          unfold txt at ih ⊢
          rw [List.flatMap_cons, List.flatMap_cons, List.length_append, List.length_append, List.length_append, List.length_append, List.length_map]
          have := filterMap_len r
          simp only [List.length_cons, List.length_nil] at ih ⊢
          omega
      have sum2 : ∀ l : List Bytes, (l.flatMap fun r => (((r.map colourOf).filterMap id).map byteOf) ++ [LF]).length = (txt l).length → ∀ r ∈ l, ((r.map colourOf).filterMap id).length = r.length := by
        intro l
        induction l with
        | nil => intro _ r hr; exact nomatch hr
        | cons r l ih =>
          intro h q hq
          have h' := sum1 l
          unfold txt at h h' ih
          rw [List.flatMap_cons, List.flatMap_cons, List.length_append, List.length_append, List.length_append, List.length_append, List.length_map] at h
          have := filterMap_len r
          simp only [List.length_cons, List.length_nil] at h
          rcases List.mem_cons.mp hq with rfl | hq
          · omega
          · exact ih (by omega) q hq
      have st : (specChart b).text.length = ((rows b).dropLast.flatMap fun r => (((r.map colourOf).filterMap id).map byteOf) ++ [LF]).length := by
        rw [hs]
        unfold Chart.text
        rw [List.flatMap_map]
      rw [ht] at st
      have le := sum1 (rows b).dropLast
      have full := sum2 (rows b).dropLast (by omega)
      exact ⟨rfl, fun r hr => (full r hr).symm.trans (len r hr), fun r hr => filterMap_full r (full r hr), a1, a2, a3, a4, a5⟩
    have hs2 : specChart b = toChart (rows b).dropLast := specChart_of rfl R.cols
    rw [hs2, toChart_text R.cols] at ht
    have hl : (rows b).getLastD [] = [] := by
      have q := rows_txt b
      rw [ht] at q
      exact List.append_right_eq_self.mp q
    rcases hc with hc | hc
    · exact hc hl
    · rw [of_right R] at hc
      cases hc
  · rw [if_neg hc]
    have hl : (rows b).getLastD [] = [] := Classical.byContradiction fun h => hc (.inl h)
    have hr : isRight (rows b).dropLast = true := by
      cases e : isRight (rows b).dropLast with
      | true => rfl
      | false => exact absurd (.inr e) hc
    have R := right_of hr
    have hs : specChart b = toChart (rows b).dropLast := specChart_of rfl R.cols
    rw [hs]
    refine if_pos ⟨toChart_right R, ?_⟩
    rw [toChart_text R.cols]
    have q := rows_txt b
    rw [hl, List.append_nil] at q
    exact q
theorem read_right {b : Bytes} {rs : List Bytes} (h : readChart b = some rs) : Right rs (rs.headD []).length rs.length := by
  unfold readChart at h
  split at h
  · cases h
  · rename_i hc
    cases h
    refine right_of ?_
    cases e : isRight (rows b).dropLast with
    | true => rfl
    | false => exact absurd (.inr e) hc
/-- a knot -/
def knot (rs : List Bytes) (x y : Nat) : UInt8 := (rs.getD y []).getD x 0
theorem at_knot {rs : List Bytes} {W H x y : Nat} (h : Right rs W H) (hx : x < W) (hy : y < H) : byteOf ((toChart rs).at_ x y) = knot rs x y ∧ (toChart rs).at_ x y = col (knot rs x y) ∧ isCol (knot rs x y) = true := by
  have hy' : y < rs.length := by rw [h.high]; exact hy
  have hr : rs.getD y [] ∈ rs := by
    rw [List.getD_eq_getElem?_getD, List.getElem?_eq_getElem hy']
    exact List.getElem_mem hy'
  have hx' : x < (rs.getD y []).length := by rw [h.each _ hr]; exact hx
  have e : (toChart rs).at_ x y = col (knot rs x y) := by
    unfold Chart.at_ toChart knot
    simp only [List.getD_eq_getElem?_getD, List.getElem?_map, List.getElem?_eq_getElem hy', Option.map_some, Option.getD_some]
    have hx2 : x < rs[y].length := by
      have := hx'
      rw [List.getD_eq_getElem?_getD, List.getElem?_eq_getElem hy'] at this
      exact this
    rw [List.getElem?_eq_getElem hx2]
    rfl
  have c : isCol (knot rs x y) = true := by
    refine h.cols _ hr _ ?_
    show (rs.getD y []).getD x 0 ∈ rs.getD y []
    generalize rs.getD y [] = q at hx'
    rw [List.getD_eq_getElem?_getD, List.getElem?_eq_getElem hx']
    exact List.getElem_mem hx'
  exact ⟨by rw [e, col_byte _ c], e, c⟩
/-- rows by a function -/
def byRows (w h : Nat) (g : Nat → Nat → UInt8) : List Bytes := (List.range h).map fun y => (List.range w).map fun x => g x y
theorem by_text (w h : Nat) (f : Nat → Nat → Nat) (g : Nat → Nat → UInt8) (e : ∀ x y, x < w → y < h → byteOf (f x y) = g x y) : (Chart.by_ w h f).text = txt (byRows w h g) := by
  unfold Chart.text Chart.by_ txt byRows
  rw [List.flatMap_map, List.flatMap_map]
  have : ∀ l : List Nat, (∀ y ∈ l, y < h) → (l.flatMap fun y => ((List.range w).map fun x => f x y).map byteOf ++ [LF]) = l.flatMap fun y => ((List.range w).map fun x => g x y) ++ [10] := by
    intro l
    induction l with
    | nil => intro _; rfl
    | cons y l ih =>
      intro hl
      rw [List.flatMap_cons, List.flatMap_cons, ih (fun z hz => hl z (List.mem_cons_of_mem _ hz)), List.map_map]
      congr 2
      exact List.map_congr_left fun x hx => e x y (List.mem_range.mp hx) (hl y List.mem_cons_self)
  exact this _ fun y hy => List.mem_range.mp hy
/-- a part -/
def cutRows (rs : List Bytes) (x y w h : Nat) : List Bytes := ((rs.drop y).take h).map fun r => (r.drop x).take w
theorem byRows_cut {rs : List Bytes} {W H x y w h : Nat} (R : Right rs W H) (hx : x + w ≤ W) (hy : y + h ≤ H) : byRows w h (fun i j => knot rs (x + i) (y + j)) = cutRows rs x y w h := by
  unfold byRows cutRows
  have len := R.high
  refine List.ext_getElem (by simp only [List.length_map, List.length_range, List.length_take, List.length_drop]; omega) fun j h1 h2 => ?_
  simp only [List.length_map, List.length_range] at h1
  simp only [List.getElem_map, List.getElem_range, List.getElem_take, List.getElem_drop]
  have hyj : y + j < rs.length := by omega
  have el : rs[y + j].length = W := R.each _ (List.getElem_mem hyj)
  refine List.ext_getElem (by simp only [List.length_map, List.length_range, List.length_take, List.length_drop]; omega) fun i h3 h4 => ?_
  simp only [List.length_map, List.length_range] at h3
  simp only [List.getElem_map, List.getElem_range, List.getElem_take, List.getElem_drop]
  unfold knot
  rw [List.getD_eq_getElem?_getD, List.getD_eq_getElem?_getD, List.getElem?_eq_getElem hyj]
  simp only [Option.getD_some]
  rw [List.getElem?_eq_getElem (by omega)]
  rfl

/-! ### answers -/
/-- how many bytes, and they -/
def counted (b : Bytes) : List Int := (b.length : Int) :: b.map bi
theorem shown_whole (b : Bytes) : RugDNeutral.shown (wholeB b) = counted b := rfl
theorem shown_says (z : Int) : RugDNeutral.shown (says z) = [z] := rfl
theorem shown_tells (z : Int) (l : List Int) : RugDNeutral.shown (tells z l) = z :: l := by
  show z :: (l ++ []) = z :: l
  rw [List.append_nil]
/-- a text looked at: refused, or its rows -/
def lookText (b : Bytes) : Int ⊕ List Bytes := if 66048 < b.length then .inl (-2) else match readChart b with
  | none => .inl (-6)
  | some rs => .inr rs
def okDeep (h : Int) : Bool := decide (1 ≤ h) && decide (h ≤ 128)
/-- a rug, within a depth -/
def rugOf (h : Int) (b : Bytes) : Int ⊕ List Bytes := match lookText b with
  | .inl c => .inl c
  | .inr rs => if okDeep h = false ∨ ((rs.headD []).length : Int) ≤ 2 * h ∨ (rs.length : Int) ≤ 2 * h then .inl (-1) else .inr rs
theorem ofChart_look (b : Bytes) (f : Chart → Ans) : ofChart b f = match lookText b with
    | .inl c => says c
    | .inr rs => f (toChart rs) := by
  unfold ofChart lookText TEXT
  by_cases h : 66048 < b.length
  · rw [if_pos h, if_pos h]; rfl
  · rw [if_neg h, if_neg h, chartOf_read]
    cases readChart b <;> rfl
theorem deep_ok (h : Int) (h0 : 0 ≤ h) : deepOk h.toNat = okDeep h := by
  unfold deepOk okDeep DEEP
  rw [show decide (1 ≤ h.toNat) = decide (1 ≤ h) from decide_eq_decide.mpr (by omega), show decide (h.toNat ≤ 128) = decide (h ≤ 128) from decide_eq_decide.mpr (by omega)]
theorem ofRug_look (h : Int) (h0 : 0 ≤ h) (b : Bytes) (f : Chart → Ans) : ofRug b h.toNat f = match rugOf h b with
    | .inl c => says c
    | .inr rs => f (toChart rs) := by
  unfold ofRug rugOf
  rw [ofChart_look]
  cases lookText b with
  | inl c => rfl
  | inr rs =>
    show (if deepOk h.toNat = false ∨ (rs.headD []).length ≤ 2 * h.toNat ∨ rs.length ≤ 2 * h.toNat then BAD else f (toChart rs)) = _
    rw [deep_ok h h0]
    show _ = match (if okDeep h = false ∨ ((rs.headD []).length : Int) ≤ 2 * h ∨ (rs.length : Int) ≤ 2 * h then (.inl (-1) : Int ⊕ List Bytes) else .inr rs) with
      | .inl c => says c
      | .inr rs => f (toChart rs)
    have e1 : (rs.headD []).length ≤ 2 * h.toNat ↔ ((rs.headD []).length : Int) ≤ 2 * h := by omega
    have e2 : rs.length ≤ 2 * h.toNat ↔ (rs.length : Int) ≤ 2 * h := by omega
    by_cases c : okDeep h = false ∨ (rs.headD []).length ≤ 2 * h.toNat ∨ rs.length ≤ 2 * h.toNat
    · rw [if_pos c, if_pos (by rw [← e1, ← e2]; exact c)]; rfl
    · rw [if_neg c, if_neg (by rw [← e1, ← e2]; exact c)]
theorem look_right {b : Bytes} {rs : List Bytes} (h : lookText b = .inr rs) : Right rs (rs.headD []).length rs.length ∧ b.length ≤ 66048 := by
  unfold lookText at h
  split at h
  · cases h
  · rename_i hl
    cases e : readChart b with
    | none => rw [e] at h; cases h
    | some q =>
      rw [e] at h
      cases h
      exact ⟨read_right e, by omega⟩
theorem rug_right {h : Int} {b : Bytes} {rs : List Bytes} (e : rugOf h b = .inr rs) : Right rs (rs.headD []).length rs.length ∧ 1 ≤ h ∧ h ≤ 128 ∧ 2 * h < (rs.headD []).length ∧ 2 * h < rs.length := by
  unfold rugOf at e
  cases q : lookText b with
  | inl c => rw [q] at e; cases e
  | inr r =>
    rw [q] at e
    simp only at e
    split at e
    · cases e
    · rename_i hc
      cases e
      simp only [not_or, Int.not_le, Bool.not_eq_false] at hc
      obtain ⟨h1, h2, h3⟩ := hc
      unfold okDeep at h1
      simp only [Bool.and_eq_true, decide_eq_true_eq] at h1
      exact ⟨(look_right q).1, h1.1, h1.2, h2, h3⟩
/-! ### for the walk: a knot by its row -/
theorem by_row {w h : Nat} {g : Nat → Nat → UInt8} {i j : Nat} (hi : i < w) (hj : j < h) : ∃ r, (byRows w h g)[j]? = some r ∧ r[i]? = some (g i j) := by
  refine ⟨(List.range w).map fun x => g x j, ?_, ?_⟩
  · unfold byRows
    rw [List.getElem?_map, List.getElem?_range hj]
    rfl
  · rw [List.getElem?_map, List.getElem?_range hi]
    rfl
theorem right_row {rs : List Bytes} {W H x y : Nat} (h : Right rs W H) (hx : x < W) (hy : y < H) : ∃ r, rs[y]? = some r ∧ r[x]? = some (knot rs x y) := by
  have hy' : y < rs.length := by rw [h.high]; exact hy
  have hx' : x < rs[y].length := by rw [h.each _ (List.getElem_mem hy')]; exact hx
  refine ⟨rs[y], List.getElem?_eq_getElem hy', ?_⟩
  unfold knot
  rw [List.getD_eq_getElem?_getD, List.getD_eq_getElem?_getD, List.getElem?_eq_getElem hy', Option.getD_some, List.getElem?_eq_getElem hx']
  rfl
end Rug

/-! Plain law, part 1: borders: fits, what a knot is, sizes. -/
namespace Rug
open Wqbbch

def okOne (n : Int) : Bool := decide (1 ≤ n) && decide (n ≤ 512)
def okBorder (kind L h W H : Int) : Bool := decide (kind ≤ 2) && (okOne L && okOne W && okOne H) && okDeep h
def fitsAlong (kind L h side : Int) : Bool := if kind = 0 then decide (side % L = 0) else if kind = 1 then decide ((side + 2 * h) % (2 * L) = 0) else decide ((side + h) % L = 0)
def fitsRound (kind L h W H : Int) : Bool := fitsAlong kind L h W && fitsAlong kind L h H
def fitsAns (kind L h W H : Int) : List Int := if okBorder kind L h W H = true then [if fitsRound kind L h W H = true then 1 else 0] else [-1]
/-- the kind by its number -/
def kd (kind : Int) : Kind := if kind = 0 then .set else if kind = 1 then .met else .run
theorem kindAt_ok {kind : Int} (h0 : 0 ≤ kind) (h : kind ≤ 2) : kindAt kind.toNat = some (kd kind) := by
  have : kind = 0 ∨ kind = 1 ∨ kind = 2 := by omega
  rcases this with rfl | rfl | rfl <;> rfl
theorem kindAt_no {kind : Int} (h : ¬ kind ≤ 2) : kindAt kind.toNat = none := by
  obtain ⟨n, rfl⟩ : ∃ n : Nat, kind = ((n + 3 : Nat) : Int) := ⟨(kind - 3).toNat, by omega⟩
  rw [Int.toNat_natCast]
  rfl
theorem one_ok (n : Int) (h0 : 0 ≤ n) : one n.toNat = okOne n := by
  unfold one okOne SIDE
  rw [show decide (1 ≤ n.toNat) = decide (1 ≤ n) from decide_eq_decide.mpr (by omega), show decide (n.toNat ≤ 512) = decide (n ≤ 512) from decide_eq_decide.mpr (by omega)]
theorem ofKind_ok {kind L h W H : Int} (k0 : 0 ≤ kind) (L0 : 0 ≤ L) (h0 : 0 ≤ h) (W0 : 0 ≤ W) (H0 : 0 ≤ H) (f : Kind → Ans) :
    ofKind kind.toNat L.toNat h.toNat W.toNat H.toNat f = if okBorder kind L h W H = true then f (kd kind) else BAD := by
  unfold ofKind okBorder
  by_cases hk : kind ≤ 2
  · rw [kindAt_ok k0 hk]
    show (if one L.toNat = true ∧ deepOk h.toNat = true ∧ one W.toNat = true ∧ one H.toNat = true then f (kd kind) else BAD) = _
    rw [one_ok L L0, one_ok W W0, one_ok H H0, deep_ok h h0, decide_eq_true hk]
    simp only [Bool.true_and, Bool.and_eq_true]
    by_cases c : okOne L = true ∧ okDeep h = true ∧ okOne W = true ∧ okOne H = true
    · rw [if_pos c, if_pos ⟨⟨⟨c.1, c.2.2.1⟩, c.2.2.2⟩, c.2.1⟩]
    · rw [if_neg c, if_neg fun q => c ⟨q.1.1.1, q.2, q.1.1.2, q.1.2⟩]
  · rw [kindAt_no hk, decide_eq_false hk]
    simp only [Bool.false_and, Bool.false_eq_true, if_false]
structure Ok (kind L h W H : Int) : Prop where
  k0 : 0 ≤ kind
  k2 : kind ≤ 2
  L1 : 1 ≤ L
  L2 : L ≤ 512
  h1 : 1 ≤ h
  h2 : h ≤ 128
  W1 : 1 ≤ W
  W2 : W ≤ 512
  H1 : 1 ≤ H
  H2 : H ≤ 512
theorem ok_of {kind L h W H : Int} (k0 : 0 ≤ kind) (e : okBorder kind L h W H = true) : Ok kind L h W H := by
  unfold okBorder okOne okDeep at e
  simp only [Bool.and_eq_true, decide_eq_true_eq] at e
  exact ⟨k0, by omega, by omega, by omega, by omega, by omega, by omega, by omega, by omega, by omega⟩
theorem of_ok {kind L h W H : Int} (e : Ok kind L h W H) : okBorder kind L h W H = true := by
  unfold okBorder okOne okDeep
  simp only [Bool.and_eq_true, decide_eq_true_eq]
  have := e.k2; have := e.L1; have := e.L2; have := e.h1; have := e.h2; have := e.W1; have := e.W2; have := e.H1; have := e.H2
  omega
theorem beq_mod (a b : Nat) : (a % b == 0) = decide ((a : Int) % (b : Int) = 0) := by
  rw [Bool.beq_eq_decide_eq]
  refine decide_eq_decide.mpr ?_
  omega
theorem fitsWay_ok {kind : Int} {L h W : Nat} (k0 : 0 ≤ kind) (k2 : kind ≤ 2) : fitsWay (kd kind) L h W = fitsAlong kind (L : Int) (h : Int) (W : Int) := by
  unfold fitsWay fitsAlong kd
  have : kind = 0 ∨ kind = 1 ∨ kind = 2 := by omega
  rcases this with rfl | rfl | rfl
  · exact beq_mod _ _
  · have := beq_mod (W + 2 * h) (2 * L)
    simpa using this
  · have := beq_mod (W + h) L
    simpa using this
theorem fits_way (k : Kind) (L h W H : Nat) : fits k L h W H = (fitsWay k L h W && fitsWay k L h H) := by cases k <;> rfl
theorem fits_nat {kind : Int} {L h W H : Nat} (k0 : 0 ≤ kind) (k2 : kind ≤ 2) : fits (kd kind) L h W H = fitsRound kind L h W H := by
  rw [fits_way, fitsWay_ok k0 k2, fitsWay_ok k0 k2]
  rfl
theorem fits_ok {kind L h W H : Int} (e : Ok kind L h W H) : fits (kd kind) L.toNat h.toNat W.toNat H.toNat = fitsRound kind L h W H := by
  rw [fits_nat e.k0 e.k2, Int.toNat_of_nonneg (by have := e.L1; omega), Int.toNat_of_nonneg (by have := e.h1; omega), Int.toNat_of_nonneg (by have := e.W1; omega), Int.toNat_of_nonneg (by have := e.H1; omega)]
/-- law 1 -/
theorem fits_law {kind L h W H : Int} (k0 : 0 ≤ kind) (L0 : 0 ≤ L) (h0 : 0 ≤ h) (W0 : 0 ≤ W) (H0 : 0 ≤ H) : PyWqbbch.fits kind L h W H = fitsAns kind L h W H := by
  show RugDNeutral.shown (ofKind kind.toNat L.toNat h.toNat W.toNat H.toNat fun k => says (if fits k L.toNat h.toNat W.toNat H.toNat = true then 1 else 0)) = _
  rw [ofKind_ok k0 L0 h0 W0 H0]
  unfold fitsAns
  by_cases c : okBorder kind L h W H = true
  · rw [if_pos c, if_pos c, fits_ok (ok_of k0 c)]
    rfl
  · rw [if_neg c, if_neg c]
    rfl

/-! ### what a knot is -/
def cornerKnot (h W H x y : Int) : Int × Int × Int :=
  if x < h ∧ y < h then (2, x, y) else if y < h then (2, y, W + 2 * h - 1 - x) else if x < h then (2, H + 2 * h - 1 - y, x) else (2, W + 2 * h - 1 - x, H + 2 * h - 1 - y)
def setKnot (L h W H x y : Int) : Int × Int × Int :=
  if (x < h ∨ W + 2 * h - 1 - x < h) ∧ (y < h ∨ H + 2 * h - 1 - y < h) then cornerKnot h W H x y
  else if y < h then (1, (x - h) % L, y) else if W + 2 * h - 1 - x < h then (1, (y - h) % L, W + 2 * h - 1 - x)
  else if H + 2 * h - 1 - y < h then (1, (W + 2 * h - 1 - x - h) % L, H + 2 * h - 1 - y) else (1, (H + 2 * h - 1 - y - h) % L, x)
def metKnot (L h W H x y : Int) : Int × Int × Int :=
  (1, (max (min x (W + 2 * h - 1 - x)) (min y (H + 2 * h - 1 - y))) % L, min (min x (W + 2 * h - 1 - x)) (min y (H + 2 * h - 1 - y)))
def runKnot (L h W H x y : Int) : Int × Int × Int :=
  if h ≤ W + 2 * h - 1 - x ∧ y < h then (1, x % L, y) else if W + 2 * h - 1 - x < h ∧ h ≤ H + 2 * h - 1 - y then (1, y % L, W + 2 * h - 1 - x)
  else if h ≤ x ∧ H + 2 * h - 1 - y < h then (1, (W + 2 * h - 1 - x) % L, H + 2 * h - 1 - y) else (1, (H + 2 * h - 1 - y) % L, x)
def isField (h W H x y : Int) : Bool := (decide (h ≤ x) && decide (x < h + W)) && (decide (h ≤ y) && decide (y < h + H))
def knotOf (kind L h W H x y : Int) : Int × Int × Int :=
  if isField h W H x y = true then (0, x - h, y - h) else if kind = 0 then setKnot L h W H x y else if kind = 1 then metKnot L h W H x y else runKnot L h W H x y
/-- what the specification tells, as three numbers -/
def three (f : From) : Int × Int × Int := match f with
  | .field i j => (0, i, j)
  | .strip i j => (1, i, j)
  | .corner i j => (2, i, j)
theorem fromTold_three (f : From) : fromTold f = [(three f).1, (three f).2.1, (three f).2.2] := by cases f <;> rfl
theorem three_inj {f g : From} (h : three f = three g) : f = g := by
  cases f <;> cases g <;> simp only [three, Prod.mk.injEq] at h <;> first | (obtain ⟨_, h1, h2⟩ := h; congr 1 <;> omega) | (exact absurd h.1 (by decide))
theorem trip {a b c a' b' c' : Int} (h1 : a = a') (h2 : b = b') (h3 : c = c') : (a, b, c) = (a', b', c') := by rw [h1, h2, h3]
theorem set_from {L h W H x y : Nat} (hx : x < W + 2 * h) (hy : y < H + 2 * h) (hn : ¬ (h ≤ x ∧ x < h + W ∧ h ≤ y ∧ y < h + H)) : setKnot L h W H x y = three (fromOf .set L h W H x y) := by
  unfold setKnot cornerKnot fromOf cornerAt
  simp only [if_neg hn]
  by_cases a : x < h
  · by_cases b : y < h
    · rw [if_pos (by omega), if_pos (by omega), if_pos ⟨a, b⟩]
      rfl
    · by_cases d : h + H ≤ y
      · rw [if_pos (by omega), if_neg (by omega), if_neg (by omega), if_pos (by omega), if_neg (by omega), if_neg (by omega), if_neg (by omega), if_pos ⟨a, d⟩]
        exact trip rfl (by omega) (by omega)
      · rw [if_neg (by omega), if_neg (by omega), if_neg (by omega), if_neg (by omega), if_neg (by omega), if_neg (by omega), if_neg (by omega), if_neg (by omega), if_neg (by omega), if_neg (by omega), if_neg (by omega)]
        refine trip rfl ?_ (by omega)
        rw [Int.natCast_emod]
        congr 1
        omega
  · by_cases c : h + W ≤ x
    · by_cases b : y < h
      · rw [if_pos (by omega), if_neg (by omega), if_pos (by omega), if_neg (by omega), if_pos ⟨c, b⟩]
        exact trip rfl (by omega) (by omega)
      · by_cases d : h + H ≤ y
        · rw [if_pos (by omega), if_neg (by omega), if_neg (by omega), if_neg (by omega), if_neg (by omega), if_neg (by omega), if_pos ⟨c, d⟩]
          exact trip rfl (by omega) (by omega)
        · rw [if_neg (by omega), if_neg (by omega), if_pos (by omega), if_neg (by omega), if_neg (by omega), if_neg (by omega), if_neg (by omega), if_neg (by omega), if_pos (by omega)]
          refine trip rfl ?_ (by omega)
          rw [Int.natCast_emod]
          congr 1
          omega
    · by_cases b : y < h
      · rw [if_neg (by omega), if_pos (by omega), if_neg (by omega), if_neg (by omega), if_neg (by omega), if_neg (by omega), if_pos (by omega)]
        refine trip rfl ?_ (by omega)
        rw [Int.natCast_emod]
        congr 1
        omega
      · rw [if_neg (by omega), if_neg (by omega), if_neg (by omega), if_pos (by omega), if_neg (by omega), if_neg (by omega), if_neg (by omega), if_neg (by omega), if_neg (by omega), if_neg (by omega), if_pos (by omega)]
        refine trip rfl ?_ (by omega)
        rw [Int.natCast_emod]
        congr 1
        omega
theorem met_from {L h W H x y : Nat} (hx : x < W + 2 * h) (hy : y < H + 2 * h) (hn : ¬ (h ≤ x ∧ x < h + W ∧ h ≤ y ∧ y < h + H)) : metKnot L h W H x y = three (fromOf .met L h W H x y) := by
  unfold metKnot fromOf
  simp only [if_neg hn]
  refine trip rfl ?_ (by omega)
  rw [Int.natCast_emod]
  congr 1
  omega
theorem run_from {L h W H x y : Nat} (hx : x < W + 2 * h) (hy : y < H + 2 * h) (hn : ¬ (h ≤ x ∧ x < h + W ∧ h ≤ y ∧ y < h + H)) : runKnot L h W H x y = three (fromOf .run L h W H x y) := by
  unfold runKnot fromOf
  simp only [if_neg hn]
  by_cases a : x < W + h ∧ y < h
  · rw [if_pos (by omega), if_pos a]
    exact trip rfl (by rw [Int.natCast_emod]) rfl
  · rw [if_neg (by omega), if_neg a]
    by_cases b : W + h ≤ x ∧ y < H + h
    · rw [if_pos (by omega), if_pos b]
      exact trip rfl (by rw [Int.natCast_emod]) (by omega)
    · rw [if_neg (by omega), if_neg b]
      by_cases c : h ≤ x ∧ H + h ≤ y
      · rw [if_pos (by omega), if_pos c]
        refine trip rfl ?_ (by omega)
        rw [Int.natCast_emod]
        congr 1
        omega
      · rw [if_neg (by omega), if_neg c]
        refine trip rfl ?_ rfl
        rw [Int.natCast_emod]
        congr 1
        omega
theorem isField_iff (h W H x y : Nat) : isField h W H x y = decide (h ≤ x ∧ x < h + W ∧ h ≤ y ∧ y < h + H) := by
  unfold isField
  rw [Bool.eq_iff_iff]
  simp only [Bool.and_eq_true, decide_eq_true_eq]
  omega
theorem knot_from {kind : Int} {L h W H x y : Nat} (k0 : 0 ≤ kind) (k2 : kind ≤ 2) (hx : x < W + 2 * h) (hy : y < H + 2 * h) : knotOf kind L h W H x y = three (fromOf (kd kind) L h W H x y) := by
  unfold knotOf
  rw [isField_iff]
  by_cases hf : h ≤ x ∧ x < h + W ∧ h ≤ y ∧ y < h + H
  · rw [if_pos (decide_eq_true hf)]
    unfold fromOf
    simp only [if_pos hf]
    exact trip rfl (by omega) (by omega)
  · rw [if_neg (by rw [decide_eq_false hf]; exact Bool.false_ne_true)]
    have : kind = 0 ∨ kind = 1 ∨ kind = 2 := by omega
    rcases this with rfl | rfl | rfl
    · exact set_from hx hy hf
    · exact met_from hx hy hf
    · exact run_from hx hy hf
def fromAns (kind L h W H x y : Int) : List Int :=
  if okBorder kind L h W H = true then (if fitsRound kind L h W H = true then (if W + 2 * h ≤ x ∨ H + 2 * h ≤ y then [-4] else
    [0, (knotOf kind L h W H x y).1, (knotOf kind L h W H x y).2.1, (knotOf kind L h W H x y).2.2]) else [-3]) else [-1]
/-- law 3 -/
theorem from_law {kind L h W H x y : Int} (k0 : 0 ≤ kind) (L0 : 0 ≤ L) (h0 : 0 ≤ h) (W0 : 0 ≤ W) (H0 : 0 ≤ H) (x0 : 0 ≤ x) (y0 : 0 ≤ y) : PyWqbbch.from_of kind L h W H x y = fromAns kind L h W H x y := by
  show RugDNeutral.shown (ofKind kind.toNat L.toNat h.toNat W.toNat H.toNat fun k => if fits k L.toNat h.toNat W.toNat H.toNat = false then UNFIT else if x.toNat < W.toNat + 2 * h.toNat ∧ y.toNat < H.toNat + 2 * h.toNat then
    tells 0 (fromTold (fromOf k L.toNat h.toNat W.toNat H.toNat x.toNat y.toNat)) else NO) = _
  rw [ofKind_ok k0 L0 h0 W0 H0]
  unfold fromAns
  by_cases c : okBorder kind L h W H = true
  · rw [if_pos c, if_pos c, fits_ok (ok_of k0 c)]
    cases hf : fitsRound kind L h W H with
    | false => rfl
    | true =>
      rw [if_neg (by decide), if_pos rfl]
      by_cases d : x.toNat < W.toNat + 2 * h.toNat ∧ y.toNat < H.toNat + 2 * h.toNat
      · rw [if_pos d, if_neg (by omega), shown_tells, fromTold_three]
        have e := knot_from (L := L.toNat) k0 (ok_of k0 c).k2 d.1 d.2
        rw [Int.toNat_of_nonneg L0, Int.toNat_of_nonneg h0, Int.toNat_of_nonneg W0, Int.toNat_of_nonneg H0, Int.toNat_of_nonneg x0, Int.toNat_of_nonneg y0] at e
        rw [← e]
      · rw [if_neg d, if_pos (by omega)]
        rfl
  · rw [if_neg c, if_neg c]
    rfl
end Rug

/-! Plain law, part 2: off, round, sizes. -/
namespace Rug
open Wqbbch

def offAns (h : Int) (b : Bytes) : List Int := match rugOf h b with
  | .inl c => [c]
  | .inr rs => counted (txt (cutRows rs h.toNat h.toNat ((rs.headD []).length - 2 * h.toNat) (rs.length - 2 * h.toNat)))
/-- law 4 -/
theorem off_law {h : Int} {t : List Int} (h0 : 0 ≤ h) : PyWqbbch.off h t = offAns h (RugDNeutral.text t) := by
  show RugDNeutral.shown (ofRug (RugDNeutral.text t) h.toNat fun c => whole (c.within h.toNat)) = _
  rw [ofRug_look h h0]
  unfold offAns
  cases e : rugOf h (RugDNeutral.text t) with
  | inl c => rfl
  | inr rs =>
    obtain ⟨R, h1, h2, h3, h4⟩ := rug_right e
    show counted ((toChart rs).within h.toNat).text = counted _
    congr 1
    show (Chart.by_ ((rs.headD []).length - 2 * h.toNat) (rs.length - 2 * h.toNat) fun i j => (toChart rs).at_ (h.toNat + i) (h.toNat + j)).text = _
    rw [by_text _ _ _ (fun i j => knot rs (h.toNat + i) (h.toNat + j)) fun x y hx hy => (at_knot R (by omega) (by omega)).1]
    rw [byRows_cut R (by omega) (by omega)]

/-! ### round -/
/-- a corner goes with the first kind alone -/
def okCorner (kind : Int) (cs : List Bytes) (h : Int) : Bool := (decide (cs = []) != decide (kind = 0)) && (decide (cs = []) || (decide ((cs.length : Int) = h) && decide (((cs.headD []).length : Int) = h)))
def okSize (h W H : Int) : Bool := decide (max (W + 2 * h) (H + 2 * h) ≤ 512) && decide ((W + 2 * h) * (H + 2 * h) ≤ 65536)
/-- the colour of a knot of the rug -/
def madeAt (kind : Int) (fs ss cs : List Bytes) (x y : Nat) : UInt8 :=
  let k := knotOf kind (ss.headD []).length ss.length (fs.headD []).length fs.length x y
  if k.1 = 0 then knot fs k.2.1.toNat k.2.2.toNat else if k.1 = 1 then knot ss k.2.1.toNat k.2.2.toNat else knot cs k.2.1.toNat k.2.2.toNat
def madeRows (kind : Int) (fs ss cs : List Bytes) : List Bytes := byRows ((fs.headD []).length + 2 * ss.length) (fs.length + 2 * ss.length) (madeAt kind fs ss cs)
/-- the corner's rows: none for no bytes -/
def cornerRows (c : Bytes) : Int ⊕ List Bytes := if c = [] then .inr [] else match readChart c with
  | none => .inl (-6)
  | some cs => .inr cs
def rugText (kind : Int) (t s c : Bytes) : Int ⊕ Bytes :=
  if 66048 < t.length ∨ 66048 < s.length ∨ 66048 < c.length then .inl (-2) else
  match readChart t with
  | none => .inl (-6)
  | some fs => match readChart s with
    | none => .inl (-6)
    | some ss => match cornerRows c with
      | .inl z => .inl z
      | .inr cs =>
        if okBorder kind (ss.headD []).length ss.length (fs.headD []).length fs.length = false then .inl (-1)
        else if okCorner kind cs ss.length = false then .inl (-1)
        else if fitsRound kind (ss.headD []).length ss.length (fs.headD []).length fs.length = false then .inl (-3)
        else if okSize ss.length (fs.headD []).length fs.length = false then .inl (-8)
        else .inr (txt (madeRows kind fs ss cs))
def roundAns (kind : Int) (t s c : Bytes) : List Int := match rugText kind t s c with
  | .inl z => [z]
  | .inr b => counted b
/-- the chart of a corner that is none -/
theorem strip_in {k : Kind} {L h W H x y i j : Nat} (hL : 1 ≤ L) (hx : x < W + 2 * h) (hy : y < H + 2 * h) (e : fromOf k L h W H x y = .strip i j) : i < L ∧ j < h := by
  unfold fromOf at e
  simp only at e
  have m : ∀ a : Nat, a % L < L := fun a => Nat.mod_lt _ (by omega)
  split at e
  · cases e
  · rename_i hn
    cases k with
    | set =>
      simp only [cornerAt] at e
      split at e
      · cases e
      · split at e
        · cases e
        · split at e
          · cases e
          · split at e
            · cases e
            · split at e
              · cases e; exact ⟨m _, by omega⟩
              · split at e
                · cases e; exact ⟨m _, by omega⟩
                · split at e
                  · cases e; exact ⟨m _, by omega⟩
                  · cases e; exact ⟨m _, by omega⟩
    | met =>
      simp only at e
      cases e
      exact ⟨m _, by omega⟩
    | run =>
      simp only at e
      split at e
      · cases e; exact ⟨m _, by omega⟩
      · split at e
        · cases e; exact ⟨m _, by omega⟩
        · split at e
          · cases e; exact ⟨m _, by omega⟩
          · cases e; exact ⟨m _, by omega⟩
theorem corner_in {k : Kind} {L h W H x y i j : Nat} (hx : x < W + 2 * h) (hy : y < H + 2 * h) (e : fromOf k L h W H x y = .corner i j) : i < h ∧ j < h ∧ k = .set := by
  unfold fromOf at e
  simp only at e
  split at e
  · cases e
  · rename_i hn
    cases k with
    | set =>
      simp only [cornerAt] at e
      split at e
      · cases e; exact ⟨by omega, by omega, rfl⟩
      · split at e
        · cases e; exact ⟨by omega, by omega, rfl⟩
        · split at e
          · cases e; exact ⟨by omega, by omega, rfl⟩
          · split at e
            · cases e; exact ⟨by omega, by omega, rfl⟩
            · split at e
              · cases e
              · split at e
                · cases e
                · split at e <;> cases e
    | met => cases e
    | run =>
      simp only at e
      split at e
      · cases e
      · split at e
        · cases e
        · split at e <;> cases e
theorem field_in {k : Kind} {L h W H x y i j : Nat} (e : fromOf k L h W H x y = .field i j) : i < W ∧ j < H := by
  unfold fromOf at e
  simp only at e
  split at e
  · cases e
    exact ⟨by omega, by omega⟩
  · rename_i hn
    cases k with
    | set =>
      simp only [cornerAt] at e
      split at e
      · cases e
      · split at e
        · cases e
        · split at e
          · cases e
          · split at e
            · cases e
            · split at e
              · cases e
              · split at e
                · cases e
                · split at e <;> cases e
    | met => cases e
    | run =>
      simp only at e
      split at e
      · cases e
      · split at e
        · cases e
        · split at e <;> cases e
theorem bordered_text {kind : Int} {fs ss cs : List Bytes} {W H L h : Nat} {c : Chart} (k0 : 0 ≤ kind) (k2 : kind ≤ 2) (F : Right fs W H) (S : Right ss L h)
    (C : kind = 0 → Right cs h h ∧ c = toChart cs) : (bordered (kd kind) (toChart fs) (toChart ss) c).text = txt (madeRows kind fs ss cs) := by
  have e1 : (toChart fs).wide = W := F.head
  have e2 : (toChart fs).high = H := F.high
  have e3 : (toChart ss).wide = L := S.head
  have e4 : (toChart ss).high = h := S.high
  unfold bordered madeRows
  rw [e1, e2, e3, e4, F.head, F.high, S.high]
  refine by_text _ _ _ _ fun x y hx hy => ?_
  unfold madeAt
  rw [F.head, F.high, S.head, S.high, knot_from k0 k2 hx hy]
  cases e : fromOf (kd kind) L h W H x y with
  | field i j =>
    obtain ⟨hi, hj⟩ := field_in e
    exact (at_knot F hi hj).1
  | strip i j =>
    obtain ⟨hi, hj⟩ := strip_in S.w1 hx hy e
    exact (at_knot S hi hj).1
  | corner i j =>
    obtain ⟨hi, hj, hk⟩ := corner_in hx hy e
    have k : kind = 0 := by
      unfold kd at hk
      split at hk
      · assumption
      · split at hk <;> cases hk
    obtain ⟨R, ec⟩ := C k
    subst ec
    exact (at_knot R hi hj).1
theorem round_told {kind : Int} {fs ss cs : List Bytes} {W H L h : Nat} {c : Chart} (k0 : 0 ≤ kind) (k2 : kind ≤ 2) (F : Right fs W H) (S : Right ss L h)
    (C : kind = 0 → Right cs h h ∧ c = toChart cs) : RugDNeutral.shown (roundTold (kd kind) (toChart fs) (toChart ss) c) =
      if fitsRound kind L h W H = false then [-3] else if okSize h W H = false then [-8] else counted (txt (madeRows kind fs ss cs)) := by
  have e1 : (toChart fs).wide = W := F.head
  have e2 : (toChart fs).high = H := F.high
  have e3 : (toChart ss).wide = L := S.head
  have e4 : (toChart ss).high = h := S.high
  unfold roundTold
  rw [e1, e2, e3, e4, fits_nat k0 k2]
  cases hf : fitsRound kind L h W H with
  | false => rfl
  | true =>
    simp only [Bool.true_eq_false, if_false]
    have hs : (sizeOk (W + 2 * h) (H + 2 * h) = false ∨ KNOTS < (W + 2 * h) * (H + 2 * h)) ↔ okSize h W H = false := by
      unfold sizeOk okSize SIDE KNOTS
      have w1 := F.w1
      have h1 := F.h1
      have z : (((W + 2 * h) * (H + 2 * h) : Nat) : Int) = ((W : Int) + 2 * h) * ((H : Int) + 2 * h) := by
        rw [Int.natCast_mul]; simp
      rw [← z]
      simp only [Bool.and_eq_false_iff, decide_eq_false_iff_not]
      generalize (W + 2 * h) * (H + 2 * h) = n
      omega
    by_cases q : okSize h W H = false
    · rw [if_pos (hs.mpr q), if_pos q]; rfl
    · rw [if_neg (fun z => q (hs.mp z)), if_neg q]
      show counted (bordered (kd kind) (toChart fs) (toChart ss) c).text = _
      rw [bordered_text k0 k2 F S C]
theorem okBorder_chart {kind : Int} {fs ss : List Bytes} {W H L h : Nat} (F : Right fs W H) (S : Right ss L h) : okBorder kind L h W H = (decide (kind ≤ 2) && decide ((h : Int) ≤ 128)) := by
  unfold okBorder okOne okDeep
  rw [Bool.eq_iff_iff]
  simp only [Bool.and_eq_true, decide_eq_true_eq]
  have := F.w1; have := F.w2; have := F.h1; have := F.h2; have := S.w1; have := S.w2; have := S.h1
  omega
theorem kd_met {kind : Int} (h : 1 ≤ kind) : kd kind ≠ .set := by
  unfold kd
  rw [if_neg (by omega)]
  split <;> decide
/-- law 2 -/
theorem round_law {kind : Int} {t s c : List Int} (k0 : 0 ≤ kind) : PyWqbbch.round_of kind t s c = roundAns kind (RugDNeutral.text t) (RugDNeutral.text s) (RugDNeutral.text c) := by
  generalize et : RugDNeutral.text t = tb
  generalize es : RugDNeutral.text s = sb
  generalize ec : RugDNeutral.text c = cb
  show RugDNeutral.shown (answer (.round (RugDNeutral.text t) (RugDNeutral.text s) (RugDNeutral.text c) kind.toNat)) = _
  rw [et, es, ec]
  unfold roundAns rugText
  show RugDNeutral.shown (if TEXT < tb.length ∨ TEXT < sb.length ∨ TEXT < cb.length then MUCH else ofChart tb fun t => ofChart sb fun s =>
      if cb = [] then (match kindAt kind.toNat with
        | none => BAD
        | some .set => BAD
        | some k => if DEEP < s.high then BAD else roundTold k t s s)
      else ofChart cb fun c => (match kindAt kind.toNat with
        | some .set => if DEEP < s.high ∨ c.wide ≠ s.high ∨ c.high ≠ s.high then BAD else roundTold .set t s c
        | _ => BAD)) = _
  by_cases hl : 66048 < tb.length ∨ 66048 < sb.length ∨ 66048 < cb.length
  · rw [if_pos (show TEXT < tb.length ∨ TEXT < sb.length ∨ TEXT < cb.length from hl), if_pos hl]
    rfl
  · rw [if_neg (show ¬ (TEXT < tb.length ∨ TEXT < sb.length ∨ TEXT < cb.length) from hl), if_neg hl]
    simp only [not_or] at hl
    obtain ⟨l1, l2, l3⟩ := hl
    have lk : ∀ b : Bytes, ¬ 66048 < b.length → ∀ f : Chart → Ans, ofChart b f = match readChart b with
        | none => WRONG
        | some rs => f (toChart rs) := fun b hb f => by
      rw [ofChart_look]
      unfold lookText
      rw [if_neg hb]
      cases readChart b <;> rfl
    rw [lk tb l1]
    cases e1 : readChart tb with
    | none => rfl
    | some fs =>
      simp only
      rw [lk sb l2]
      cases e2 : readChart sb with
      | none => rfl
      | some ss =>
        simp only
        have F := read_right e1
        have S := read_right e2
        unfold cornerRows
        by_cases hc : cb = []
        · rw [if_pos hc, if_pos hc]
          simp only
          rw [okBorder_chart F S]
          by_cases hk : kind ≤ 2
          · rw [kindAt_ok k0 hk, decide_eq_true hk, Bool.true_and]
            by_cases hz : kind = 0
            · subst hz
              show RugDNeutral.shown BAD = _
              have z : okCorner 0 [] ss.length = false := rfl
              rw [z]
              cases decide ((ss.length : Int) ≤ 128) <;> rfl
            · have z : okCorner kind [] ss.length = true := by
                unfold okCorner
                rw [decide_eq_false hz]
                rfl
              rw [z]
              have nk := kd_met (kind := kind) (by omega)
              have hm : (match some (kd kind) with
                  | none => BAD
                  | some .set => BAD
                  | some k => if DEEP < (toChart ss).high then BAD else roundTold k (toChart fs) (toChart ss) (toChart ss)) = if DEEP < (toChart ss).high then BAD else roundTold (kd kind) (toChart fs) (toChart ss) (toChart ss) := by
                cases q : kd kind with
                | set => exact absurd q nk
                | met => rfl
                | run => rfl
              rw [hm]
              show RugDNeutral.shown (if 128 < ss.length then BAD else _) = _
              by_cases hd : 128 < ss.length
              · rw [if_pos hd, decide_eq_false (by omega)]
                rfl
              · rw [if_neg hd, decide_eq_true (by omega), round_told (cs := []) k0 hk F S (fun q => absurd q hz)]
                simp only [Bool.true_eq_false, if_false]
                split
                · rfl
                · split <;> rfl
          · rw [kindAt_no hk, decide_eq_false hk]
            rfl
        · rw [if_neg hc, if_neg hc, lk cb l3]
          cases e3 : readChart cb with
          | none => rfl
          | some cs =>
            simp only
            have C := read_right e3
            have ncs : cs ≠ [] := fun z => by
              have := C.h1
              rw [z] at this
              exact absurd this (by decide)
            rw [okBorder_chart F S]
            by_cases hk : kind ≤ 2
            · rw [kindAt_ok k0 hk, decide_eq_true hk, Bool.true_and]
              by_cases hz : kind = 0
              · subst hz
                show RugDNeutral.shown (if 128 < ss.length ∨ (cs.headD []).length ≠ ss.length ∨ cs.length ≠ ss.length then BAD else roundTold .set (toChart fs) (toChart ss) (toChart cs)) = _
                by_cases hd : 128 < ss.length
                · rw [if_pos (.inl hd), decide_eq_false (by omega)]
                  rfl
                · rw [decide_eq_true (show (ss.length : Int) ≤ 128 by omega)]
                  by_cases hq : (cs.headD []).length = ss.length ∧ cs.length = ss.length
                  · have z : okCorner 0 cs ss.length = true := by
                      unfold okCorner
                      rw [decide_eq_false ncs, decide_eq_true (show (cs.length : Int) = ss.length by omega), decide_eq_true (show ((cs.headD []).length : Int) = ss.length by omega)]
                      rfl
                    have C' : Right cs ss.length ss.length := by
                      have := C
                      rw [hq.1, hq.2] at this
                      exact this
                    rw [z, if_neg (by omega), show Kind.set = kd 0 from rfl, round_told (cs := cs) (Int.le_refl 0) (by decide) F S (fun _ => ⟨C', rfl⟩)]
                    simp only [Bool.true_eq_false, if_false]
                    split
                    · rfl
                    · split <;> rfl
                  · have z : okCorner 0 cs ss.length = false := by
                      unfold okCorner
                      rw [decide_eq_false ncs]
                      simp only [Bool.false_or, Bool.and_eq_false_iff, decide_eq_false_iff_not]
                      refine .inr ?_
                      omega
                    rw [z, if_pos (by omega)]
                    rfl
              · have z : okCorner kind cs ss.length = false := by
                  unfold okCorner
                  rw [decide_eq_false hz, decide_eq_false ncs]
                  rfl
                rw [z]
                have nk := kd_met (kind := kind) (by omega)
                have hm : (match some (kd kind) with
                    | some .set => if DEEP < (toChart ss).high ∨ (toChart cs).wide ≠ (toChart ss).high ∨ (toChart cs).high ≠ (toChart ss).high then BAD else roundTold .set (toChart fs) (toChart ss) (toChart cs)
                    | _ => BAD) = BAD := by
                  cases q : kd kind with
                  | set => exact absurd q nk
                  | met => rfl
                  | run => rfl
                rw [hm]
                cases decide ((ss.length : Int) ≤ 128) <;> rfl
            · rw [kindAt_no hk, decide_eq_false hk]
              rfl
/-! ### for the walk -/
theorem made_cases {kind : Int} {fs ss cs : List Bytes} {W H L h x y : Nat} (k0 : 0 ≤ kind) (k2 : kind ≤ 2) (F : Right fs W H) (S : Right ss L h) (hx : x < W + 2 * h) (hy : y < H + 2 * h) :
    ∃ p i j : Nat, knotOf kind L h W H x y = ((p : Int), (i : Int), (j : Int)) ∧ ((p = 0 ∧ i < W ∧ j < H ∧ madeAt kind fs ss cs x y = knot fs i j) ∨ (p = 1 ∧ i < L ∧ j < h ∧ madeAt kind fs ss cs x y = knot ss i j) ∨
      (p = 2 ∧ kind = 0 ∧ i < h ∧ j < h ∧ madeAt kind fs ss cs x y = knot cs i j)) := by
  have e := knot_from (L := L) k0 k2 hx hy
  unfold madeAt
  rw [F.head, F.high, S.head, S.high, e]
  cases fr : fromOf (kd kind) L h W H x y with
  | field i j =>
    obtain ⟨hi, hj⟩ := field_in fr
    exact ⟨0, i, j, rfl, .inl ⟨rfl, hi, hj, rfl⟩⟩
  | strip i j =>
    obtain ⟨hi, hj⟩ := strip_in S.w1 hx hy fr
    exact ⟨1, i, j, rfl, .inr (.inl ⟨rfl, hi, hj, rfl⟩)⟩
  | corner i j =>
    obtain ⟨hi, hj, hk⟩ := corner_in hx hy fr
    have k : kind = 0 := by
      unfold kd at hk
      split at hk
      · assumption
      · split at hk <;> cases hk
    exact ⟨2, i, j, rfl, .inr (.inr ⟨rfl, k, hi, hj, rfl⟩)⟩
theorem byRows_take {w h : Nat} {g : Nat → Nat → UInt8} {i : Nat} (hi : i < h) : (byRows w h g)[i]? = some ((List.range w).map fun x => g x i) := by
  unfold byRows
  rw [List.getElem?_map, List.getElem?_range hi]
  rfl
theorem byRows_len (w h : Nat) (g : Nat → Nat → UInt8) : (byRows w h g).length = h := by
  unfold byRows
  rw [List.length_map, List.length_range]
theorem byRows_each (w h : Nat) (g : Nat → Nat → UInt8) : ∀ r ∈ byRows w h g, r.length ≤ w := fun r hr => by
  unfold byRows at hr
  obtain ⟨y, _, rfl⟩ := List.mem_map.mp hr
  rw [List.length_map, List.length_range]
  exact Nat.le_refl w
end Rug

/-! Plain law, part 4: what is gathered; corner, found. -/
namespace Rug
open Wqbbch

/-! ### gathered -/
def Cons {A B : Type} (l : List (A × B)) : Prop := ∀ a b c, (a, b) ∈ l → (a, c) ∈ l → b = c
theorem Cons.left {A B : Type} {l m : List (A × B)} (h : Cons (l ++ m)) : Cons l := fun a b c h1 h2 => h a b c (List.mem_append_left _ h1) (List.mem_append_left _ h2)
def gstep (a : Option (Array (Option Nat))) (x : Nat × Nat) : Option (Array (Option Nat)) := match a with
  | none => none
  | some v => match v.getD x.1 none with
    | none => some (v.setIfInBounds x.1 (some x.2))
    | some k => if k = x.2 then some v else none
theorem gathered_eq (n : Nat) (l : List (Nat × Nat)) : gathered n l = l.foldl gstep (some (Array.replicate n none)) := rfl
theorem snoc_ind {A : Type} {P : List A → Prop} (h0 : P []) (hs : ∀ l x, P l → P (l ++ [x])) : ∀ l, P l := by
  intro l
  have : ∀ m : List A, P m.reverse := by
    intro m
    induction m with
    | nil => exact h0
    | cons x m ih => rw [List.reverse_cons]; exact hs _ _ ih
  have := this l.reverse
  rwa [List.reverse_reverse] at this
theorem getD_arr (v : Array (Option Nat)) (i : Nat) : v.getD i none = (v[i]?).getD none := by
  rw [Array.getD_eq_getD_getElem?]
theorem gathered_ok (n : Nat) : ∀ l : List (Nat × Nat), (∀ p ∈ l, p.1 < n) →
    (Cons l → ∃ v, gathered n l = some v ∧ v.size = n ∧ ∀ i c, i < n → (v.getD i none = some c ↔ (i, c) ∈ l)) ∧ ((gathered n l).isSome = true → Cons l) := by
  refine snoc_ind ?_ ?_
  · intro _
    refine ⟨fun _ => ⟨_, rfl, Array.size_replicate, fun i c hi => ?_⟩, fun _ a b c h => nomatch h⟩
    rw [getD_arr, Array.getElem?_replicate, if_pos hi]
    simp
  · intro l x ih hb
    have ih := ih fun p hp => hb p (List.mem_append_left _ hp)
    have hx : x.1 < n := hb x (by simp)
    have e : gathered n (l ++ [x]) = gstep (gathered n l) x := by
      rw [gathered_eq, gathered_eq, List.foldl_append]
      rfl
    rw [e]
    refine ⟨fun hc => ?_, fun hs => ?_⟩
    · obtain ⟨v, h1, h2, h3⟩ := ih.1 hc.left
      rw [h1]
      unfold gstep
      simp only
      cases q : v.getD x.1 none with
      | none =>
        refine ⟨_, rfl, by rw [Array.size_setIfInBounds, h2], fun i c hi => ?_⟩
        rw [getD_arr, Array.getElem?_setIfInBounds]
        by_cases hix : x.1 = i
        · subst hix
          rw [if_pos rfl, if_pos (by rw [h2]; exact hi)]
          simp only [Option.getD_some, Option.some.injEq, List.mem_append, List.mem_singleton]
          refine ⟨fun z => .inr (by rw [← z]), fun z => ?_⟩
          rcases z with z | z
          · have := (h3 _ c hi).mpr z
            rw [q] at this; cases this
          · rw [← z]
        · rw [if_neg hix, ← getD_arr, h3 i c hi]
          simp only [List.mem_append, List.mem_singleton]
          refine ⟨.inl, fun z => ?_⟩
          rcases z with z | z
          · exact z
          · exact absurd (by rw [← z]) hix
      | some k =>
        have hk := (h3 x.1 k hx).mp q
        have : k = x.2 := hc x.1 k x.2 (List.mem_append_left _ hk) (List.mem_append_right _ (by simp))
        simp only
        rw [if_pos this]
        refine ⟨v, rfl, h2, fun i c hi => ?_⟩
        rw [h3 i c hi]
        simp only [List.mem_append, List.mem_singleton]
        refine ⟨.inl, fun z => ?_⟩
        rcases z with z | z
        · exact z
        · subst z
          rw [show c = k from this.symm]
          exact hk
    · cases q : gathered n l with
      | none => rw [q] at hs; cases hs
      | some v =>
        have hc : Cons l := ih.2 (by rw [q]; rfl)
        obtain ⟨v', h1, h2, h3⟩ := ih.1 hc
        rw [q] at h1
        cases h1
        rw [q] at hs
        unfold gstep at hs
        simp only at hs
        have key : ∀ c, (x.1, c) ∈ l → c = x.2 := by
          intro c hm
          have z := (h3 x.1 c hx).mpr hm
          rw [z] at hs
          simp only at hs
          split at hs
          · assumption
          · cases hs
        intro a b c m1 m2
        simp only [List.mem_append, List.mem_singleton] at m1 m2
        rcases m1 with m1 | m1
        · rcases m2 with m2 | m2
          · exact hc a b c m1 m2
          · subst m2
            exact key b m1
        · rcases m2 with m2 | m2
          · subst m1
            exact (key c m2).symm
          · have z := m1.trans m2.symm
            injection z with _ e2
theorem gathered_some (n : Nat) (l : List (Nat × Nat)) (h : ∀ p ∈ l, p.1 < n) : (gathered n l).isSome = true ↔ Cons l := by
  refine ⟨(gathered_ok n l h).2, fun c => ?_⟩
  obtain ⟨v, e, _⟩ := (gathered_ok n l h).1 c
  rw [e]
  rfl

/-! ### the border's knots -/
theorem mem_zipIdx {A : Type} {l : List A} {a : A} {i : Nat} : (a, i) ∈ l.zipIdx ↔ l[i]? = some a := by
  rw [List.mk_mem_zipIdx_iff_getElem?]
theorem mem_border {rs : List Bytes} {W H : Nat} {k : Kind} {L h : Nat} (R : Right rs W H) {f : From} {c : Nat} :
    (f, c) ∈ borderKnots (toChart rs) k L h ↔ ∃ x y, x < W ∧ y < H ∧ f = fromOf k L h (W - 2 * h) (H - 2 * h) x y ∧ c = col (knot rs x y) := by
  have e1 : (toChart rs).wide = W := R.head
  have e2 : (toChart rs).high = H := R.high
  unfold borderKnots
  rw [e1, e2]
  simp only [List.mem_flatMap, List.mem_map]
  constructor
  · rintro ⟨⟨r, y⟩, hr, ⟨c', x⟩, hc, e⟩
    simp only [Prod.mk.injEq] at e
    obtain ⟨e3, e4⟩ := e
    subst e3 e4
    have hr := mem_zipIdx.mp hr
    have hc := mem_zipIdx.mp hc
    simp only at hc
    have hy : y < H := by
      have := (List.getElem?_eq_some_iff.mp hr).1
      have : y < (rs.map fun r => r.map col).length := this
      rw [List.length_map, R.high] at this
      exact this
    have hr2 : (rs.map fun r => r.map col)[y]? = some r := hr
    rw [List.getElem?_map] at hr2
    obtain ⟨r0, h0, rfl⟩ := Option.map_eq_some_iff.mp hr2
    rw [List.getElem?_map] at hc
    obtain ⟨c0, h1, rfl⟩ := Option.map_eq_some_iff.mp hc
    have hx : x < W := by
      have := (List.getElem?_eq_some_iff.mp h1).1
      rw [R.each r0 (List.mem_of_getElem? h0)] at this
      exact this
    refine ⟨x, y, hx, hy, rfl, ?_⟩
    unfold knot
    rw [List.getD_eq_getElem?_getD, List.getD_eq_getElem?_getD, h0, Option.getD_some, h1]
    rfl
  · rintro ⟨x, y, hx, hy, rfl, rfl⟩
    have hy' : y < rs.length := by rw [R.high]; exact hy
    have hx' : x < rs[y].length := by rw [R.each _ (List.getElem_mem hy')]; exact hx
    refine ⟨((rs[y]).map col, y), mem_zipIdx.mpr ?_, (col rs[y][x], x), mem_zipIdx.mpr ?_, ?_⟩
    · show (rs.map fun r => r.map col)[y]? = _
      rw [List.getElem?_map, List.getElem?_eq_getElem hy']
      rfl
    · rw [List.getElem?_map, List.getElem?_eq_getElem hx']
      rfl
    · simp only [Prod.mk.injEq, true_and]
      unfold knot
      rw [List.getD_eq_getElem?_getD, List.getD_eq_getElem?_getD, List.getElem?_eq_getElem hy', Option.getD_some, List.getElem?_eq_getElem hx']
      rfl
theorem col_inj {a b : UInt8} (ha : isCol a = true) (hb : isCol b = true) (h : col a = col b) : a = b := by
  rw [← col_byte a ha, ← col_byte b hb, h]
theorem mem_strip {rs : List Bytes} {W H : Nat} {k : Kind} {L h : Nat} (R : Right rs W H) {n c : Nat} :
    (n, c) ∈ stripKnots L (borderKnots (toChart rs) k L h) ↔ ∃ x y i j, x < W ∧ y < H ∧ fromOf k L h (W - 2 * h) (H - 2 * h) x y = .strip i j ∧ n = j * L + i ∧ c = col (knot rs x y) := by
  unfold stripKnots
  rw [List.mem_filterMap]
  constructor
  · rintro ⟨⟨f, c'⟩, hm, e⟩
    obtain ⟨x, y, hx, hy, e1, e2⟩ := (mem_border R).mp hm
    cases f with
    | field i j => cases e
    | corner i j => cases e
    | strip i j =>
      simp only [Option.some.injEq, Prod.mk.injEq] at e
      exact ⟨x, y, i, j, hx, hy, e1.symm, e.1.symm, e.2.symm.trans e2⟩
  · rintro ⟨x, y, i, j, hx, hy, e1, e2, e3⟩
    refine ⟨(.strip i j, c), (mem_border R).mpr ⟨x, y, hx, hy, e1.symm, e3⟩, ?_⟩
    simp only [Option.some.injEq, Prod.mk.injEq]
    exact ⟨e2.symm, trivial⟩
theorem mem_corner {rs : List Bytes} {W H : Nat} {k : Kind} {L h : Nat} (R : Right rs W H) {n c : Nat} :
    (n, c) ∈ cornerKnots h (borderKnots (toChart rs) k L h) ↔ ∃ x y i j, x < W ∧ y < H ∧ fromOf k L h (W - 2 * h) (H - 2 * h) x y = .corner i j ∧ n = j * h + i ∧ c = col (knot rs x y) := by
  unfold cornerKnots
  rw [List.mem_filterMap]
  constructor
  · rintro ⟨⟨f, c'⟩, hm, e⟩
    obtain ⟨x, y, hx, hy, e1, e2⟩ := (mem_border R).mp hm
    cases f with
    | field i j => cases e
    | strip i j => cases e
    | corner i j =>
      simp only [Option.some.injEq, Prod.mk.injEq] at e
      exact ⟨x, y, i, j, hx, hy, e1.symm, e.1.symm, e.2.symm.trans e2⟩
  · rintro ⟨x, y, i, j, hx, hy, e1, e2, e3⟩
    refine ⟨(.corner i j, c), (mem_border R).mpr ⟨x, y, hx, hy, e1.symm, e3⟩, ?_⟩
    simp only [Option.some.injEq, Prod.mk.injEq]
    exact ⟨e2.symm, trivial⟩
theorem pack_lt {i j L h : Nat} (hi : i < L) (hj : j < h) : j * L + i < L * h := by
  have : (j + 1) * L ≤ h * L := Nat.mul_le_mul_right L hj
  rw [Nat.add_mul, Nat.one_mul, Nat.mul_comm h L] at this
  omega
theorem pack_inj {i j i' j' L : Nat} (hi : i < L) (hi' : i' < L) (e : j * L + i = j' * L + i') : i = i' ∧ j = j' := by
  have a : (j * L + i) % L = i := by rw [Nat.mul_add_mod_self_right]; exact Nat.mod_eq_of_lt hi
  have b : (j' * L + i') % L = i' := by rw [Nat.mul_add_mod_self_right]; exact Nat.mod_eq_of_lt hi'
  have c : i = i' := by rw [← a, ← b, e]
  refine ⟨c, ?_⟩
  subst c
  have : j * L = j' * L := by omega
  exact Nat.eq_of_mul_eq_mul_right (by omega) this

/-! ### what the colours tell, one after another -/
abbrev K3 := Int × Int × Int
def tell (t : List (K3 × UInt8)) (p : K3 × UInt8) : Option (List (K3 × UInt8)) := match t.lookup p.1 with
  | none => some (t ++ [p])
  | some c => if c = p.2 then some t else none
def tellAll (o : Option (List (K3 × UInt8))) (l : List (K3 × UInt8)) : Option (List (K3 × UInt8)) := l.foldl (fun o p => o.bind fun t => tell t p) o
def toldOf (l : List (K3 × UInt8)) : Option (List (K3 × UInt8)) := tellAll (some []) l
theorem toldOf_append (l m : List (K3 × UInt8)) : toldOf (l ++ m) = tellAll (toldOf l) m := List.foldl_append
theorem tellAll_none (m : List (K3 × UInt8)) : tellAll none m = none := by
  induction m with
  | nil => rfl
  | cons x m ih => exact ih
theorem toldOf_none {l : List (K3 × UInt8)} (h : toldOf l = none) (m : List (K3 × UInt8)) : toldOf (l ++ m) = none := by rw [toldOf_append, h, tellAll_none]
theorem toldOf_snoc (l : List (K3 × UInt8)) (p : K3 × UInt8) : toldOf (l ++ [p]) = (toldOf l).bind fun t => tell t p := by rw [toldOf_append]; rfl
theorem lookup_snoc {t : List (K3 × UInt8)} {p : K3 × UInt8} {k : K3} : (t ++ [p]).lookup k = (t.lookup k).or (if k = p.1 then some p.2 else none) := by
  induction t with
  | nil =>
    show ([p] : List (K3 × UInt8)).lookup k = none.or _
    obtain ⟨a, b⟩ := p
    by_cases h : k = a
    · subst h; simp [List.lookup]
    · have : (k == a) = false := by simpa using h
      simp [List.lookup, this, h]
  | cons q t ih =>
    obtain ⟨a, b⟩ := q
    show ((a, b) :: (t ++ [p])).lookup k = _
    by_cases h : k = a
    · subst h; simp [List.lookup]
    · have : (k == a) = false := by simpa using h
      simp only [List.lookup, this]
      exact ih
theorem toldOf_ok : ∀ l : List (K3 × UInt8), (Cons l → ∃ t, toldOf l = some t ∧ (∀ k c, t.lookup k = some c ↔ (k, c) ∈ l) ∧ t.length ≤ l.length) ∧ ((toldOf l).isSome = true → Cons l) := by
  refine snoc_ind ?_ ?_
  · exact ⟨fun _ => ⟨[], rfl, fun k c => by simp, Nat.le_refl _⟩, fun _ a b c h => nomatch h⟩
  · intro l x ih
    rw [toldOf_snoc]
    refine ⟨fun hc => ?_, fun hs => ?_⟩
    · obtain ⟨t, h1, h2, h4⟩ := ih.1 hc.left
      rw [h1, Option.bind_some]
      unfold tell
      cases q : t.lookup x.1 with
      | none =>
        refine ⟨_, rfl, fun k c => ?_, by simp only [List.length_append, List.length_cons, List.length_nil]; omega⟩
        rw [lookup_snoc]
        simp only [List.mem_append, List.mem_singleton]
        rw [← h2]
        by_cases hk : k = x.1
        · subst hk
          rw [q, if_pos rfl]
          simp only [Option.none_or, Option.some.injEq]
          constructor
          · intro z; exact .inr (by rw [← z])
          · intro z
            rcases z with z | z
            · cases z
            · rw [← z]
        · rw [if_neg hk, Option.or_none]
          constructor
          · exact .inl
          · intro z
            rcases z with z | z
            · exact z
            · exact absurd (by rw [← z]) hk
      | some k =>
        have hk := (h2 x.1 k).mp q
        have : k = x.2 := hc x.1 k x.2 (List.mem_append_left _ hk) (List.mem_append_right _ (by simp))
        simp only
        rw [if_pos this]
        refine ⟨t, rfl, fun a c => ?_, by simp only [List.length_append, List.length_cons, List.length_nil]; omega⟩
        rw [h2]
        simp only [List.mem_append, List.mem_singleton]
        constructor
        · exact .inl
        · intro z
          rcases z with z | z
          · exact z
          · subst z
            rw [show c = k from this.symm]
            exact hk
    · cases q : toldOf l with
      | none => rw [q] at hs; cases hs
      | some t =>
        have hc : Cons l := ih.2 (by rw [q]; rfl)
        obtain ⟨t', h1, h2, _⟩ := ih.1 hc
        rw [q] at h1
        cases h1
        rw [q, Option.bind_some] at hs
        unfold tell at hs
        have key : ∀ c, (x.1, c) ∈ l → c = x.2 := by
          intro c hm
          have z := (h2 x.1 c).mpr hm
          rw [z] at hs
          simp only at hs
          split at hs
          · assumption
          · cases hs
        intro a b c m1 m2
        simp only [List.mem_append, List.mem_singleton] at m1 m2
        rcases m1 with m1 | m1
        · rcases m2 with m2 | m2
          · exact hc a b c m1 m2
          · subst m2
            exact key b m1
        · rcases m2 with m2 | m2
          · subst m1
            exact (key c m2).symm
          · have z := m1.trans m2.symm
            injection z with _ e2
theorem toldOf_len {l t : List (K3 × UInt8)} (h : toldOf l = some t) : t.length ≤ l.length := by
  have hc := (toldOf_ok l).2 (by rw [h]; rfl)
  obtain ⟨t', h1, _, h3⟩ := (toldOf_ok l).1 hc
  rw [h] at h1
  cases h1
  exact h3

/-! ### the colours of a border -/
/-- of one knot -/
def hueAt (kind : Int) (L h W H : Nat) (rs : List Bytes) (y x : Nat) : List (K3 × UInt8) := if isField h W H x y = true then [] else [(knotOf kind L h W H x y, knot rs x y)]
def hueRow (kind : Int) (L h W H : Nat) (rs : List Bytes) (y : Nat) : List (K3 × UInt8) := (List.range (W + 2 * h)).flatMap (hueAt kind L h W H rs y)
def hues (kind : Int) (L h W H : Nat) (rs : List Bytes) : List (K3 × UInt8) := (List.range (H + 2 * h)).flatMap (hueRow kind L h W H rs)
theorem mem_hues {kind : Int} {L h W H : Nat} {rs : List Bytes} {k : K3} {c : UInt8} :
    (k, c) ∈ hues kind L h W H rs ↔ ∃ x y, x < W + 2 * h ∧ y < H + 2 * h ∧ ¬ (h ≤ x ∧ x < h + W ∧ h ≤ y ∧ y < h + H) ∧ k = knotOf kind L h W H x y ∧ c = knot rs x y := by
  unfold hues hueRow hueAt
  simp only [List.mem_flatMap, List.mem_range]
  constructor
  · rintro ⟨y, hy, x, hx, e⟩
    rw [isField_iff] at e
    by_cases f : h ≤ x ∧ x < h + W ∧ h ≤ y ∧ y < h + H
    · rw [if_pos (decide_eq_true f)] at e
      exact nomatch e
    · rw [decide_eq_false f, if_neg Bool.false_ne_true, List.mem_singleton] at e
      injection e with e1 e2
      exact ⟨x, y, hx, hy, f, e1, e2⟩
  · rintro ⟨x, y, hx, hy, f, e1, e2⟩
    refine ⟨y, hy, x, hx, ?_⟩
    rw [isField_iff, decide_eq_false f, if_neg Bool.false_ne_true, e1, e2]
    exact List.mem_singleton_self _
theorem hueAt_len (kind : Int) (L h W H : Nat) (rs : List Bytes) (y x : Nat) : (hueAt kind L h W H rs y x).length ≤ 1 := by
  unfold hueAt
  split <;> simp
theorem flat_len {f : Nat → List (K3 × UInt8)} {m : Nat} (h : ∀ i, (f i).length ≤ m) : ∀ n, ((List.range n).flatMap f).length ≤ n * m
  | 0 => by simp
  | n + 1 => by
    rw [List.range_succ, List.flatMap_append, List.length_append]
    have := flat_len h n
    have h1 := h n
    have e : ([n].flatMap f).length = (f n).length := by simp
    rw [e, Nat.add_mul, Nat.one_mul]
    omega
theorem hueRow_len (kind : Int) (L h W H : Nat) (rs : List Bytes) (y : Nat) : (hueRow kind L h W H rs y).length ≤ W + 2 * h := by
  have := flat_len (hueAt_len kind L h W H rs y) (W + 2 * h)
  unfold hueRow
  omega
def foundAt (kind : Int) (L h : Nat) (rs : List Bytes) : Option (List Bytes) :=
  if fitsRound kind L h (((rs.headD []).length : Int) - 2 * h) ((rs.length : Int) - 2 * h) = true then
    (toldOf (hues kind L h ((rs.headD []).length - 2 * h) (rs.length - 2 * h) rs)).map fun t => byRows L h fun i j => (t.lookup (1, (i : Int), (j : Int))).getD 97
  else none
def longest (kind W H h : Int) : Int := if kind = 2 then min W H + h else if kind = 1 then (min W H + 2 * h) / 2 else min W H
def foundStrip (kind : Int) (h : Nat) (rs : List Bytes) : Option (List Bytes) :=
  (List.range (longest kind (((rs.headD []).length : Int) - 2 * h) ((rs.length : Int) - 2 * h) h).toNat).findSome? fun i => foundAt kind (i + 1) h rs
def foundAns (h kind : Int) (b : Bytes) : List Int := match rugOf h b with
  | .inl c => [c]
  | .inr rs => if 2 < kind then [-1] else match foundStrip kind h.toNat rs with
    | none => [-5]
    | some u => counted (txt u)
theorem three_strip {f : From} {i j : Nat} : three f = (1, (i : Int), (j : Int)) ↔ f = .strip i j :=
  ⟨fun e => three_inj (g := .strip i j) e, fun e => by rw [e]; rfl⟩
theorem three_corner {f : From} {i j : Nat} : three f = (2, (i : Int), (j : Int)) ↔ f = .corner i j :=
  ⟨fun e => three_inj (g := .corner i j) e, fun e => by rw [e]; rfl⟩
theorem field_iff {k : Kind} {L h W H x y : Nat} : (∃ i j, fromOf k L h W H x y = .field i j) ↔ (h ≤ x ∧ x < h + W ∧ h ≤ y ∧ y < h + H) := by
  constructor
  · rintro ⟨i, j, e⟩
    refine Classical.byContradiction fun hn => ?_
    unfold fromOf at e
    simp only [if_neg hn] at e
    cases k with
    | set =>
      simp only [cornerAt] at e
      split at e
      · cases e
      · split at e
        · cases e
        · split at e
          · cases e
          · split at e
            · cases e
            · split at e
              · cases e
              · split at e
                · cases e
                · split at e <;> cases e
    | met => cases e
    | run =>
      simp only at e
      split at e
      · cases e
      · split at e
        · cases e
        · split at e <;> cases e
  · intro hf
    refine ⟨x - h, y - h, ?_⟩
    unfold fromOf
    simp only [if_pos hf]
theorem strip_text {kind : Int} {L h : Nat} {rs : List Bytes} {W H : Nat} (k0 : 0 ≤ kind) (k2 : kind ≤ 2) (R : Right rs W H) (hL : 1 ≤ L) (hW : 2 * h < W) (hH : 2 * h < H) :
    (stripOf (toChart rs) (kd kind) L h).map Chart.text = (foundAt kind L h rs).map txt := by
  have e1 : (toChart rs).wide = W := R.head
  have e2 : (toChart rs).high = H := R.high
  unfold stripOf foundAt
  rw [e1, e2, R.head, R.high, fits_nat k0 k2]
  have z1 : ((W - 2 * h : Nat) : Int) = (W : Int) - 2 * h := by omega
  have z2 : ((H - 2 * h : Nat) : Int) = (H : Int) - 2 * h := by omega
  rw [z1, z2]
  cases hf : fitsRound kind L h ((W : Int) - 2 * h) ((H : Int) - 2 * h) with
  | false => rfl
  | true =>
    rw [if_pos rfl, if_pos rfl]
    simp only
    generalize hS : stripKnots L (borderKnots (toChart rs) (kd kind) L h) = S
    generalize hC : cornerKnots h (borderKnots (toChart rs) (kd kind) L h) = C
    generalize hT : hues kind L h (W - 2 * h) (H - 2 * h) rs = T
    have w1 : W - 2 * h + 2 * h = W := by omega
    have w2 : H - 2 * h + 2 * h = H := by omega
    have mS : ∀ n c, (n, c) ∈ S ↔ ∃ x y i j, x < W ∧ y < H ∧ fromOf (kd kind) L h (W - 2 * h) (H - 2 * h) x y = .strip i j ∧ n = j * L + i ∧ c = col (knot rs x y) := fun n c => by rw [← hS]; exact mem_strip R
    have mC : ∀ n c, (n, c) ∈ C ↔ ∃ x y i j, x < W ∧ y < H ∧ fromOf (kd kind) L h (W - 2 * h) (H - 2 * h) x y = .corner i j ∧ n = j * h + i ∧ c = col (knot rs x y) := fun n c => by rw [← hC]; exact mem_corner R
    have mT : ∀ k c, (k, c) ∈ T ↔ ∃ x y, x < W ∧ y < H ∧ ¬ (∃ i j, fromOf (kd kind) L h (W - 2 * h) (H - 2 * h) x y = .field i j) ∧ k = three (fromOf (kd kind) L h (W - 2 * h) (H - 2 * h) x y) ∧ c = knot rs x y := by
      intro k c
      rw [← hT, mem_hues]
      constructor
      · rintro ⟨x, y, hx, hy, f, e, ec⟩
        exact ⟨x, y, by omega, by omega, fun q => f (field_iff.mp q), by rw [e, knot_from k0 k2 hx hy], ec⟩
      · rintro ⟨x, y, hx, hy, f, e, ec⟩
        exact ⟨x, y, by omega, by omega, fun q => f (field_iff.mpr q), by rw [e, knot_from k0 k2 (by omega) (by omega)], ec⟩
    have sin : ∀ {x y i j}, x < W → y < H → fromOf (kd kind) L h (W - 2 * h) (H - 2 * h) x y = .strip i j → i < L ∧ j < h := fun hx hy e => strip_in hL (by omega) (by omega) e
    have cin : ∀ {x y i j}, x < W → y < H → fromOf (kd kind) L h (W - 2 * h) (H - 2 * h) x y = .corner i j → i < h ∧ j < h := fun hx hy e => by
      have := corner_in (by omega) (by omega) e
      exact ⟨this.1, this.2.1⟩
    have bS : ∀ p ∈ S, p.1 < L * h := by
      rintro ⟨n, c⟩ hp
      obtain ⟨x, y, i, j, hx, hy, e, rfl, _⟩ := (mS n c).mp hp
      obtain ⟨hi, hj⟩ := sin hx hy e
      exact pack_lt hi hj
    have bC : ∀ p ∈ C, p.1 < h * h := by
      rintro ⟨n, c⟩ hp
      obtain ⟨x, y, i, j, hx, hy, e, rfl, _⟩ := (mC n c).mp hp
      obtain ⟨hi, hj⟩ := cin hx hy e
      exact pack_lt hi hj
    have isc : ∀ {x y}, x < W → y < H → isCol (knot rs x y) = true := fun hx hy => (at_knot R hx hy).2.2
    have iff1 : Cons T ↔ Cons S ∧ Cons C := by
      constructor
      · intro ct
        refine ⟨fun n a b ha hb => ?_, fun n a b ha hb => ?_⟩
        · obtain ⟨x, y, i, j, hx, hy, e, en, ec⟩ := (mS n a).mp ha
          obtain ⟨x', y', i', j', hx', hy', e', en', ec'⟩ := (mS n b).mp hb
          obtain ⟨rfl, rfl⟩ := pack_inj (sin hx hy e).1 (sin hx' hy' e').1 (en.symm.trans en')
          have := ct (three (.strip i j)) (knot rs x y) (knot rs x' y') ((mT _ _).mpr ⟨x, y, hx, hy, (by rw [e]; rintro ⟨_, _, q⟩; cases q), by rw [e], rfl⟩) ((mT _ _).mpr ⟨x', y', hx', hy', (by rw [e']; rintro ⟨_, _, q⟩; cases q), by rw [e'], rfl⟩)
          rw [ec, ec', this]
        · obtain ⟨x, y, i, j, hx, hy, e, en, ec⟩ := (mC n a).mp ha
          obtain ⟨x', y', i', j', hx', hy', e', en', ec'⟩ := (mC n b).mp hb
          obtain ⟨rfl, rfl⟩ := pack_inj (cin hx hy e).1 (cin hx' hy' e').1 (en.symm.trans en')
          have := ct (three (.corner i j)) (knot rs x y) (knot rs x' y') ((mT _ _).mpr ⟨x, y, hx, hy, (by rw [e]; rintro ⟨_, _, q⟩; cases q), by rw [e], rfl⟩) ((mT _ _).mpr ⟨x', y', hx', hy', (by rw [e']; rintro ⟨_, _, q⟩; cases q), by rw [e'], rfl⟩)
          rw [ec, ec', this]
      · rintro ⟨cs, cc⟩ k a b ha hb
        obtain ⟨x, y, hx, hy, nf, ek, ea⟩ := (mT k a).mp ha
        obtain ⟨x', y', hx', hy', nf', ek', eb⟩ := (mT k b).mp hb
        have same := three_inj (ek.symm.trans ek')
        subst ea eb
        refine col_inj (isc hx hy) (isc hx' hy') ?_
        cases e : fromOf (kd kind) L h (W - 2 * h) (H - 2 * h) x y with
        | field i j => exact absurd ⟨i, j, e⟩ nf
        | strip i j => exact cs (j * L + i) _ _ ((mS _ _).mpr ⟨x, y, i, j, hx, hy, e, rfl, rfl⟩) ((mS _ _).mpr ⟨x', y', i, j, hx', hy', by rw [← same]; exact e, rfl, rfl⟩)
        | corner i j => exact cc (j * h + i) _ _ ((mC _ _).mpr ⟨x, y, i, j, hx, hy, e, rfl, rfl⟩) ((mC _ _).mpr ⟨x', y', i, j, hx', hy', by rw [← same]; exact e, rfl, rfl⟩)
    by_cases ct : Cons T
    · obtain ⟨cs, cc⟩ := iff1.mp ct
      obtain ⟨v, g1, _, g3⟩ := (gathered_ok _ S bS).1 cs
      obtain ⟨v', g1', _⟩ := (gathered_ok _ C bC).1 cc
      obtain ⟨t, t1, t2, _⟩ := (toldOf_ok T).1 ct
      rw [g1, g1', t1]
      show some (Chart.by_ L h fun x y => (v.getD (y * L + x) none).getD 0).text = some (txt _)
      congr 1
      refine by_text L h _ (fun i j => (t.lookup (1, (i : Int), (j : Int))).getD 97) fun i j hi hj => ?_
      have hp := pack_lt (h := h) hi hj
      have g3 := fun c => g3 (j * L + i) c hp
      cases q : v.getD (j * L + i) none with
      | none =>
        cases q2 : t.lookup (1, (i : Int), (j : Int)) with
        | none => rfl
        | some c =>
          obtain ⟨x, y, hx, hy, _, e, _⟩ := (mT _ _).mp ((t2 _ _).mp q2)
          have := (g3 (col (knot rs x y))).mpr ((mS _ _).mpr ⟨x, y, i, j, hx, hy, three_strip.mp e.symm, rfl, rfl⟩)
          rw [q] at this
          cases this
      | some n =>
        obtain ⟨x, y, i', j', hx, hy, e, en, ec⟩ := (mS _ _).mp ((g3 n).mp q)
        obtain ⟨rfl, rfl⟩ := pack_inj hi (sin hx hy e).1 en
        have := (t2 (1, (i : Int), (j : Int)) (knot rs x y)).mpr ((mT _ _).mpr ⟨x, y, hx, hy, (by rw [e]; rintro ⟨_, _, q⟩; cases q), by rw [e]; rfl, rfl⟩)
        rw [this]
        show byteOf n = knot rs x y
        rw [ec, col_byte _ (isc hx hy)]
    · have tn : toldOf T = none := by
        cases q : toldOf T with
        | none => rfl
        | some t => exact absurd ((toldOf_ok T).2 (by rw [q]; rfl)) ct
      rw [tn]
      by_cases cs : Cons S
      · have cc : ¬ Cons C := fun z => ct (iff1.mpr ⟨cs, z⟩)
        have : gathered (h * h) C = none := by
          cases q : gathered (h * h) C with
          | none => rfl
          | some t => exact absurd ((gathered_ok _ C bC).2 (by rw [q]; rfl)) cc
        rw [this]
        cases gathered (L * h) S <;> rfl
      · have : gathered (L * h) S = none := by
          cases q : gathered (L * h) S with
          | none => rfl
          | some t => exact absurd ((gathered_ok _ S bS).2 (by rw [q]; rfl)) cs
        rw [this]
        rfl
theorem emod_le {a b : Int} (ha : 0 < a) (hb : 0 < b) (h : a % b = 0) : b ≤ a := Int.le_of_dvd ha (Int.dvd_of_emod_eq_zero h)
theorem fits_longest {kind L h W H : Int} (k0 : 0 ≤ kind) (k2 : kind ≤ 2) (hL : 1 ≤ L) (hh : 1 ≤ h) (hW : 1 ≤ W) (hH : 1 ≤ H) (e : fitsRound kind L h W H = true) : L ≤ longest kind W H h := by
  unfold fitsRound fitsAlong at e
  unfold longest
  have : kind = 0 ∨ kind = 1 ∨ kind = 2 := by omega
  rcases this with rfl | rfl | rfl
  · simp only [if_true, Bool.and_eq_true, decide_eq_true_eq] at e
    have a := emod_le (by omega) (by omega) e.1
    have b := emod_le (by omega) (by omega) e.2
    rw [if_neg (by decide), if_neg (by decide)]
    omega
  · have ne : ¬ ((1 : Int) = 0) := by decide
    simp only [if_neg ne, if_true, Bool.and_eq_true, decide_eq_true_eq] at e
    have a := emod_le (by omega) (by omega) e.1
    have b := emod_le (by omega) (by omega) e.2
    rw [if_neg (by decide), if_pos rfl]
    omega
  · have ne : ¬ ((2 : Int) = 0) := by decide
    have ne' : ¬ ((2 : Int) = 1) := by decide
    simp only [if_neg ne, if_neg ne', Bool.and_eq_true, decide_eq_true_eq] at e
    have a := emod_le (by omega) (by omega) e.1
    have b := emod_le (by omega) (by omega) e.2
    rw [if_pos rfl]
    omega
theorem longest_le {kind h W H : Int} (hh : 1 ≤ h) (hW : 1 ≤ W) (hH : 1 ≤ H) (w : W + 2 * h ≤ 512) : longest kind W H h ≤ 512 := by
  unfold longest
  split
  · omega
  · split <;> omega
theorem findSome_ext {A : Type} {f : Nat → Option A} : ∀ (n d : Nat), (∀ i, n ≤ i → f i = none) → (List.range (n + d)).findSome? f = (List.range n).findSome? f
  | n, 0, _ => rfl
  | n, d + 1, h => by
    rw [← Nat.add_assoc, List.range_succ, List.findSome?_append, findSome_ext n d h]
    have : ([n + d].findSome? f) = none := by
      have := h (n + d) (Nat.le_add_right _ _)
      simp [List.findSome?, this]
    rw [this, Option.or_none]
theorem range_findSome {A : Type} {f : Nat → Option A} (n : Nat) : (List.range (n + 1)).findSome? f = (f 0).or ((List.range n).findSome? fun i => f (i + 1)) := by
  rw [List.range_succ_eq_map, List.findSome?_cons, List.findSome?_map]
  cases f 0 <;> rfl
theorem findSome_text {A B : Type} {g : A → B} {f : Nat → Option A} : ∀ l : List Nat, (l.findSome? f).map g = l.findSome? fun i => (f i).map g
  | [] => rfl
  | x :: l => by
    rw [List.findSome?_cons, List.findSome?_cons]
    cases f x with
    | none => exact findSome_text l
    | some a => rfl
/-- law 5 -/
theorem found_law {h kind : Int} {t : List Int} (h0 : 0 ≤ h) (k0 : 0 ≤ kind) : PyWqbbch.found h kind t = foundAns h kind (RugDNeutral.text t) := by
  show RugDNeutral.shown (ofRug (RugDNeutral.text t) h.toNat fun c => match kindAt kind.toNat with
    | none => BAD
    | some k => (match foundIn c k h.toNat with
      | none => NONE
      | some u => whole u)) = _
  rw [ofRug_look h h0]
  unfold foundAns
  cases e : rugOf h (RugDNeutral.text t) with
  | inl c => rfl
  | inr rs =>
    obtain ⟨R, h1, h2, h3, h4⟩ := rug_right e
    simp only
    by_cases hk : kind ≤ 2
    · rw [kindAt_ok k0 hk, if_neg (by omega)]
      simp only
      have key : (foundIn (toChart rs) (kd kind) h.toNat).map Chart.text = (foundStrip kind h.toNat rs).map txt := by
        unfold foundIn foundStrip
        generalize hn : longest kind (((rs.headD []).length : Int) - 2 * (h.toNat : Int)) ((rs.length : Int) - 2 * (h.toNat : Int)) (h.toNat : Int) = n
        have hnL : n ≤ 512 := by
          rw [← hn]
          exact longest_le (by omega) (by omega) (by omega) (by have := R.w2; omega)
        rw [findSome_text, findSome_text, show SIDE + 1 = 512 + 1 from rfl, range_findSome, if_pos rfl]
        show (List.range 512).findSome? (fun i => Option.map Chart.text (if i + 1 = 0 then none else stripOf (toChart rs) (kd kind) (i + 1) h.toNat)) = _
        have e1 : (fun i => Option.map Chart.text (if i + 1 = 0 then none else stripOf (toChart rs) (kd kind) (i + 1) h.toNat)) = fun i => (foundAt kind (i + 1) h.toNat rs).map txt := by
          funext i
          rw [if_neg (by omega)]
          exact strip_text k0 hk R (by omega) (by omega) (by omega)
        rw [e1]
        have e2 : 512 = n.toNat + (512 - n.toNat) := by omega
        rw [e2]
        refine findSome_ext _ _ fun i hi => ?_
        have : foundAt kind (i + 1) h.toNat rs = none := by
          unfold foundAt
          refine if_neg fun z => ?_
          have := fits_longest k0 hk (by omega) (by omega) (by omega) (by omega) z
          rw [hn] at this
          omega
        rw [this]
        rfl
      cases q : foundIn (toChart rs) (kd kind) h.toNat with
      | none =>
        rw [q] at key
        cases q2 : foundStrip kind h.toNat rs with
        | none => rfl
        | some u => rw [q2] at key; cases key
      | some u =>
        rw [q] at key
        cases q2 : foundStrip kind h.toNat rs with
        | none => rw [q2] at key; cases key
        | some u' =>
          rw [q2] at key
          have key : u.text = txt u' := Option.some.inj key
          show counted u.text = counted (txt u')
          rw [key]
    · rw [kindAt_no hk, if_pos (by omega)]
      rfl

/-! ### corner -/
def sides (h N : Nat) : List Nat := List.range h ++ (List.range h).map (N - h + ·)
def cornerSame (h W H : Nat) (rs : List Bytes) (y x : Nat) : Bool :=
  let k := knotOf 0 1 h W H x y
  !(decide (k.1 = 2) && decide (knot rs k.2.1.toNat k.2.2.toNat ≠ knot rs x y))
def cornerOk (h : Nat) (rs : List Bytes) : Bool :=
  (sides h rs.length).all fun y => (sides h (rs.headD []).length).all fun x => cornerSame h ((rs.headD []).length - 2 * h) (rs.length - 2 * h) rs y x
def cornerAns (h : Int) (b : Bytes) : List Int := match rugOf h b with
  | .inl c => [c]
  | .inr rs => if cornerOk h.toNat rs = true then counted (txt (cutRows rs 0 0 h.toNat h.toNat)) else [-5]
theorem mem_sides {h N x : Nat} (hN : h ≤ N) : x ∈ sides h N ↔ x < h ∨ (N - h ≤ x ∧ x < N) := by
  unfold sides
  rw [List.mem_append, List.mem_range, List.mem_map]
  constructor
  · rintro (q | ⟨i, hi, rfl⟩)
    · exact .inl q
    · rw [List.mem_range] at hi
      exact .inr ⟨by omega, by omega⟩
  · rintro (q | q)
    · exact .inl q
    · exact .inr ⟨x - (N - h), List.mem_range.mpr (by omega), by omega⟩
theorem corner_there {h W H x y i j : Nat} (hx : x < W + 2 * h) (hy : y < H + 2 * h) (e : fromOf .set 1 h W H x y = .corner i j) : (x < h ∨ h + W ≤ x) ∧ (y < h ∨ h + H ≤ y) := by
  refine Classical.byContradiction fun c => ?_
  unfold fromOf at e
  simp only [cornerAt] at e
  split at e
  · cases e
  · split at e
    · omega
    · split at e
      · omega
      · split at e
        · omega
        · split at e
          · omega
          · split at e
            · cases e
            · split at e
              · cases e
              · split at e <;> cases e
theorem corner_self {h W H i j : Nat} (hi : i < h) (hj : j < h) : fromOf .set 1 h W H i j = .corner i j := by
  unfold fromOf
  simp only
  rw [if_neg (by omega), if_pos ⟨hi, hj⟩]
  rfl
theorem cornerSame_iff {h W H x y : Nat} {rs : List Bytes} (hx : x < W + 2 * h) (hy : y < H + 2 * h) : cornerSame h W H rs y x = true ↔ ∀ i j, fromOf .set 1 h W H x y = .corner i j → knot rs i j = knot rs x y := by
  have e := knot_from (kind := 0) (L := 1) (by decide) (by decide) hx hy
  unfold cornerSame
  have e' : knotOf 0 1 h W H x y = three (fromOf .set 1 h W H x y) := e
  simp only
  rw [e']
  cases q : fromOf .set 1 h W H x y with
  | field i j => exact ⟨fun _ a b z => (nomatch z), fun _ => rfl⟩
  | strip i j => exact ⟨fun _ a b z => (nomatch z), fun _ => rfl⟩
  | corner i j =>
    simp only [three, Int.toNat_natCast, decide_true, Bool.true_and, Bool.not_eq_true']
    constructor
    · intro z a b e2
      cases e2
      exact Classical.byContradiction fun ne => of_decide_eq_false z ne
    · intro z
      exact decide_eq_false fun ne => ne (z i j rfl)
/-- law 6 -/
theorem corner_law {h : Int} {t : List Int} (h0 : 0 ≤ h) : PyWqbbch.corner h t = cornerAns h (RugDNeutral.text t) := by
  show RugDNeutral.shown (ofRug (RugDNeutral.text t) h.toNat fun c => match cornerOf c h.toNat with
    | none => NONE
    | some u => whole u) = _
  rw [ofRug_look h h0]
  unfold cornerAns
  cases e : rugOf h (RugDNeutral.text t) with
  | inl c => rfl
  | inr rs =>
    obtain ⟨R, h1, h2, h3, h4⟩ := rug_right e
    simp only
    have key : (gathered (h.toNat * h.toNat) (cornerKnots h.toNat (borderKnots (toChart rs) .set 1 h.toNat))).isSome = cornerOk h.toNat rs := by
      generalize hd : h.toNat = d
      generalize hW : (rs.headD []).length = W at R h3
      generalize hH : rs.length = H at R h4
      have d1 : 2 * d < W := by omega
      have d2 : 2 * d < H := by omega
      have w1 : W - 2 * d + 2 * d = W := by omega
      have w2 : H - 2 * d + 2 * d = H := by omega
      have cin : ∀ {x y i j}, x < W → y < H → fromOf .set 1 d (W - 2 * d) (H - 2 * d) x y = .corner i j → i < d ∧ j < d := fun hx hy e => by
        have := corner_in (by omega) (by omega) e
        exact ⟨this.1, this.2.1⟩
      have isc : ∀ {x y}, x < W → y < H → isCol (knot rs x y) = true := fun hx hy => (at_knot R hx hy).2.2
      rw [Bool.eq_iff_iff, gathered_some]
      · unfold cornerOk
        rw [hW, hH]
        simp only [List.all_eq_true]
        constructor
        · intro cc y hy x hx
          have hy' := (mem_sides (by omega)).mp hy
          have hx' := (mem_sides (by omega)).mp hx
          have hy2 : y < H := by omega
          have hx2 : x < W := by omega
          rw [cornerSame_iff (by omega) (by omega)]
          intro i j eq
          obtain ⟨hi, hj⟩ := cin hx2 hy2 eq
          refine col_inj (isc (by omega) (by omega)) (isc hx2 hy2) ?_
          exact cc (j * d + i) _ _ ((mem_corner R).mpr ⟨i, j, i, j, by omega, by omega, corner_self hi hj, rfl, rfl⟩) ((mem_corner R).mpr ⟨x, y, i, j, hx2, hy2, eq, rfl, rfl⟩)
        · intro all n a b ha hb
          obtain ⟨x, y, i, j, hx, hy, eq, en, ec⟩ := (mem_corner R).mp ha
          obtain ⟨x', y', i', j', hx', hy', eq', en', ec'⟩ := (mem_corner R).mp hb
          obtain ⟨rfl, rfl⟩ := pack_inj (cin hx hy eq).1 (cin hx' hy' eq').1 (en.symm.trans en')
          have t1 := corner_there (by omega) (by omega) eq
          have t2 := corner_there (by omega) (by omega) eq'
          have q1 := (cornerSame_iff (by omega) (by omega)).mp (all y ((mem_sides (by omega)).mpr (by omega)) x ((mem_sides (by omega)).mpr (by omega))) i j eq
          have q2 := (cornerSame_iff (by omega) (by omega)).mp (all y' ((mem_sides (by omega)).mpr (by omega)) x' ((mem_sides (by omega)).mpr (by omega))) i j eq'
          rw [ec, ec', ← q1, ← q2]
      · rintro ⟨n, c⟩ hp
        obtain ⟨x, y, i, j, hx, hy, eq, rfl, _⟩ := (mem_corner R).mp hp
        obtain ⟨hi, hj⟩ := cin hx hy eq
        exact pack_lt hi hj
    unfold cornerOf
    rw [key]
    cases cornerOk h.toNat rs with
    | false => rfl
    | true =>
      rw [if_pos rfl, if_pos rfl]
      show counted ((toChart rs).cutOut 0 0 h.toNat h.toNat).text = _
      congr 1
      show (Chart.by_ h.toNat h.toNat fun i j => (toChart rs).at_ (0 + i) (0 + j)).text = _
      rw [by_text _ _ _ (fun i j => knot rs (0 + i) (0 + j)) fun x y hx hy => (at_knot R (by omega) (by omega)).1]
      rw [byRows_cut R (by omega) (by omega)]
/-! ### for the walk -/
theorem flat_split {A : Type} (f : Nat → List A) : ∀ {n i : Nat}, i < n → ∃ rest, (List.range n).flatMap f = (List.range i).flatMap f ++ (f i ++ rest)
  | 0, i, h => absurd h (Nat.not_lt_zero i)
  | n + 1, i, h => by
    rw [List.range_succ, List.flatMap_append]
    by_cases e : i = n
    · subst e
      exact ⟨[], by simp⟩
    · obtain ⟨rest, hr⟩ := flat_split f (n := n) (i := i) (by omega)
      refine ⟨rest ++ [n].flatMap f, ?_⟩
      rw [hr]
      simp only [List.append_assoc]
theorem flat_succ {A : Type} (f : Nat → List A) (i : Nat) : (List.range (i + 1)).flatMap f = (List.range i).flatMap f ++ f i := by
  rw [List.range_succ, List.flatMap_append]
  simp
/-- the knots told so far, up to the x-th of the y-th row -/
def huesTo (kind : Int) (L h W H : Nat) (rs : List Bytes) (y x : Nat) : List (K3 × UInt8) := (List.range y).flatMap (hueRow kind L h W H rs) ++ (List.range x).flatMap (hueAt kind L h W H rs y)
theorem huesTo_start (kind : Int) (L h W H : Nat) (rs : List Bytes) (y : Nat) : huesTo kind L h W H rs y 0 = (List.range y).flatMap (hueRow kind L h W H rs) := by
  unfold huesTo
  simp
theorem huesTo_next (kind : Int) (L h W H : Nat) (rs : List Bytes) (y x : Nat) : huesTo kind L h W H rs y (x + 1) = huesTo kind L h W H rs y x ++ hueAt kind L h W H rs y x := by
  unfold huesTo
  rw [flat_succ, List.append_assoc]
theorem huesTo_row (kind : Int) (L h W H : Nat) (rs : List Bytes) (y : Nat) : huesTo kind L h W H rs y (W + 2 * h) = (List.range (y + 1)).flatMap (hueRow kind L h W H rs) := by
  unfold huesTo
  rw [flat_succ]
  rfl
theorem hues_from {kind : Int} {L h W H : Nat} {rs : List Bytes} {y x : Nat} (hx : x < W + 2 * h) (hy : y < H + 2 * h) : ∃ rest, hues kind L h W H rs = huesTo kind L h W H rs y (x + 1) ++ rest := by
  obtain ⟨r1, e1⟩ := flat_split (hueRow kind L h W H rs) hy
  obtain ⟨r2, e2⟩ := flat_split (hueAt kind L h W H rs y) hx
  refine ⟨r2 ++ r1, ?_⟩
  unfold hues
  rw [e1]
  have e3 : hueRow kind L h W H rs y = (List.range x).flatMap (hueAt kind L h W H rs y) ++ (hueAt kind L h W H rs y x ++ r2) := e2
  rw [e3, huesTo_next]
  unfold huesTo
  simp only [List.append_assoc]
theorem huesTo_len (kind : Int) (L h W H : Nat) (rs : List Bytes) (y x : Nat) : (huesTo kind L h W H rs y x).length ≤ y * (W + 2 * h) + x := by
  unfold huesTo
  rw [List.length_append]
  have h1 := flat_len (hueRow_len kind L h W H rs) y
  have h2 := flat_len (hueAt_len kind L h W H rs y) x
  omega
theorem findSome_hit {A : Type} {f : Nat → Option A} {u : A} : ∀ {n i : Nat}, i < n → (∀ j, j < i → f j = none) → f i = some u → (List.range n).findSome? f = some u
  | 0, i, h, _, _ => absurd h (Nat.not_lt_zero i)
  | n + 1, i, h, h0, h1 => by
    rw [List.range_succ, List.findSome?_append]
    by_cases e : i = n
    · subst e
      have : (List.range i).findSome? f = none := by
        rw [List.findSome?_eq_none_iff]
        intro j hj
        exact h0 j (List.mem_range.mp hj)
      rw [this, Option.none_or]
      simp [List.findSome?, h1]
    · rw [findSome_hit (n := n) (i := i) (by omega) h0 h1]
      rfl
theorem findSome_miss {A : Type} {f : Nat → Option A} {n : Nat} (h0 : ∀ j, j < n → f j = none) : (List.range n).findSome? f = none := by
  rw [List.findSome?_eq_none_iff]
  intro j hj
  exact h0 j (List.mem_range.mp hj)
theorem foundAt_len {kind : Int} {L h : Nat} {rs u : List Bytes} (e : foundAt kind L h rs = some u) : u.length = h ∧ ∀ r ∈ u, r.length ≤ L := by
  unfold foundAt at e
  split at e
  · obtain ⟨t, _, rfl⟩ := Option.map_eq_some_iff.mp e
    exact ⟨byRows_len _ _ _, byRows_each _ _ _⟩
  · cases e
end Rug

namespace PySem
namespace RefX
open PySem.W PySem.Calls PyProof.Rows PySem.HandSPX
/-! ### the text of __init__ -/
def iA (p1 p2 : Pos) : Arguments := { posonlyargs := [], args := [{ arg := "self", annotation := none, pos := p1 }, { arg := "code", annotation := none, pos := p2 }], vararg := none, kwonlyargs := [], kw_defaults := [], kwarg := none, defaults := [] }
def iB (q1 q2 q3 q4 : Pos) : List Stmt := [.Assign [.Attribute (.Name "self" q1) "code" q2] (.Name "code" q3) q4]
def iS : Scope := { kind := .function, names := [(PySem.Str.ofString "self", .local), (PySem.Str.ofString "code", .local)], isGenerator := false, isCoroutine := false, more := [] }
/-- what the written part says of Refused, at C, and of its __init__, at fI -/
structure RefTxt (K : Frag) (mg : Str → Option Value) (C fI : Addr) : Prop where
  gC : mg "Refused" = some (.ref C)
  cls : ∃ nm q N bs bm sn sub ab col dd k0 k1 k2 k3 k5, K.lookup C = some (excClassObj nm q C N bs bm true sn sub ab col dd k0 k1 k2 k3 k5 "ValueError.__new__") ∧ refsVE bm = true
  sa : findIn K (.ref C) "__setattr__" = some (some (.builtin "object.__setattr__"))
  ga : findIn K (.ref C) "__getattribute__" = some (some (.builtin "BaseException.__getattribute__"))
  gg : findIn K (.ref C) "__getattr__" = some none
  noN : findIn K (.ref C) "code" = some none
  iC : findIn K (.ref C) "__init__" = some (some (.ref fI))
  tC : typeIn K (.ref fI) = some (.type "function")
  kC : keepIn K (.ref C) = true
  exC : subIn K (.ref C) (.type "BaseException") = some true
  tyC : typeIn K (.ref C) = some (.type "type")
  hdC : hasDictIn K C = true
  te : exmOne K (.ref C) (.ref C) = some true
  fn : ∃ (oc : Value) (od : Option Addr) (doc pm : Value) (an : Option Addr) (cdv ct : Value) (osl : Array (Option Value)) (p1 p2 q1 q2 q3 q4 : Pos),
    K.lookup fI = some ⟨oc, od, .func (fnOf "__init__" "Refused.__init__" (iA p1 p2) (iB q1 q2 q3 q4) iS .none .none doc pm an cdv ct), osl⟩ ∧ codeIn K cdv "Refused.__init__" = true
theorem one_size (v : Value) : [v].length ≤ sizeLine := by
  rw [sizeLine_eq]
  exact (by decide : 1 ≤ 16777216)
theorem kept_but {K : Frag} {h h' : Heap} {x : Addr} (X : K.In h) (hx : K.lookup x = none) (k : ∀ b o, b ≠ x → h.get? b = some o → h'.get? b = some o) : K.In h' := fun a o e =>
  k a o (fun z => by rw [z, hx] at e; cases e) (X a o e)
theorem ldC {M : Model} {s : Shared} {name : Str} {scope : Scope} {L a : Addr} {cd : Value} {m : Str → Option Value} {x : Str} {pos : Pos} {v : Value} {Q : Value → Shared → Prop} {A : Around} {E : Value → Shared → Prop} (hn : s.heap.Ns L m) (hv : m x = some v) (h : Q v s)
    (hk : scope.kind = .function := by rfl) (hl : (envOfC name scope L a cd).kindOf x = some .local := by rfl) (hd : (x == ("__debug__" : Str)) = false := by decide) :
    wpAny M A (eval (.Name x pos) (envOfC name scope L a cd)) Q E s := wpAny_Name (wpAny_loadName_local hk hl hn hv h) hd
/-- what __init__ leaves of a fresh exception at x -/
structure InitEnd (h h' : Heap) (x C dx t1 : Addr) (v : Value) : Prop where
  keep : ∀ b o, b ≠ x → h.get? b = some o → h'.get? b = some o
  obj : h'.get? x = some { cls := .ref C, dict := some dx, data := .fields #[.ref t1, .none, .none, .none, .bool false, .none] }
  dbig : h.objs.size ≤ dx
  dne : dx ≠ x
  ns : h'.Ns1 dx (fun y => if y = "code" then some v else none)
/-- a made Refused -/
structure OwnMade (h h' : Heap) (e C d : Addr) (v : Value) : Prop where
  keep : ∀ b o, h.get? b = some o → h'.get? b = some o
  new : h.objs.size ≤ e
  obj : ∃ oe vs, h'.get? e = some oe ∧ oe.cls = .ref C ∧ oe.dict = some d ∧ oe.data = .fields vs ∧ vs[1]? = some .none
  dbig : h.objs.size ≤ d
  dne : d ≠ e
  ns : h'.Ns1 d (fun y => if y = "code" then some v else none)
section
variable {prog : Program} {w : World} {A : Around} {E : Value → Shared → Prop} {R : Result → Shared → Prop} {s : Shared} {K : Frag} {mg : Str → Option Value} {C fI : Addr}
theorem ref_init (T : RefTxt K mg C fI) {x t0 : Addr} {v : Value} (X : K.In s.heap) (hlim : s.heap.NoLimit) (hx : s.heap.get? x = some (excO C t0)) (hnx : K.lookup x = none) (hroom : A.depth < recursionLimit)
    (hq : ∀ h' tk dx, InitEnd s.heap h' x C dx t0 v → R (.ok (.ret .none)) { s with heap := h', toks := tk }) :
    codeAny (model prog w) A (.call (.ref fI) ⟨[.ref x, v], []⟩) R s := by
  obtain ⟨oc, od, doc, pm, an, cdv, ct, osl, p1, p2, q1, q2, q3, q4, ho, hcd⟩ := T.fn
  obtain ⟨nm, q, N, bs, bm, sn, sub, ab, col, dd, k0, k1, k2, k3, k5, hC, hbm⟩ := T.cls
  have hcl : clsIn K C = some { name := nm, bases := bs, mro := .ref C :: bm, ns := N, qualname := q, hasDict := true, slotNames := sn, subclasses := sub, abstract := ab, collection := col, hasDel := false } := by unfold clsIn; rw [hC] <;> rfl
  refine Att.call_fn (binds := [("self", .ref x), ("code", v)]) X hlim ho hcd hroom (BindsTo.of_eq (by first | rfl | with_unfolding_all rfl)) (by first | rfl | decide | with_unfolding_all rfl) (fun s₁ IC => ?_) rfl rfl rfl
  obtain ⟨h₁, tk₁, rfl⟩ := IC.toInCall.same
  have k : ∀ b o, s.heap.get? b = some o → h₁.get? b = some o := IC.toInCall.keep
  have hn := IC.toInCall.ns
  have hxL : s.heap.objs.size ≠ x := Nat.ne_of_gt (Heap.lt_size hx)
  have X₁ : K.In h₁ := X.keeps k
  have hx₁ := k _ _ hx
  -- self.by = by
  show wpAny _ _ (execs _ _) _ _ _
  refine wpAny_execs_cons (plainObj_wpAny_Assign_Attribute ?_)
  refine ldC (v := v) hn (by first | rfl | with_unfolding_all rfl | kernel_rfl) (ldC (v := .ref x) hn (by first | rfl | with_unfolding_all rfl | kernel_rfl) ?_)
  refine set_plain X₁ (ox := excO C t0) (od := none) ⟨hx₁, rfl, rfl, trivial⟩ T.sa ?_
  refine exc_osa X₁ hx₁ hcl (show refsVE (.ref C :: bm) = true from hbm) rfl T.noN (fun h₃ tk₃ dx k₃ dn dne hx₃ hn₃ => ?_)
  show wpAny _ _ (execs _ _) _ _ _
  have z : s.heap.objs.size < h₁.objs.size := hn.lt
  exact wpAny_execs_nil (hq h₃ tk₃ dx ⟨fun b o hb e => k₃ b o hb (k b o e), hx₃, Nat.le_of_lt (Nat.lt_of_lt_of_le z dn), dne, hn₃⟩)
theorem ref_made (T : RefTxt K mg C fI) {v : Value} (X : K.In s.heap) (hlim : s.heap.NoLimit) (hroom : A.depth + 1 < recursionLimit)
    (hq : ∀ h' tk e d, OwnMade s.heap h' e C d v → R (.ok (.ret (.ref e))) { s with heap := h', toks := tk }) :
    codeAny (model prog w) A (.call (.ref C) ⟨[v], []⟩) R s := by
  obtain ⟨nm, q, N, bs, bm, sn, sub, ab, col, dd, k0, k1, k2, k3, k5, hC, hbm⟩ := T.cls
  obtain ⟨hp, g, dr, tk, os⟩ := s
  have k : ∀ b o, hp.get? b = some o → ((hp.push (kdv_tup [v])).push (excO C hp.objs.size)).get? b = some o := fun b o e => Heap.get?_push_of_some _ (Heap.get?_push_of_some _ e)
  have hget : ((hp.push (kdv_tup [v])).push (excO C hp.objs.size)).get? (hp.objs.size + 1) = some (excO C hp.objs.size) := by heap_get
  have hnx : K.lookup (hp.objs.size + 1) = none := by
    cases e : K.lookup (hp.objs.size + 1) with
    | none => rfl
    | some o =>
      have z : hp.get? (hp.objs.size + 1) = some o := X _ _ e
      exact absurd (Nat.lt_of_succ_lt (Heap.lt_size z)) (Nat.lt_irrefl _)
  refine call_own F.excBase_ValueError (fun X => refsVE_contains X bm hbm) (X _ _ hC) (looks_findIn X T.iC) (fun self => bind_fn X self T.tC) (one_size v) ?_
  refine ref_init (s := ⟨(hp.push (kdv_tup [v])).push (excO C hp.objs.size), g, dr, tk, os⟩) T (X.keeps k) (hlim.keeps k) hget hnx ?_ fun h' tk' dx ⟨k', hx, dn, dne, hns⟩ => ?_
  · show A.depth + 1 < recursionLimit
    exact hroom
  · have old : ∀ b o, hp.get? b = some o → h'.get? b = some o := fun b o e => k' b o (Nat.ne_of_lt (Nat.lt_succ_of_lt (Heap.lt_size e))) (k b o e)
    have z : hp.objs.size + 1 + 1 ≤ dx := by
      first
        | (simpa only [Heap.size_push] using dn)
        | exact dn
        | (have q := dn; rw [Heap.size_push, Heap.size_push] at q; exact q)
    exact ⟨rfl, hq h' tk' (hp.objs.size + 1) dx ⟨old, Nat.le_succ _, ⟨_, _, hx, rfl, rfl, rfl, rfl⟩, Nat.le_trans (Nat.le_trans (Nat.le_succ _) (Nat.le_succ _)) z, dne, hns⟩⟩
end
end RefX
end PySem
namespace L2
open PySem PySem.Spec PyProof.Rows
theorem relO_ref {v : V} {v' : Value} (r : RelV v v') (f : Str) : RelO (List.lookup f [(("code" : Str), v)]) (if f = "code" then some v' else none) := by
  by_cases hw : f = "code"
  · subst hw
    rw [if_pos rfl]
    have q : List.lookup ("code" : Str) [(("code" : Str), v)] = some v := by simp [List.lookup]
    rw [q]
    exact r
  · rw [if_neg hw]
    have qw : (f == ("code" : Str)) = false := by simpa using hw
    have q2 : List.lookup f [(("code" : Str), v)] = none := by simp [List.lookup, qw]
    rw [q2]
    trivial
section
variable {X : Cx} {C fI : Addr}
/-- Refused(e) -/
def tMkRef (C : Addr) (ta : TA) : St → Hp → XK → Prop := fun σ H Q => ta σ H fun vs H1 => ∃ v, vs = [v] ∧ ∀ d, H1 d = none → Q (.ref C) (some d) (upd H1 d (.xd [(("code" : Str), v)]))
theorem pmk_ref {a : Expr} {ta : TA} {p pos : Pos} {k : Nat} (T : PySem.RefX.RefTxt X.K X.mg C fI) (hr : Room k X.A) (ha : PA X [a] ta) (hg : Gl X "Refused" := by rfl)
    (he : starEach (a :: []) X.env = (false, eval a X.env) :: starEach [] X.env := by rfl) (hpl : (backTo pos (starEach [] X.env)).any (·.1) = false := by rfl) :
    PMk X (.Call (.Name "Refused" p) [a] [] pos) (tMkRef C ta) := by
  intro pins s σ H Q I h
  refine wpAny_Call_Name_kw (ld_glob I hg T.gC ?_)
  refine PySem.W.callWith_K (h₀ := X.base) I.ok.mod.kin T.kC (thn (ha.run pos pins s σ H _ I h) fun us s1 hh => ?_) he hpl
  obtain ⟨vs, H1, I1, r1, v, ev, q1⟩ := hh
  subst ev
  refine ⟨I1.kIn, ?_⟩
  cases r1 with
  | cons rv rn =>
    rename_i v' us'
    cases rn
    show wpAny _ _ (call (.ref C) [v']) _ _ _
    have hlim := I1.nolimit
    obtain ⟨hp, g, dr, tk, os⟩ := s1
    refine wpAny_call (PySem.RefX.ref_made T I1.kIn hlim (by have := hr.dp; omega) fun h' tk' e d M => ?_)
    show MkP X pins σ Q (.ref e) ⟨h', g, dr, tk', os⟩
    obtain ⟨oe, fv, hoe, hc, hd, hdat, h1⟩ := M.obj
    have hns := M.ns
    obtain ⟨G', g1, g2⟩ := restrict h' fun b => decide (b ≠ e)
    have gk : ∀ b, b ≠ e → G'.get? b = h'.get? b := fun b hb => g1 b (decide_eq_true hb)
    have ge : G'.get? e = none := g2 e (by simp)
    have old : ∀ b o, hp.get? b = some o → G'.get? b = some o := fun b o q => (gk b (Nat.ne_of_lt (Nat.lt_of_lt_of_le (Heap.lt_size q) M.new))).trans (M.keep b o q)
    have ob : ObjOk X.prog X.w (upd H1 d (.xd [(("code" : Str), v)])) G' d (.xd [(("code" : Str), v)]) :=
      ⟨_, hns.at (fun o q => (gk d M.dne).trans q), fun f => relO_ref rv f⟩
    have J : Inv X pins σ (upd H1 d (.xd [(("code" : Str), v)])) ⟨G', g, dr, tk', os⟩ := I1.laid (t' := tk') old M.dbig ob
    refine ⟨e, oe, fv, ⟨G', g, dr, tk', os⟩, _, .ref C, some d, rfl, J, fun b o q => ?_, ge, hoe, ⟨hc, hd⟩, hdat, h1, ?_, rfl, I1.bare, raises_own T.exC T.tyC, q1 d (I1.hok.fresh M.dbig)⟩
    · by_cases hb : b = e
      · have q' : G'.get? b = some o := q
        rw [hb, ge] at q'; cases q'
      · exact (gk b hb).symm.trans q
    · rw [upd_ne (Ne.symm M.dne)]
      exact I1.hok.fresh M.new
/-- raise Refused(e) -/
def tRaiseRef (C : Addr) (W : WX) (ta : TA) : TS := fun _ σ H => tMkRef C ta σ H fun cls d H' => W cls d σ H'
theorem ps_raiseRef {a : Expr} {ta : TA} {W : WX} {p pos pos2 : Pos} {k : Nat} (hc : X.calm = true) (T : PySem.RefX.RefTxt X.K X.mg C fI) (hr : Room k X.A) (tk : Takes X W) (ha : PA X [a] ta) (hg : Gl X "Refused" := by rfl)
    (he : starEach (a :: []) X.env = (false, eval a X.env) :: starEach [] X.env := by rfl) (hpl : (backTo pos (starEach [] X.env)).any (·.1) = false := by rfl) :
    PS X (.Raise (some (.Call (.Name "Refused" p) [a] [] pos)) none pos2) (tRaiseRef C W ta) := ps_raise hc tk (pmk_ref T hr ha hg he hpl)
/-- refusal.code, the exception that the suite holds (at a; its class cls, its dict d) -/
def tByRef (C : Addr) (a : Addr) (cls : Value) (d : Option Addr) (te : TE) : TE := fun σ H Q => te σ H fun x H1 => x = .ref a ∧ cls = .ref C ∧ ∃ (dd : Addr) (v : V), d = some dd ∧ H1 dd = some (.xd [(("code" : Str), v)]) ∧ Q v H1
theorem pe_byRef {a : Addr} {oe : Obj} {cls : Value} {d : Option Addr} {pn : List (Addr × Obj)} {e : Expr} {te : TE} {pos : Pos} (T : PySem.RefX.RefTxt X.K X.mg C fI) (hz : Zc cls d oe) (hf : ∃ vs, oe.data = .fields vs) (he : PE (X.suite a ((a, oe) :: pn)) e te)
    (hb : attributeBase e "code" X.env (eval e X.env) = eval e X.env := by rfl) :
    PE (X.suite a ((a, oe) :: pn)) (.Attribute e "code" pos) (tByRef C a cls d te) := by
  refine ⟨fun pins s σ H Q I h => ?_⟩
  refine attr_of hb (thn (he.run pins s σ H _ I h) fun u s1 hh => ?_)
  obtain ⟨x, H1, I1, rx, ex, ec, dd, v, ed, ea, q⟩ := hh
  subst ex
  obtain rfl : u = Value.ref a := rx
  subst ec
  subst ed
  obtain ⟨ha, _⟩ := I1.pin (a, oe) (List.mem_append_left _ List.mem_cons_self)
  obtain ⟨vs, hd⟩ := hf
  have hx : ObjOk X.prog X.w H1 s1.heap dd (.xd [(("code" : Str), v)]) := I1.hok dd _ ea
  obtain ⟨mA, hns, hr⟩ := hx
  obtain ⟨od, ho, hl⟩ := lookIn_ns hns
  have l : List.lookup ("code" : Str) [(("code" : Str), v)] = some v := by simp [List.lookup]
  obtain ⟨u, hu, ru⟩ := RelO.some_of (v := v) (o := mA "code") (by rw [← l]; exact hr "code")
  have J : PySem.W.InstAt s1.heap a oe C (some od) := ⟨ha, hz.1, by unfold PySem.W.notCls; rw [hd] <;> rfl, by rw [hz.2]; exact ho⟩
  exact HandSPX.exc_get I1.kIn J T.ga T.gg T.exC (PySem.W.findObj_own T.hdC T.noN rfl (by rw [hl, hu])) (handed_of ru) ⟨v, H1, I1.tok _, ru, q⟩
end
end L2

namespace L2
open PySem PySem.Spec PyProof.Rows
/-- an if whose test is known -/
theorem if_true_of {c : Bool} {A B : Prop} (hc : c = true) (h : A) : if c = true then A else B := by
  rw [if_pos hc]
  exact h
theorem if_false_of {c : Bool} {A B : Prop} (hc : c = false) (h : B) : if c = true then A else B := by
  rw [hc, if_neg Bool.false_ne_true]
  exact h
end L2
namespace RugW
open PySem PySem.Spec PyProof.Rows L2
open PySem.W (Codec)
/-! ### words of this proof -/
/-- a module's constant that is a whole number -/
theorem pe_gint {X : Cx} {x : Str} {n : Int} {pos : Pos} (hg : Gl X x) (hm : ∃ t, X.mg x = some (.int n t)) (hd : (x == ("__debug__" : Str)) = false := by decide) : PE X (.Name x pos) (tC (.int n)) := by
  obtain ⟨t, e⟩ := hm
  exact pe_glob hg e ⟨t, rfl⟩ hd
/-- a def of the text, by its name, with its promise -/
structure Df (P : Program) (w : World) (K : PySem.W.Frag) (mg : Str → Option Value) (base : Heap) (CX : CXT) (k : Nat) (x : Str) (ps : List Str) (sp : Sp) : Prop where
  ex : ∃ (f : Addr) (fd : FuncData), mg x = some (.ref f) ∧ PySem.W.keepIn K (.ref f) = true ∧ Binds K fd ps [] ∧ FnOk P w K mg base CX k f fd ps sp
/-- a def of the text, as it stands behind the top -/
structure Fd (K : PySem.W.Frag) (mg : Str → Option Value) (x : Str) (st : Stmt) : Prop where
  ex : ∃ (f : Addr) (fd : FuncData), mg x = some (.ref f) ∧ Fun K x x st f fd
theorem Fd.mk' {K : PySem.W.Frag} {mg : Str → Option Value} {x : Str} {st : Stmt} {f : Addr} {fd : FuncData} (h1 : mg x = some (.ref f)) (h2 : Fun K x x st f fd) : Fd K mg x st := ⟨f, fd, h1, h2⟩
section
variable {X : Cx} {k : Nat} {x : Str} {ps : List Str} {sp : Sp} {p pos : Pos} {e : Expr} {es : List Expr} {t : TA}
/-- a call of a def that lets nothing out -/
theorem pe_df (D : Df X.prog X.w X.K X.mg X.base CX0 k x ps sp) (hr : Room k X.A) (hg : Gl X x) (ha : PA X (e :: es) t) (hdb : (x == ("__debug__" : Str)) = false := by decide)
    (he : starEach (e :: es) X.env = (false, eval e X.env) :: starEach es X.env := by rfl) (hpl : (backTo pos (starEach es X.env)).any (·.1) = false := by rfl) : PE X (.Call (.Name x p) (e :: es) [] pos) (tCallS sp (fun _ => E0) t) := by
  obtain ⟨f, fd, h1, h2, h3, h4⟩ := D.ex
  exact pe_callS h4 hr hg h1 h2 h3 (fun _ _ _ _ _ _ _ h => (h : False).elim) ha hdb he hpl
/-- a call of a def that may raise, its errors wished for at the slots as they stand -/
theorem pe_dfS {W : WX} (D : Df X.prog X.w X.K X.mg X.base (L2.CX X.prog X.w) k x ps sp) (hr : Room k X.A) (hg : Gl X x) (tk : Takes X W) (ha : PA X (e :: es) t) (hdb : (x == ("__debug__" : Str)) = false := by decide)
    (he : starEach (e :: es) X.env = (false, eval e X.env) :: starEach es X.env := by rfl) (hpl : (backTo pos (starEach es X.env)).any (·.1) = false := by rfl) : PE X (.Call (.Name x p) (e :: es) [] pos) (tCallS sp (WE W) t) := by
  obtain ⟨f, fd, h1, h2, h3, h4⟩ := D.ex
  exact pe_callS h4 hr hg h1 h2 h3 (fun σ => passAt tk σ) ha hdb he hpl
end
theorem iteD {p A B : Prop} [Decidable p] (h1 : p → A) (h2 : ¬ p → B) : if decide p = true then A else B := by
  by_cases h : p
  · rw [if_pos (decide_eq_true h)]
    exact h1 h
  · rw [if_neg (by rw [decide_eq_false h]; exact Bool.false_ne_true)]
    exact h2 h
theorem iteND {p A B : Prop} [Decidable p] (h1 : ¬ p → A) (h2 : p → B) : if (!decide p) = true then A else B := by
  by_cases h : p
  · rw [if_neg (by rw [decide_eq_true h]; exact Bool.false_ne_true)]
    exact h2 h
  · rw [if_pos (by rw [decide_eq_false h]; rfl)]
    exact h1 h
theorem iteB {b : Bool} {A B : Prop} (h1 : b = true → A) (h2 : b = false → B) : if b = true then A else B := by
  cases b with
  | true => exact iteT (h1 rfl)
  | false => exact iteF (h2 rfl)
/-! ### heaps -/
theorem same_upd {H : Hp} {p : Addr} {o : HO} (h : H p = none) : Same H (upd H p o) := fun b u e => by rw [upd_ne (ne_of_none e h)]; exact e
theorem Same.seqT {K : PySem.W.Frag} {H H' : Hp} {a : Addr} {xs : List V} (e : Same H H') (h : SqT K H a xs) : SqT K H' a xs := by
  rcases h with (h | ⟨o, h⟩) | h
  · exact .inl (.inl (e _ _ h))
  · exact .inl (.inr ⟨o, e _ _ h⟩)
  · exact .inr h
/-- an error of the class at C with code z leaves -/
def Rz (C : Addr) (z : Int) (H : Hp) (E : XK) : Prop := ∀ (H' : Hp) (d : Addr), Same H H' → H' d = some (.xd [(("code" : Str), .int z)]) → E (.ref C) (some d) H'
theorem Rz.same {C : Addr} {z : Int} {H H1 : Hp} {E : XK} (h : Rz C z H E) (s : Same H H1) : Rz C z H1 E := fun H' d s' e => h H' d (s.trans s') e
theorem Rz.new {C : Addr} {z : Int} {H : Hp} {E : XK} (h : Rz C z H E) : ∀ d : Addr, H d = none → E (.ref C) (some d) (upd H d (.xd [(("code" : Str), .int z)])) := fun _ hd => h _ _ (same_upd hd) upd_same
theorem take_more {α : Type} {l : List α} {i : Nat} {x : α} (h : l[i]? = some x) : l.take (i + 1) = l.take i ++ [x] := by
  rw [List.take_add_one, h]
  rfl
theorem get_map {α β : Type} {f : α → β} {l : List α} {i : Nat} {y : β} (h : (l.map f)[i]? = some y) : ∃ x, l[i]? = some x ∧ y = f x := by
  rw [List.getElem?_map] at h
  obtain ⟨x, h1, h2⟩ := Option.map_eq_some_iff.mp h
  exact ⟨x, h1, h2.symm⟩
/-! ### fields -/
theorem lk_here {k : Str} {v : V} {r : List (Str × V)} : List.lookup k ((k, v) :: r) = some v := by
  have e : (k == k) = true := beq_self_eq_true k
  simp only [List.lookup, e]
theorem lk_past {k g : Str} {v : V} {r : List (Str × V)} (h : (k == g) = false) : List.lookup k ((g, v) :: r) = List.lookup k r := by
  simp only [List.lookup, h]
theorem put_past {f g : Str} {v x : V} {r : List (Str × V)} (h : ¬ g = f) : putF f v ((g, x) :: r) = (g, x) :: putF f v r := if_neg h
/-- an error of the class at S is what «except S» names -/
theorem exm_self {K : PySem.W.Frag} {S : Addr} (h1 : PySem.W.subIn K (.ref S) (.type "BaseException") = some true) (h2 : PySem.W.isClsIn K S = true) (h3 : PySem.W.typeIn K (.ref S) = some (.type "type")) (h4 : PySem.W.subIn K (.ref S) (.ref S) = some true) :
    PySem.W.exmOne K (.ref S) (.ref S) = some true := by
  have e1 : (PySem.W.subIn K (.ref S) (.type "BaseException") == some true) = true := by rw [h1] <;> rfl
  have e2 : ((PySem.W.clsIn K S).isSome && PySem.W.typeIn K (.ref S) == some (.type "type")) = true := by
    have h2' : (PySem.W.clsIn K S).isSome = true := h2
    rw [h2', h3] <;> rfl
  show (if (PySem.W.subIn K (.ref S) (.type "BaseException") == some true) = true then (if ((PySem.W.clsIn K S).isSome && PySem.W.typeIn K (.ref S) == some (.type "type")) = true then PySem.W.subIn K (.ref S) (.ref S) else none) else none) = some true
  rw [if_pos e1, if_pos e2]
  exact h4
end RugW
namespace RugW
open PySem PySem.Spec PyProof.Rows L2 Evl
/-! ### what evaluates to what -/
/-- three whole numbers as a tuple's items -/
def tri (t : Int × Int × Int) : List V := [.int t.1, .int t.2.1, .int t.2.2]
/-- a new tuple of the promise's values -/
def RetU (xs : List V) (H : Hp) (Q : VK) : Prop := ∀ p H2, H p = none → Ex H H2 → H2 p = some (.tup xs) → Q (.ref p) H2
theorem RetU.go {xs ys : List V} {H H' H2 : Hp} {Q : VK} {p : Addr} (k : RetU xs H Q) (e : Ex H H') (hp : H' p = none) (e2 : Ex H' H2) (h : H2 p = some (.tup ys)) (q : ys = xs) : Q (.ref p) H2 := k p H2 (fresh_back e hp) (e.trans e2) (by rw [h, q])
theorem RetL.go' {xs ys : List V} {H H' H2 : Hp} {Q : VK} {p : Addr} (k : RetL xs H Q) (e : Ex H H') (hp : H' p = none) (e2 : Ex H' H2) (h : H2 p = some (.lst ys)) (q : ys = xs) : Q (.ref p) H2 := k p H2 (fresh_back e hp) (e.trans e2) (by rw [h, q])
def SpU (sp : Sp) (vs : List V) (H : Hp) (xs : List V) : Prop := ∀ H1, Ex H H1 → ∀ Q : VK, (∀ p H2, H1 p = none → Ex H1 H2 → H2 p = some (.tup xs) → Q (.ref p) H2) → ∀ E : XK, sp vs H1 Q E
section
variable {K : PySem.W.Frag} {σ : L2.St} {H : Hp} {ta tb te : TE} {t : TA} {x y v : V}
theorem ev_fld {a B dx : Addr} {fs : List (Str × V)} {f : Str} (h : Ev te σ H (.ref a)) (hb : H a = some (.ins B dx fs)) (cl : Cls K B) (na : NoAttr K B f) (lk : fs.lookup f = some v) : Ev (tFld K te f) σ H v := fun H1 e _ q =>
  h H1 e _ fun H2 e2 => ⟨a, B, dx, fs, v, rfl, e2 _ _ (e _ _ hb), cl, na, lk, q H2 e2⟩
theorem ev_cmp {p : Int → Int → Bool} {i j : Int} (ha : Ev ta σ H (.int i)) (hb : Ev tb σ H (.int j)) : Ev (tCmp p ta tb) σ H (.bl (p i j)) := fun H1 e _ q =>
  ha H1 e _ fun H2 e2 => hb H2 (e.trans e2) _ fun H3 e3 => ⟨i, j, rfl, rfl, q H3 (e2.trans e3)⟩
theorem ev_min2 {i j : Int} (h : EvA t σ H [.int i, .int j]) : Ev (tCB (fun xs H Q => ∃ i j, xs = [.int i, .int j] ∧ Q (.int (if j < i then j else i)) H) t) σ H (.int (min i j)) := fun H1 e _ q =>
  h H1 e _ fun H2 e2 => ⟨i, j, rfl, by
    have z : (if j < i then j else i) = min i j := by omega
    rw [z]
    exact q H2 e2⟩
theorem ev_max2' {i j : Int} (h : EvA t σ H [.int i, .int j]) : Ev (tCB (fun xs H Q => ∃ i j, xs = [.int i, .int j] ∧ Q (.int (if j > i then j else i)) H) t) σ H (.int (max i j)) := fun H1 e _ q =>
  h H1 e _ fun H2 e2 => ⟨i, j, rfl, by
    have z : (if j > i then j else i) = max i j := by omega
    rw [z]
    exact q H2 e2⟩
/-- a call of a def that hands back a value, a new list, a new tuple -/
theorem ev_df {sp : Sp} {vs : List V} {E : L2.St → XK} (h : EvA t σ H vs) (hs : ∀ H1, Ex H H1 → ∀ (Q : VK) (E : XK), RetV v H1 Q → sp vs H1 Q E) : Ev (tCallS sp E t) σ H v := fun H1 e _ q =>
  h H1 e _ fun H2 e2 => hs H2 (e.trans e2) _ _ fun H3 e3 => q H3 (e2.trans e3)
theorem eu_df {sp : Sp} {vs xs : List V} {E : L2.St → XK} (h : EvA t σ H vs) (hs : ∀ H1, Ex H H1 → ∀ (Q : VK) (E : XK), RetU xs H1 Q → sp vs H1 Q E) : EvU (tCallS sp E t) σ H xs := fun H1 e _ q =>
  h H1 e _ fun H2 e2 => hs H2 (e.trans e2) _ _ fun p H3 hp e3 h3 => q p H3 (fresh_back e2 hp) (e2.trans e3) h3
theorem el_df {sp : Sp} {vs xs : List V} {E : L2.St → XK} (h : EvA t σ H vs) (hs : ∀ H1, Ex H H1 → ∀ (Q : VK) (E : XK), RetL xs H1 Q → sp vs H1 Q E) : EvL (tCallS sp E t) σ H xs := fun H1 e _ q =>
  h H1 e _ fun H2 e2 => hs H2 (e.trans e2) _ _ fun p H3 hp e3 h3 => q p H3 (fresh_back e2 hp) (e2.trans e3) h3
/-- a method that hands back a new tuple -/
theorem eu_meth {C a dx : Addr} {fs : List (Str × V)} {m : Str} {sp : Sp} {E : XK} {vs xs : List V} (ho : Ev te σ H (.ref a)) (hb : H a = some (.ins C dx fs)) (lk : fs.lookup m = none) (h : EvA t σ H vs)
    (hs : ∀ H1, Ex H H1 → ∀ (Q : VK) (E : XK), RetU xs H1 Q → sp (.ref a :: vs) H1 Q E) : EvU (tMeth C m sp [] E te t) σ H xs := fun H1 e _ q =>
  ho H1 e _ fun H2 e2 => ⟨a, dx, fs, rfl, e2 _ _ (e _ _ hb), lk, h H2 (e.trans e2) _ fun H3 e3 => by
    have z := hs H3 ((e.trans e2).trans e3) _ E fun p H4 hp e4 h4 => q p H4 (fresh_back (e2.trans e3) hp) ((e2.trans e3).trans e4) h4
    rw [List.append_nil]
    exact z⟩
/-- a chain of two comparisons -/
theorem ev_chain {r r' : R2} {a b : Bool} {z w : V} (tc : TE) (ha : Ev ta σ H x) (hb : Ev tb σ H y) (hr : RV r x y H (.bl a)) (hc : Ev tc σ H z) (hr' : a = true → RV r' y z H (.bl b)) (hw : w = .bl (a && b)) : Ev (tChain r r' ta tb tc) σ H w := fun H1 e Q q =>
  ha H1 e _ fun H2 e2 => hb H2 (e.trans e2) _ fun H3 e3 => hr H3 ((e.trans e2).trans e3) _ fun H4 e4 => ⟨a, rfl, by
    subst hw
    cases a with
    | true => exact hc H4 (((e.trans e2).trans e3).trans e4) _ fun H5 e5 => hr' rfl H5 ((((e.trans e2).trans e3).trans e4).trans e5) _ fun H6 e6 => q H6 ((((e2.trans e3).trans e4).trans e5).trans e6)
    | false => exact q H4 ((e2.trans e3).trans e4)⟩
end
/-- a range with a step -/
theorem rgC_of {a b c : Int} (ha : 0 ≤ a) (ha2 : a ≤ 1000000) (hb : 0 ≤ b) (hb2 : b ≤ 1000000) (hc : 1 ≤ c) (hc2 : c ≤ 1000000) : RgC a b c (if a < b then (b - a - 1) / c + 1 else 0).toNat := by
  have e : Builtin.Range.rangeSize a b c = if a < b then (b - a - 1) / c + 1 else 0 := by
    unfold Builtin.Range.rangeSize
    rw [if_pos (by omega)]
  have hn : 0 ≤ (if a < b then (b - a - 1) / c + 1 else 0) ∧ (if a < b then (b - a - 1) / c + 1 else 0) ≤ 2000000 := by
    by_cases q : a < b
    · rw [if_pos q]
      have h1 : 0 ≤ (b - a - 1) / c := Int.ediv_nonneg (by omega) (by omega)
      have h2 : (b - a - 1) / c ≤ b - a - 1 := Int.ediv_le_self _ (by omega)
      omega
    · rw [if_neg q]
      omega
  refine ⟨by omega, by omega, ?_, by rw [e]; omega⟩
  unfold Builtin.Range.small
  rw [e]
  generalize (if a < b then (b - a - 1) / c + 1 else 0) = n at hn
  simp only [Builtin.Range.rangeFitsLong, Bool.and_eq_true, Bool.or_eq_true, decide_eq_true_eq, beq_iff_eq, if_pos (show c > 0 by omega)]
  omega
/-- a comprehension over a range with a step -/
theorem lc_step {lo c : Int} {n : Nat} {g : TG} {tt : TT} {te : TE} {vs : List Nat} {σ : L2.St} {H1 : Hp} {D : Addr} {Qd : Hp → Prop} (Pv : Nat → Hp → Prop) (start : Pv 0 (upd H1 D (.lst [])))
    (turn : ∀ (i : Nat) H, i < n → Pv i H → g (.int (lo + (i : Nat) * c)) (wipe σ vs) H fun σ2 H2 => wipe σ2 vs = wipe σ vs ∧ tt σ2 H2 fun b H3 =>
      if b = true then te σ2 H3 fun y H4 => ∃ acc, H4 D = some (.lst acc) ∧ acc.length < sizeLine ∧ Pv (i + 1) (upd H4 D (.lst (acc ++ [y]))) else Pv (i + 1) H3) (done : ∀ H, Pv n H → Qd H) :
    ∃ W : Nat → Nat → Hp → Prop, (∃ m, W 0 m (upd H1 D (.lst []))) ∧ ∀ i m H, W i m H →
      ((Itc lo c n).stop i H ∧ Qd H) ∨ ((Itc lo c n).go i H ∧ ∃ Nx : Hp → Prop, (∀ H', Nx H' → ∃ m', m' < m ∧ W (i + 1) m' H') ∧ ∀ x H', (Itc lo c n).yld i H x H' → g x (wipe σ vs) H' fun σ2 H2 => wipe σ2 vs = wipe σ vs ∧ tt σ2 H2 fun b H3 =>
        if b = true then te σ2 H3 fun y H4 => ∃ acc, H4 D = some (.lst acc) ∧ acc.length < sizeLine ∧ Nx (upd H4 D (.lst (acc ++ [y]))) else Nx H3) := by
  refine ⟨fun i m H => i ≤ n ∧ m + i = n ∧ Pv i H, ⟨n, Nat.zero_le _, rfl, start⟩, fun i m H w => ?_⟩
  obtain ⟨w1, w2, w3⟩ := w
  rcases Nat.lt_or_ge i n with lt | ge
  · refine Or.inr ⟨lt, Pv (i + 1), fun H' p' => ⟨m - 1, by omega, lt, by omega, p'⟩, fun x H' y => ?_⟩
    obtain ⟨y1, y2⟩ := y
    rw [y1, y2]
    exact turn i H lt w3
  · have z : i = n := Nat.le_antisymm w1 ge
    rw [z] at w3
    exact Or.inl ⟨ge, done H w3⟩
/-- tuples of three whole numbers each, at their places -/
def TupsAt (H : Hp) (ps : List Addr) (bs : List (Int × Int × Int)) : Prop := ps.length = bs.length ∧ ∀ (i : Nat) (p : Addr) (b : Int × Int × Int), ps[i]? = some p → bs[i]? = some b → H p = some (.tup (tri b))
def RingsAt (H : Hp) (a : Addr) (bs : List (Int × Int × Int)) : Prop := ∃ ps : List Addr, H a = some (.lst (ps.map V.ref)) ∧ TupsAt H ps bs
theorem TupsAt.ex {H H' : Hp} {ps : List Addr} {bs : List (Int × Int × Int)} (h : TupsAt H ps bs) (e : Ex H H') : TupsAt H' ps bs := ⟨h.1, fun i p b h1 h2 => e _ _ (h.2 i p b h1 h2)⟩
theorem RingsAt.ex {H H' : Hp} {a : Addr} {bs : List (Int × Int × Int)} (h : RingsAt H a bs) (e : Ex H H') : RingsAt H' a bs := let ⟨ps, h1, h2⟩ := h; ⟨ps, e _ _ h1, h2.ex e⟩
theorem TupsAt.snoc {H : Hp} {ps : List Addr} {bs : List (Int × Int × Int)} {p : Addr} {b : Int × Int × Int} (h : TupsAt H ps bs) (hp : H p = some (.tup (tri b))) : TupsAt H (ps ++ [p]) (bs ++ [b]) := by
  refine ⟨by rw [List.length_append, List.length_append, h.1]; rfl, fun i q c h1 h2 => ?_⟩
  rcases Nat.lt_or_ge i ps.length with lt | ge
  · rw [List.getElem?_append_left lt] at h1
    rw [List.getElem?_append_left (by rw [← h.1]; exact lt)] at h2
    exact h.2 i q c h1 h2
  · rw [List.getElem?_append_right ge] at h1
    rw [List.getElem?_append_right (by rw [← h.1]; exact ge)] at h2
    have z : i - ps.length = 0 := by
      have := (List.getElem?_eq_some_iff.mp h1).1
      simp only [List.length_cons, List.length_nil] at this
      omega
    rw [z] at h1
    rw [show i - bs.length = 0 by rw [← h.1]; exact z] at h2
    have h1 : p = q := Option.some.inj h1
    have h2 : b = c := Option.some.inj h2
    rw [← h1, ← h2]
    exact hp
end RugW
namespace RugW
open PySem PySem.Spec PyProof.Rows L2 Evl
open PySem.W (Codec)
def top (i : Nat) : Stmt := PySem.Challenge.pw_rugborders_s05_found.main.body.getD i (.Pass ⟨0, 0, 0, 0⟩)
abbrev s_binit : Stmt := inClass (top 20) 0
abbrev s_bstrip : Stmt := inClass (top 20) 1
abbrev s_is_colour : Stmt := top 7
abbrev s_rows_of : Stmt := top 8
abbrev s_is_right : Stmt := top 9
abbrev s_read_chart : Stmt := top 10
abbrev s_chart_text : Stmt := top 11
abbrev s_look_length : Stmt := top 12
abbrev s_fits_along : Stmt := top 21
abbrev s_fits_round : Stmt := top 22
abbrev s_corner_knot : Stmt := top 23
abbrev s_set_knot : Stmt := top 24
abbrev s_met_knot : Stmt := top 25
abbrev s_run_knot : Stmt := top 26
abbrev s_is_field : Stmt := top 27
abbrev s_knot_of : Stmt := top 28
abbrev s_look_kind : Stmt := top 32
abbrev s_look_depth : Stmt := top 33
abbrev s_look_within : Stmt := top 34
abbrev s_colours_told : Stmt := top 36
abbrev s_chart_told : Stmt := top 37
abbrev s_longest : Stmt := top 38
abbrev s_found_strip : Stmt := top 39
abbrev s_counted : Stmt := top 41
abbrev s_rug_of : Stmt := top 42
abbrev s_found : Stmt := top 43
/-- what the top has written -/
structure Txt (K : PySem.W.Frag) (mg : Str → Option Value) (C fI B fB fS : Addr) : Prop where
  ref : PySem.RefX.RefTxt K mg C fI
  gB : mg "Border" = some (.ref B)
  cl : Cls K B
  mkB : Mk K B fB
  f_init : ∃ fd, Fun K "__init__" "Border.__init__" s_binit fB fd
  mS : Meth K B "strip" fS
  f_strip : ∃ fd, Fun K "strip" "Border.strip" s_bstrip fS fd
  n_kind : NoAttr K B "kind"
  n_length : NoAttr K B "length"
  n_depth : NoAttr K B "depth"
  n_wide : NoAttr K B "wide"
  n_high : NoAttr K B "high"
  n_whole_wide : NoAttr K B "whole_wide"
  n_whole_high : NoAttr K B "whole_high"
  g_LINE_END : ∃ t, mg "LINE_END" = some (.int 10 t)
  g_FIRST_COLOUR : ∃ t, mg "FIRST_COLOUR" = some (.int 97 t)
  g_MOST_SIDE : ∃ t, mg "MOST_SIDE" = some (.int 512 t)
  g_MOST_KNOTS : ∃ t, mg "MOST_KNOTS" = some (.int 65536 t)
  g_MOST_BYTES : ∃ t, mg "MOST_BYTES" = some (.int 66048 t)
  g_SET : ∃ t, mg "SET" = some (.int 0 t)
  g_MET : ∃ t, mg "MET" = some (.int 1 t)
  g_RUN : ∃ t, mg "RUN" = some (.int 2 t)
  g_OF_FIELD : ∃ t, mg "OF_FIELD" = some (.int 0 t)
  g_OF_STRIP : ∃ t, mg "OF_STRIP" = some (.int 1 t)
  g_OF_CORNER : ∃ t, mg "OF_CORNER" = some (.int 2 t)
  g_MOST_KIND : ∃ t, mg "MOST_KIND" = some (.int 2 t)
  g_MOST_DEPTH : ∃ t, mg "MOST_DEPTH" = some (.int 128 t)
  b_all : mg "all" = none
  b_len : mg "len" = none
  b_max : mg "max" = none
  b_min : mg "min" = none
  b_range : mg "range" = none
  d_is_colour : Fd K mg "is_colour" s_is_colour
  d_rows_of : Fd K mg "rows_of" s_rows_of
  d_is_right : Fd K mg "is_right" s_is_right
  d_read_chart : Fd K mg "read_chart" s_read_chart
  d_chart_text : Fd K mg "chart_text" s_chart_text
  d_look_length : Fd K mg "look_length" s_look_length
  d_fits_along : Fd K mg "fits_along" s_fits_along
  d_fits_round : Fd K mg "fits_round" s_fits_round
  d_corner_knot : Fd K mg "corner_knot" s_corner_knot
  d_set_knot : Fd K mg "set_knot" s_set_knot
  d_met_knot : Fd K mg "met_knot" s_met_knot
  d_run_knot : Fd K mg "run_knot" s_run_knot
  d_is_field : Fd K mg "is_field" s_is_field
  d_knot_of : Fd K mg "knot_of" s_knot_of
  d_look_kind : Fd K mg "look_kind" s_look_kind
  d_look_depth : Fd K mg "look_depth" s_look_depth
  d_look_within : Fd K mg "look_within" s_look_within
  d_colours_told : Fd K mg "colours_told" s_colours_told
  d_chart_told : Fd K mg "chart_told" s_chart_told
  d_longest : Fd K mg "longest" s_longest
  d_found_strip : Fd K mg "found_strip" s_found_strip
  d_counted : Fd K mg "counted" s_counted
  d_rug_of : Fd K mg "rug_of" s_rug_of
  d_found : Fd K mg "found" s_found
/-! ### the class Border -/
def bF (kind L h W Hh : Int) : List (Str × V) := [("kind", .int kind), ("length", .int L), ("depth", .int h), ("wide", .int W), ("high", .int Hh), ("whole_wide", .int (W + 2 * h)), ("whole_high", .int (Hh + 2 * h))]
def BorderAt (B : Addr) (H : Hp) (a : Addr) (kind L h W Hh : Int) : Prop := ∃ dx, H a = some (.ins B dx (bF kind L h W Hh))
theorem BorderAt.same {B : Addr} {H H' : Hp} {a : Addr} {kind L h W Hh : Int} (s : Same H H') (b : BorderAt B H a kind L h W Hh) : BorderAt B H' a kind L h W Hh := let ⟨dx, e⟩ := b; ⟨dx, s _ _ e⟩
section
variable {kind L h W Hh : Int}
theorem bF_kind : (bF kind L h W Hh).lookup ("kind" : Str) = some (.int kind) := lk_here
theorem bF_length : (bF kind L h W Hh).lookup ("length" : Str) = some (.int L) := (lk_past (by decide +kernel)).trans lk_here
theorem bF_depth : (bF kind L h W Hh).lookup ("depth" : Str) = some (.int h) := (lk_past (by decide +kernel)).trans ((lk_past (by decide +kernel)).trans lk_here)
theorem bF_wide : (bF kind L h W Hh).lookup ("wide" : Str) = some (.int W) := (lk_past (by decide +kernel)).trans ((lk_past (by decide +kernel)).trans ((lk_past (by decide +kernel)).trans lk_here))
theorem bF_high : (bF kind L h W Hh).lookup ("high" : Str) = some (.int Hh) := (lk_past (by decide +kernel)).trans ((lk_past (by decide +kernel)).trans ((lk_past (by decide +kernel)).trans ((lk_past (by decide +kernel)).trans lk_here)))
theorem bF_ww : (bF kind L h W Hh).lookup ("whole_wide" : Str) = some (.int (W + 2 * h)) := (lk_past (by decide +kernel)).trans ((lk_past (by decide +kernel)).trans ((lk_past (by decide +kernel)).trans ((lk_past (by decide +kernel)).trans ((lk_past (by decide +kernel)).trans lk_here))))
theorem bF_wh : (bF kind L h W Hh).lookup ("whole_high" : Str) = some (.int (Hh + 2 * h)) := (lk_past (by decide +kernel)).trans ((lk_past (by decide +kernel)).trans ((lk_past (by decide +kernel)).trans ((lk_past (by decide +kernel)).trans ((lk_past (by decide +kernel)).trans ((lk_past (by decide +kernel)).trans lk_here)))))
theorem bF_strip : (bF kind L h W Hh).lookup ("strip" : Str) = none := (lk_past (by decide +kernel)).trans ((lk_past (by decide +kernel)).trans ((lk_past (by decide +kernel)).trans ((lk_past (by decide +kernel)).trans ((lk_past (by decide +kernel)).trans ((lk_past (by decide +kernel)).trans ((lk_past (by decide +kernel)).trans rfl))))))
theorem bF_new : putF "whole_high" (.int (Hh + 2 * h)) (putF "whole_wide" (.int (W + 2 * h)) (putF "high" (.int Hh) (putF "wide" (.int W) (putF "depth" (.int h) (putF "length" (.int L) (putF "kind" (.int kind) [])))))) = bF kind L h W Hh := by
  have e1 : putF "kind" (.int kind) [] = [(("kind" : Str), V.int kind)] := rfl
  have e2 : putF "length" (.int L) [(("kind" : Str), V.int kind)] = [(("kind" : Str), V.int kind), (("length" : Str), V.int L)] := (put_past (by decide +kernel)).trans rfl
  have e3 : putF "depth" (.int h) [(("kind" : Str), V.int kind), (("length" : Str), V.int L)] = [(("kind" : Str), V.int kind), (("length" : Str), V.int L), (("depth" : Str), V.int h)] :=
    (put_past (by decide +kernel)).trans (congrArg _ ((put_past (by decide +kernel)).trans rfl))
  have e4 : putF "wide" (.int W) [(("kind" : Str), V.int kind), (("length" : Str), V.int L), (("depth" : Str), V.int h)] = [(("kind" : Str), V.int kind), (("length" : Str), V.int L), (("depth" : Str), V.int h), (("wide" : Str), V.int W)] :=
    (put_past (by decide +kernel)).trans (congrArg _ ((put_past (by decide +kernel)).trans (congrArg _ ((put_past (by decide +kernel)).trans rfl))))
  have e5 : putF "high" (.int Hh) [(("kind" : Str), V.int kind), (("length" : Str), V.int L), (("depth" : Str), V.int h), (("wide" : Str), V.int W)] =
      [(("kind" : Str), V.int kind), (("length" : Str), V.int L), (("depth" : Str), V.int h), (("wide" : Str), V.int W), (("high" : Str), V.int Hh)] :=
    (put_past (by decide +kernel)).trans (congrArg _ ((put_past (by decide +kernel)).trans (congrArg _ ((put_past (by decide +kernel)).trans (congrArg _ ((put_past (by decide +kernel)).trans rfl))))))
  have e6 : putF "whole_wide" (.int (W + 2 * h)) [(("kind" : Str), V.int kind), (("length" : Str), V.int L), (("depth" : Str), V.int h), (("wide" : Str), V.int W), (("high" : Str), V.int Hh)] =
      [(("kind" : Str), V.int kind), (("length" : Str), V.int L), (("depth" : Str), V.int h), (("wide" : Str), V.int W), (("high" : Str), V.int Hh), (("whole_wide" : Str), V.int (W + 2 * h))] :=
    (put_past (by decide +kernel)).trans (congrArg _ ((put_past (by decide +kernel)).trans (congrArg _ ((put_past (by decide +kernel)).trans (congrArg _ ((put_past (by decide +kernel)).trans (congrArg _ ((put_past (by decide +kernel)).trans rfl))))))))
  have e7 : putF "whole_high" (.int (Hh + 2 * h)) [(("kind" : Str), V.int kind), (("length" : Str), V.int L), (("depth" : Str), V.int h), (("wide" : Str), V.int W), (("high" : Str), V.int Hh), (("whole_wide" : Str), V.int (W + 2 * h))] = bF kind L h W Hh :=
    (put_past (by decide +kernel)).trans (congrArg _ ((put_past (by decide +kernel)).trans (congrArg _ ((put_past (by decide +kernel)).trans (congrArg _ ((put_past (by decide +kernel)).trans (congrArg _ ((put_past (by decide +kernel)).trans (congrArg _ ((put_past (by decide +kernel)).trans rfl))))))))))
  rw [e1, e2, e3, e4, e5, e6, e7]
end
def spBinit (B : Addr) : Sp := fun vs H Q _ => ∃ (p dx : Addr) (kind L h W Hh : Int), vs = [.ref p, .int kind, .int L, .int h, .int W, .int Hh] ∧ H p = some (.ins B dx []) ∧
  ∀ H' : Hp, BorderAt B H' p kind L h W Hh → (∀ b o, H b = some o → b ≠ p → H' b = some o) → Q .non H'
theorem sc_binit : FnScope ["self", "kind", "length", "depth", "wide", "high"] ["self", "kind", "length", "depth", "wide", "high"] (defScope s_binit) := ⟨rfl, rfl, rfl, by decide +kernel, rfl, by decide +kernel, by decide +kernel⟩
section
variable {P : Program} {w : World} {K : PySem.W.Frag} {mg : Str → Option Value} {base : Heap} {C fI B fB fS : Addr}
theorem ok_binit (T : Txt K mg C fI B fB fS) : ∃ fd, Binds K fd ["self", "kind", "length", "depth", "wide", "high"] [] ∧ FnOk P w K mg base CX0 1 fB fd ["self", "kind", "length", "depth", "wide", "high"] (spBinit B) := by
  obtain ⟨fd, F⟩ := T.f_init
  refine ⟨fd, F.binds fun _ _ _ _ _ _ us hl => match us, hl with | [_, _, _, _, _, _], _ => rfl, F.ok sc_binit (fun vs H Q E h => ?_) (fun cdv A outer s H vs Q E hr h => ⟨_,
    pss_cons (ps_fld (pv 0) (pv 1) rfl) (pss_cons (ps_fld (pv 0) (pv 2) rfl) (pss_cons (ps_fld (pv 0) (pv 3) rfl) (pss_cons (ps_fld (pv 0) (pv 4) rfl) (pss_cons (ps_fld (pv 0) (pv 5) rfl)
      (pss_cons (ps_fld (pv 0) (pe_op op_add (pv 4) (pe_op op_mul pe_int (pv 3))) rfl) (pss_one (ps_fld (pv 0) (pe_op op_add (pv 5) (pe_op op_mul pe_int (pv 3))) rfl))))))), ?_⟩)⟩
  · obtain ⟨p, dx, kind, L, h, W, Hh, rfl, _⟩ := h
    rfl
  · obtain ⟨p, dx, kind, L, h, W, Hh, rfl, hp, q⟩ := h
    refine ⟨_, rfl, _, rfl, p, B, dx, [], rfl, hp, T.cl, T.n_kind, (by show 0 < 1000; decide), ?_⟩
    refine ⟨_, rfl, _, rfl, p, B, dx, _, rfl, upd_same, T.cl, T.n_length, (by show 1 < 1000; decide), ?_⟩
    refine ⟨_, rfl, _, rfl, p, B, dx, _, rfl, upd_same, T.cl, T.n_depth, (by show 2 < 1000; decide), ?_⟩
    refine ⟨_, rfl, _, rfl, p, B, dx, _, rfl, upd_same, T.cl, T.n_wide, (by show 3 < 1000; decide), ?_⟩
    refine ⟨_, rfl, _, rfl, p, B, dx, _, rfl, upd_same, T.cl, T.n_high, (by show 4 < 1000; decide), ?_⟩
    refine ⟨_, rfl, _, rfl, _, _, rfl, rfl, .inl ⟨by decide, by decide⟩, _, _, rfl, rfl, _, rfl, p, B, dx, _, rfl, upd_same, T.cl, T.n_whole_wide, (by show 5 < 1000; decide), ?_⟩
    refine ⟨_, rfl, _, rfl, _, _, rfl, rfl, .inl ⟨by decide, by decide⟩, _, _, rfl, rfl, _, rfl, p, B, dx, _, rfl, upd_same, T.cl, T.n_whole_high, (by show 6 < 1000; decide), ?_⟩
    refine q _ ⟨dx, Eq.trans upd_same (congrArg (fun q => some (HO.ins B dx q)) bF_new)⟩ fun b o e hb => ?_
    rw [upd_ne hb, upd_ne hb, upd_ne hb, upd_ne hb, upd_ne hb, upd_ne hb, upd_ne hb]
    exact e
end
/-! ### fits_along, fits_round -/
def spFitsAlong : Sp := fun vs H Q _ => ∃ (kind L h side : Int), vs = [.int kind, .int L, .int h, .int side] ∧ 1 ≤ L ∧ Q (.bl (Rug.fitsAlong kind L h side)) H
theorem sc_fits_along : FnScope ["kind", "length", "depth", "side"] ["kind", "length", "depth", "side"] (defScope s_fits_along) := ⟨rfl, rfl, rfl, by decide +kernel, rfl, by decide +kernel, by decide +kernel⟩
section
variable {P : Program} {w : World} {K : PySem.W.Frag} {mg : Str → Option Value} {base : Heap} {C fI B fB fS : Addr}
theorem ok_fits_along (T : Txt K mg C fI B fB fS) : Df P w K mg base CX0 1 "fits_along" ["kind", "length", "depth", "side"] spFitsAlong := by
  obtain ⟨f, fd, hf, F⟩ := T.d_fits_along.ex
  refine ⟨f, fd, hf, F.kp, F.binds fun _ _ _ _ _ _ us hl => match us, hl with | [_, _, _, _], _ => rfl, F.ok sc_fits_along (fun vs H Q E h => ?_) (fun cdv A outer s H vs Q E hr h => ⟨_,
    pss_cons (ps_if (pt_cmp (pc_eqI (pv 0) (pe_gint rfl T.g_SET)) (nomark _)) (pss_one (ps_ret (pe_cmp (pc_eqI (pe_op op_mod (pv 3) (pv 1)) pe_int) (nomark _)))) pss_nil)
    (pss_cons (ps_if (pt_cmp (pc_eqI (pv 0) (pe_gint rfl T.g_MET)) (nomark _)) (pss_one (ps_ret (pe_cmp (pc_eqI (pe_op op_mod (pe_op op_add (pv 3) (pe_op op_mul pe_int (pv 2))) (pe_op op_mul pe_int (pv 1))) pe_int) (nomark _)))) pss_nil)
    (pss_one (ps_ret (pe_cmp (pc_eqI (pe_op op_mod (pe_op op_add (pv 3) (pv 2)) (pv 1)) pe_int) (nomark _))))), ?_⟩)⟩
  · obtain ⟨kind, L, h, side, rfl, _⟩ := h
    rfl
  · obtain ⟨kind, L, h, side, rfl, hL, q⟩ := h
    unfold Rug.fitsAlong at q
    refine ⟨_, rfl, _, _, rfl, rfl, _, rfl, iteD (fun c => ?_) fun c => ?_⟩
    · rw [if_pos c] at q
      exact ⟨_, rfl, _, rfl, _, _, rfl, rfl, hL, _, _, rfl, rfl, q⟩
    · rw [if_neg c] at q
      refine ⟨_, rfl, _, _, rfl, rfl, _, rfl, iteD (fun c => ?_) fun c => ?_⟩
      · rw [if_pos c] at q
        exact ⟨_, rfl, _, rfl, _, _, rfl, rfl, .inl ⟨by decide, by decide⟩, _, _, rfl, rfl, _, rfl, _, _, rfl, rfl, .inl ⟨by decide, by decide⟩, _, _, rfl, rfl, by show 0 < 2 * L; omega, _, _, rfl, rfl, q⟩
      · rw [if_neg c] at q
        exact ⟨_, rfl, _, rfl, _, _, rfl, rfl, _, rfl, _, _, rfl, rfl, hL, _, _, rfl, rfl, q⟩
end
/-! ### fits_round -/
def spFitsRound (B : Addr) : Sp := fun vs H Q _ => ∃ (b : Addr) (kind L h W Hh : Int), vs = [.ref b] ∧ BorderAt B H b kind L h W Hh ∧ 1 ≤ L ∧ ∀ H', Same H H' → Q (.bl (Rug.fitsRound kind L h W Hh)) H'
theorem sc_fits_round : FnScope ["border", "sides", "side"] ["border"] (defScope s_fits_round) := ⟨rfl, rfl, rfl, by decide +kernel, rfl, by decide +kernel, by decide +kernel⟩
section
variable {P : Program} {w : World} {K : PySem.W.Frag} {mg : Str → Option Value} {base : Heap} {C fI B fB fS : Addr}
theorem ok_fits_round (T : Txt K mg C fI B fB fS) : Df P w K mg base CX0 3 "fits_round" ["border"] (spFitsRound B) := by
  obtain ⟨f, fd, hf, F⟩ := T.d_fits_round.ex
  refine ⟨f, fd, hf, F.kp, F.binds fun _ _ _ _ _ _ us hl => match us, hl with | [_], _ => rfl, F.ok sc_fits_round (fun vs H Q E h => ?_) (fun cdv A outer s H vs Q E hr h => ⟨_,
    pss_cons (ps_set (i := 1) sc_fits_round.nd rfl (.inl rfl) (pe_tup (pa_cons (pe_fld (pv 0) rfl) (pa_cons (pe_fld (pv 0) rfl) pa_nil))))
    (pss_one (ps_ret (pe_callB (cr_all rfl) (by rfl) T.b_all (by decide +kernel) (pa_cons
      (pe_lc (own := [("side", 2)]) (g := gName 2) (tt := tYes) (te := tCallS spFitsAlong (fun _ => E0) (tCons (tFld K (tVar 0) "kind") (tCons (tFld K (tVar 0) "length") (tCons (tFld K (tVar 0) "depth") (tCons (tVar 2) tNil))))) rfl sc_fits_round.nd (pi_tup (pv 1)) (blkOk_by (N := ["border", "sides", "side"]) (sc := defScope s_fits_round) (by decide +kernel))
        (fun _ _ _ _ _ => pg_name (i := 2) sc_fits_round.nd rfl (Or.inl rfl)) (fun _ _ _ _ _ => pts_nil)
        (fun _ _ _ _ _ => pe_df (ok_fits_along T) (hr.mono (by decide)) rfl (by exact pa_cons (pe_fld (pv 0) rfl) (pa_cons (pe_fld (pv 0) rfl) (pa_cons (pe_fld (pv 0) rfl) (pa_cons (pv 2) pa_nil)))))) pa_nil)))), ?_⟩)⟩
  · obtain ⟨b, kind, L, h, W, Hh, rfl, _⟩ := h
    rfl
  · obtain ⟨b, kind, L, h, W, Hh, rfl, ⟨dx, hb⟩, hL, q⟩ := h
    refine ⟨_, rfl, b, B, dx, _, _, rfl, hb, T.cl, T.n_wide, bF_wide, _, rfl, b, B, dx, _, _, rfl, hb, T.cl, T.n_high, bF_high, (by show 2 ≤ sizeLine; decide), fun p hp => ?_⟩
    have s1 : Same H (upd H p (.tup [.int W, .int Hh])) := same_upd hp
    refine ⟨_, rfl, p, rfl, ⟨_, SqT.of upd_same⟩, fun D hD => ?_⟩
    have hpD : p ≠ D := fun z => by rw [← z, upd_same] at hD; cases hD
    refine lc_tup (K := K) (a := p) (xs := [W, Hh].map V.int) (fun i H' => Same H H' ∧ H' p = some (.tup [.int W, .int Hh]) ∧ H' D = some (.lst (([W, Hh].take i).map fun n => V.bl (Rug.fitsAlong kind L h n))))
      ⟨s1.trans (same_upd hD), by rw [upd_ne hpD]; exact upd_same, upd_same⟩ (fun i H' _ h => SqT.of h.2.1) ?_ ?_
    · rintro i x H' hi ⟨s2, hp2, hD2⟩
      obtain ⟨n, hn, rfl⟩ := get_map hi
      have hlt : i < 2 := (List.getElem?_eq_some_iff.mp hn).1
      refine ⟨rfl, ?_⟩
      have hb2 := s2 _ _ hb
      refine ⟨_, rfl, b, B, dx, _, _, rfl, hb2, T.cl, T.n_kind, bF_kind, _, rfl, b, B, dx, _, _, rfl, hb2, T.cl, T.n_length, bF_length, _, rfl, b, B, dx, _, _, rfl, hb2, T.cl, T.n_depth, bF_depth, _, rfl, ?_⟩
      refine ⟨kind, L, h, n, rfl, hL, _, hD2, ?_, ?_, ?_, ?_⟩
      · rw [List.length_map, List.length_take]
        exact small1000 (by omega)
      · intro c o e
        have hc : c ≠ D := fun z => by rw [z] at e; rw [s1 _ _ e] at hD; cases hD
        rw [upd_ne hc]
        exact s2 _ _ e
      · rw [upd_ne hpD]
        exact hp2
      · rw [upd_same, take_more hn, List.map_append]
        rfl
    · rintro H' ⟨s2, hp2, hD2⟩
      refine ⟨D, [Rug.fitsAlong kind L h W, Rug.fitsAlong kind L h Hh], rfl, SqL.of hD2, ?_⟩
      have z := q H' s2
      unfold Rug.fitsRound at z
      have e : [Rug.fitsAlong kind L h W, Rug.fitsAlong kind L h Hh].all id = (Rug.fitsAlong kind L h W && Rug.fitsAlong kind L h Hh) := by simp
      rw [e]
      exact z
end
/-! ### a kind, looked at -/
def spLookKind (C : Addr) : Sp := fun vs H Q E => ∃ (kind : Int), vs = [.int kind] ∧ (¬ kind ≤ 2 → Rz C (-1) H E) ∧ (kind ≤ 2 → Q .non H)
theorem sc_look_kind : FnScope ["kind"] ["kind"] (defScope s_look_kind) := ⟨rfl, rfl, rfl, by decide +kernel, rfl, by decide +kernel, by decide +kernel⟩
section
variable {P : Program} {w : World} {K : PySem.W.Frag} {mg : Str → Option Value} {base : Heap} {C fI B fB fS : Addr}
theorem ok_look_kind (T : Txt K mg C fI B fB fS) : Df P w K mg base (L2.CX P w) 3 "look_kind" ["kind"] (spLookKind C) := by
  obtain ⟨f, fd, hf, F⟩ := T.d_look_kind.ex
  refine ⟨f, fd, hf, F.kp, F.binds fun _ _ _ _ _ _ us hl => match us, hl with | [_], _ => rfl, F.okX sc_look_kind (fun vs H Q E h => ?_) (fun cdv A outer s H vs Q E hr h => ⟨_,
    pss_one (ps_if (pt_cmp (pc_gt (pv 0) (pe_gint rfl T.g_MOST_KIND)) (nomark _)) (pss_one (ps_raiseRef rfl T.ref hr (takes_of rfl rfl rfl rfl) (by exact pa_cons (pe_un un_neg pe_int) pa_nil))) pss_nil), ?_⟩)⟩
  · obtain ⟨kind, rfl, _⟩ := h
    rfl
  · obtain ⟨kind, rfl, h1, h2⟩ := h
    refine ⟨_, rfl, _, _, rfl, rfl, _, rfl, iteD (fun c => ?_) fun c => ?_⟩
    · exact ⟨_, rfl, _, rfl, (h1 (by omega)).new⟩
    · exact h2 (by omega)
end
/-! ### knots -/
def spStrip (B : Addr) : Sp := fun vs H Q _ => ∃ (b : Addr) (kind L h W Hh i j : Int), vs = [.ref b, .int i, .int j] ∧ BorderAt B H b kind L h W Hh ∧ 1 ≤ L ∧ RetU (tri (1, i % L, j)) H Q
/-- a knot's def: what it tells -/
def spKnot (B : Addr) (f : Int → Int → Int → Int → Int → Int → Int → Int × Int × Int) : Sp := fun vs H Q _ => ∃ (b : Addr) (kind L h W Hh x y : Int), vs = [.ref b, .int x, .int y] ∧ BorderAt B H b kind L h W Hh ∧ 1 ≤ L ∧ RetU (tri (f kind L h W Hh x y)) H Q
def spIsField (B : Addr) : Sp := fun vs H Q _ => ∃ (b : Addr) (kind L h W Hh x y : Int), vs = [.ref b, .int x, .int y] ∧ BorderAt B H b kind L h W Hh ∧ RetV (.bl (Rug.isField h W Hh x y)) H Q
theorem sc_bstrip : FnScope ["self", "i", "j"] ["self", "i", "j"] (defScope s_bstrip) := ⟨rfl, rfl, rfl, by decide +kernel, rfl, by decide +kernel, by decide +kernel⟩
theorem sc_corner_knot : FnScope ["border", "x", "y", "right", "low"] ["border", "x", "y"] (defScope s_corner_knot) := ⟨rfl, rfl, rfl, by decide +kernel, rfl, by decide +kernel, by decide +kernel⟩
theorem sc_set_knot : FnScope ["border", "x", "y", "depth", "right", "low"] ["border", "x", "y"] (defScope s_set_knot) := ⟨rfl, rfl, rfl, by decide +kernel, rfl, by decide +kernel, by decide +kernel⟩
theorem sc_met_knot : FnScope ["border", "x", "y", "u", "v"] ["border", "x", "y"] (defScope s_met_knot) := ⟨rfl, rfl, rfl, by decide +kernel, rfl, by decide +kernel, by decide +kernel⟩
theorem sc_run_knot : FnScope ["border", "x", "y", "depth", "right", "low"] ["border", "x", "y"] (defScope s_run_knot) := ⟨rfl, rfl, rfl, by decide +kernel, rfl, by decide +kernel, by decide +kernel⟩
theorem sc_is_field : FnScope ["border", "x", "y", "depth"] ["border", "x", "y"] (defScope s_is_field) := ⟨rfl, rfl, rfl, by decide +kernel, rfl, by decide +kernel, by decide +kernel⟩
theorem sc_knot_of : FnScope ["border", "x", "y"] ["border", "x", "y"] (defScope s_knot_of) := ⟨rfl, rfl, rfl, by decide +kernel, rfl, by decide +kernel, by decide +kernel⟩
section
variable {P : Program} {w : World} {K : PySem.W.Frag} {mg : Str → Option Value} {base : Heap} {C fI B fB fS : Addr}
theorem ok_strip (T : Txt K mg C fI B fB fS) : ∃ fd, Binds K fd ["self", "i", "j"] [] ∧ FnOk P w K mg base CX0 1 fS fd ["self", "i", "j"] (spStrip B) := by
  obtain ⟨fd, F⟩ := T.f_strip
  refine ⟨fd, F.binds fun _ _ _ _ _ _ us hl => match us, hl with | [_, _, _], _ => rfl, F.ok sc_bstrip (fun vs H Q E h => ?_) (fun cdv A outer s H vs Q E hr h => ⟨_,
    pss_one (ps_ret (pe_tup (pa_cons (pe_gint rfl T.g_OF_STRIP) (pa_cons (pe_op op_mod (pv 1) (pe_fld (pv 0) rfl)) (pa_cons (pv 2) pa_nil))))), ?_⟩)⟩
  · obtain ⟨b, kind, L, h, W, Hh, i, j, rfl, _⟩ := h
    rfl
  · obtain ⟨b, kind, L, h, W, Hh, i, j, rfl, ⟨dx, hb⟩, hL, q⟩ := h
    exact s_retU (eu_tup (ea_cons ev_c (ea_cons (ev_op (ev_var rfl) (ev_fld (ev_var rfl) hb T.cl T.n_length bF_length) (rv_I hL)) (ea_cons (ev_var rfl) ea_nil))) (by show 3 ≤ 100000; decide)) fun p H1 hp e1 h1 => q p H1 hp e1 h1
theorem ok_corner_knot (T : Txt K mg C fI B fB fS) : Df P w K mg base CX0 1 "corner_knot" ["border", "x", "y"] (spKnot B fun _ _ h W Hh x y => Rug.cornerKnot h W Hh x y) := by
  obtain ⟨f, fd, hf, F⟩ := T.d_corner_knot.ex
  refine ⟨f, fd, hf, F.kp, F.binds fun _ _ _ _ _ _ us hl => match us, hl with | [_, _, _], _ => rfl, F.ok sc_corner_knot (fun vs H Q E h => ?_) (fun cdv A outer s H vs Q E hr h => ⟨_,
    pss_cons (ps_set (i := 3) sc_corner_knot.nd rfl (.inl rfl) (pe_op op_sub (pe_op op_sub (pe_fld (pv 0) rfl) pe_int) (pv 1)))
    (pss_cons (ps_set (i := 4) sc_corner_knot.nd rfl (.inl rfl) (pe_op op_sub (pe_op op_sub (pe_fld (pv 0) rfl) pe_int) (pv 2)))
    (pss_cons (ps_if (PW.pt (pw_and (pt_cmpR op_lt (pv 1) (pe_fld (pv 0) rfl) (nomark _)) (pw_and1 (pt_cmpR op_lt (pv 2) (pe_fld (pv 0) rfl) (nomark _))))) (pss_one (ps_ret (pe_tup (pa_cons (pe_gint rfl T.g_OF_CORNER) (pa_cons (pv 1) (pa_cons (pv 2) pa_nil)))))) pss_nil)
    (pss_cons (ps_if (pt_cmpR op_lt (pv 2) (pe_fld (pv 0) rfl) (nomark _)) (pss_one (ps_ret (pe_tup (pa_cons (pe_gint rfl T.g_OF_CORNER) (pa_cons (pv 2) (pa_cons (pv 3) pa_nil)))))) pss_nil)
    (pss_cons (ps_if (pt_cmpR op_lt (pv 1) (pe_fld (pv 0) rfl) (nomark _)) (pss_one (ps_ret (pe_tup (pa_cons (pe_gint rfl T.g_OF_CORNER) (pa_cons (pv 4) (pa_cons (pv 1) pa_nil)))))) pss_nil)
    (pss_one (ps_ret (pe_tup (pa_cons (pe_gint rfl T.g_OF_CORNER) (pa_cons (pv 3) (pa_cons (pv 4) pa_nil)))))))))), ?_⟩)⟩
  · obtain ⟨b, kind, L, h, W, Hh, x, y, rfl, _⟩ := h
    rfl
  · obtain ⟨b, kind, L, h, W, Hh, x, y, rfl, ⟨dx, hb⟩, hL, q⟩ := h
    have q : RetU (tri (Rug.cornerKnot h W Hh x y)) H Q := q
    have three : 3 ≤ 100000 := by decide
    refine q_asg (v := .int (W + 2 * h - 1 - x)) (ev_op (ev_op (ev_fld (ev_var rfl) hb T.cl T.n_whole_wide bF_ww) ev_c rv_I0) (ev_var rfl) rv_I0) fun H1 e1 => ?_
    have b1 := e1 _ _ hb
    refine q_asg (v := .int (Hh + 2 * h - 1 - y)) (ev_op (ev_op (ev_fld (ev_var rfl) b1 T.cl T.n_whole_high bF_wh) ev_c rv_I0) (ev_var rfl) rv_I0) fun H2 e2 => ?_
    have b2 := e2 _ _ b1
    refine q_when (b := decide (x < h) && decide (y < h)) (et_and (et_test (ev_op (ev_var rfl) (ev_fld (ev_var rfl) b2 T.cl T.n_depth bF_depth) rv_I0)) fun _ => et_test (ev_op (ev_var rfl) (ev_fld (ev_var rfl) b2 T.cl T.n_depth bF_depth) rv_I0)) (fun c H3 e3 => ?_) fun c H3 e3 => ?_
    · simp only [Bool.and_eq_true, decide_eq_true_eq] at c
      refine s_retU (eu_tup (ea_cons ev_c (ea_cons (ev_var rfl) (ea_cons (ev_var rfl) ea_nil))) three) fun p H4 hp e4 h4 => RetU.go q ((e1.trans e2).trans e3) hp e4 h4 ?_
      unfold Rug.cornerKnot
      rw [if_pos c]
      rfl
    · simp only [Bool.and_eq_false_iff, decide_eq_false_iff_not] at c
      have b3 := e3 _ _ b2
      refine q_when (et_test (ev_op (ev_var rfl) (ev_fld (ev_var rfl) b3 T.cl T.n_depth bF_depth) rv_I0)) (fun c2 H4 e4 => ?_) fun c2 H4 e4 => ?_
      · have c2 := of_decide_eq_true c2
        refine s_retU (eu_tup (ea_cons ev_c (ea_cons (ev_var rfl) (ea_cons (ev_var rfl) ea_nil))) three) fun p H5 hp e5 h5 => RetU.go q (((e1.trans e2).trans e3).trans e4) hp e5 h5 ?_
        unfold Rug.cornerKnot
        rw [if_neg (by omega), if_pos c2]
        rfl
      · have c2 := of_decide_eq_false c2
        have b4 := e4 _ _ b3
        refine q_when (et_test (ev_op (ev_var rfl) (ev_fld (ev_var rfl) b4 T.cl T.n_depth bF_depth) rv_I0)) (fun c3 H5 e5 => ?_) fun c3 H5 e5 => ?_
        · have c3 := of_decide_eq_true c3
          refine s_retU (eu_tup (ea_cons ev_c (ea_cons (ev_var rfl) (ea_cons (ev_var rfl) ea_nil))) three) fun p H6 hp e6 h6 => RetU.go q ((((e1.trans e2).trans e3).trans e4).trans e5) hp e6 h6 ?_
          unfold Rug.cornerKnot
          rw [if_neg (by omega), if_neg c2, if_pos c3]
          rfl
        · have c3 := of_decide_eq_false c3
          refine s_retU (eu_tup (ea_cons ev_c (ea_cons (ev_var rfl) (ea_cons (ev_var rfl) ea_nil))) three) fun p H6 hp e6 h6 => RetU.go q ((((e1.trans e2).trans e3).trans e4).trans e5) hp e6 h6 ?_
          unfold Rug.cornerKnot
          rw [if_neg (by omega), if_neg c2, if_neg c3]
          rfl
/-- what the strip's method tells, to a caller -/
theorem strip_call {b dx : Addr} {H : Hp} {kind L h W Hh i j : Int} (hb : H b = some (.ins B dx (bF kind L h W Hh))) (hL : 1 ≤ L) : ∀ H1, Ex H H1 → ∀ (Q : VK) (E : XK), RetU (tri (1, i % L, j)) H1 Q → spStrip B (.ref b :: [.int i, .int j]) H1 Q E :=
  fun H1 e _ _ q => ⟨b, kind, L, h, W, Hh, i, j, rfl, ⟨dx, e _ _ hb⟩, hL, q⟩
theorem ok_set_knot (T : Txt K mg C fI B fB fS) : Df P w K mg base CX0 3 "set_knot" ["border", "x", "y"] (spKnot B fun _ L h W Hh x y => Rug.setKnot L h W Hh x y) := by
  obtain ⟨f, fd, hf, F⟩ := T.d_set_knot.ex
  obtain ⟨fdS, bS, GS⟩ := ok_strip (P := P) (w := w) (base := base) T
  refine ⟨f, fd, hf, F.kp, F.binds fun _ _ _ _ _ _ us hl => match us, hl with | [_, _, _], _ => rfl, F.ok sc_set_knot (fun vs H Q E h => ?_) (fun cdv A outer s H vs Q E hr h => ⟨_,
    pss_cons (ps_set (i := 3) sc_set_knot.nd rfl (.inl rfl) (pe_fld (pv 0) rfl))
    (pss_cons (ps_set (i := 4) sc_set_knot.nd rfl (.inl rfl) (pe_op op_sub (pe_op op_sub (pe_fld (pv 0) rfl) pe_int) (pv 1)))
    (pss_cons (ps_set (i := 5) sc_set_knot.nd rfl (.inl rfl) (pe_op op_sub (pe_op op_sub (pe_fld (pv 0) rfl) pe_int) (pv 2)))
    (pss_cons (ps_if (PW.pt (pw_and (PW.pt (pw_or (pt_cmpR op_lt (pv 1) (pv 3) (nomark _)) (pw_or1 (pt_cmpR op_lt (pv 4) (pv 3) (nomark _))))) (pw_and1 (PW.pt (pw_or (pt_cmpR op_lt (pv 2) (pv 3) (nomark _)) (pw_or1 (pt_cmpR op_lt (pv 5) (pv 3) (nomark _))))))))
      (pss_one (ps_ret (pe_df (ok_corner_knot T) (hr.mono (by decide)) rfl (by exact pa_cons (pv 0) (pa_cons (pv 1) (pa_cons (pv 2) pa_nil)))))) pss_nil)
    (pss_cons (ps_if (pt_cmpR op_lt (pv 2) (pv 3) (nomark _)) (pss_one (ps_ret (pe_meth (pv 0) T.cl T.mS GS (hr.mono (by decide)) bS .nil pass0 (by exact pa_cons (pe_op op_sub (pv 1) (pv 3)) (pa_cons (pv 2) pa_nil))))) pss_nil)
    (pss_cons (ps_if (pt_cmpR op_lt (pv 4) (pv 3) (nomark _)) (pss_one (ps_ret (pe_meth (pv 0) T.cl T.mS GS (hr.mono (by decide)) bS .nil pass0 (by exact pa_cons (pe_op op_sub (pv 2) (pv 3)) (pa_cons (pv 4) pa_nil))))) pss_nil)
    (pss_cons (ps_if (pt_cmpR op_lt (pv 5) (pv 3) (nomark _)) (pss_one (ps_ret (pe_meth (pv 0) T.cl T.mS GS (hr.mono (by decide)) bS .nil pass0 (by exact pa_cons (pe_op op_sub (pv 4) (pv 3)) (pa_cons (pv 5) pa_nil))))) pss_nil)
    (pss_one (ps_ret (pe_meth (pv 0) T.cl T.mS GS (hr.mono (by decide)) bS .nil pass0 (by exact pa_cons (pe_op op_sub (pv 5) (pv 3)) (pa_cons (pv 1) pa_nil))))))))))), ?_⟩)⟩
  · obtain ⟨b, kind, L, h, W, Hh, x, y, rfl, _⟩ := h
    rfl
  · obtain ⟨b, kind, L, h, W, Hh, x, y, rfl, ⟨dx, hb⟩, hL, q⟩ := h
    have q : RetU (tri (Rug.setKnot L h W Hh x y)) H Q := q
    refine q_asg (v := .int h) (ev_fld (ev_var rfl) hb T.cl T.n_depth bF_depth) fun H1 e1 => ?_
    have b1 := e1 _ _ hb
    refine q_asg (v := .int (W + 2 * h - 1 - x)) (ev_op (ev_op (ev_fld (ev_var rfl) b1 T.cl T.n_whole_wide bF_ww) ev_c rv_I0) (ev_var rfl) rv_I0) fun H2 e2 => ?_
    have b2 := e2 _ _ b1
    refine q_asg (v := .int (Hh + 2 * h - 1 - y)) (ev_op (ev_op (ev_fld (ev_var rfl) b2 T.cl T.n_whole_high bF_wh) ev_c rv_I0) (ev_var rfl) rv_I0) fun H3 e3 => ?_
    have b3 := e3 _ _ b2
    have e03 := (e1.trans e2).trans e3
    refine q_when (b := (decide (x < h) || decide (W + 2 * h - 1 - x < h)) && (decide (y < h) || decide (Hh + 2 * h - 1 - y < h))) (et_and (et_or (et_test (ev_op (ev_var rfl) (ev_var rfl) rv_I0)) fun _ => et_test (ev_op (ev_var rfl) (ev_var rfl) rv_I0))
      fun _ => et_or (et_test (ev_op (ev_var rfl) (ev_var rfl) rv_I0)) fun _ => et_test (ev_op (ev_var rfl) (ev_var rfl) rv_I0)) (fun c H4 e4 => ?_) fun c H4 e4 => ?_
    · simp only [Bool.and_eq_true, Bool.or_eq_true, decide_eq_true_eq] at c
      refine s_retU (eu_df (xs := tri (Rug.cornerKnot h W Hh x y)) (ea_cons (ev_var rfl) (ea_cons (ev_var rfl) (ea_cons (ev_var rfl) ea_nil))) fun H5 e5 Q' E' q' => ⟨b, kind, L, h, W, Hh, x, y, rfl, ⟨dx, e5 _ _ (e4 _ _ b3)⟩, hL, q'⟩) fun p H6 hp e6 h6 => RetU.go q (e03.trans e4) hp e6 h6 ?_
      unfold Rug.setKnot
      rw [if_pos c]
    · simp only [Bool.and_eq_false_iff, Bool.or_eq_false_iff, decide_eq_false_iff_not] at c
      have b4 := e4 _ _ b3
      have e04 := e03.trans e4
      have n1 : ¬ ((x < h ∨ W + 2 * h - 1 - x < h) ∧ (y < h ∨ Hh + 2 * h - 1 - y < h)) := by omega
      refine q_when (et_test (ev_op (ev_var rfl) (ev_var rfl) rv_I0)) (fun c2 H5 e5 => ?_) fun c2 H5 e5 => ?_
      · have c2 := of_decide_eq_true c2
        refine s_retU (eu_meth (xs := tri (1, (x - h) % L, y)) (ev_var rfl) (e5 _ _ b4) bF_strip (ea_cons (ev_op (ev_var rfl) (ev_var rfl) rv_I0) (ea_cons (ev_var rfl) ea_nil)) (strip_call (e5 _ _ b4) hL)) fun p H6 hp e6 h6 => RetU.go q (e04.trans e5) hp e6 h6 ?_
        unfold Rug.setKnot
        rw [if_neg n1, if_pos c2]
      · have c2 := of_decide_eq_false c2
        have b5 := e5 _ _ b4
        refine q_when (et_test (ev_op (ev_var rfl) (ev_var rfl) rv_I0)) (fun c3 H6 e6 => ?_) fun c3 H6 e6 => ?_
        · have c3 := of_decide_eq_true c3
          refine s_retU (eu_meth (xs := tri (1, (y - h) % L, W + 2 * h - 1 - x)) (ev_var rfl) (e6 _ _ b5) bF_strip (ea_cons (ev_op (ev_var rfl) (ev_var rfl) rv_I0) (ea_cons (ev_var rfl) ea_nil)) (strip_call (e6 _ _ b5) hL)) fun p H7 hp e7 h7 => RetU.go q ((e04.trans e5).trans e6) hp e7 h7 ?_
          unfold Rug.setKnot
          rw [if_neg n1, if_neg c2, if_pos c3]
        · have c3 := of_decide_eq_false c3
          have b6 := e6 _ _ b5
          refine q_when (et_test (ev_op (ev_var rfl) (ev_var rfl) rv_I0)) (fun c4 H7 e7 => ?_) fun c4 H7 e7 => ?_
          · have c4 := of_decide_eq_true c4
            refine s_retU (eu_meth (xs := tri (1, (W + 2 * h - 1 - x - h) % L, Hh + 2 * h - 1 - y)) (ev_var rfl) (e7 _ _ b6) bF_strip (ea_cons (ev_op (ev_var rfl) (ev_var rfl) rv_I0) (ea_cons (ev_var rfl) ea_nil)) (strip_call (e7 _ _ b6) hL)) fun p H8 hp e8 h8 => RetU.go q (((e04.trans e5).trans e6).trans e7) hp e8 h8 ?_
            unfold Rug.setKnot
            rw [if_neg n1, if_neg c2, if_neg c3, if_pos c4]
          · have c4 := of_decide_eq_false c4
            refine s_retU (eu_meth (xs := tri (1, (Hh + 2 * h - 1 - y - h) % L, x)) (ev_var rfl) (e7 _ _ b6) bF_strip (ea_cons (ev_op (ev_var rfl) (ev_var rfl) rv_I0) (ea_cons (ev_var rfl) ea_nil)) (strip_call (e7 _ _ b6) hL)) fun p H8 hp e8 h8 => RetU.go q (((e04.trans e5).trans e6).trans e7) hp e8 h8 ?_
            unfold Rug.setKnot
            rw [if_neg n1, if_neg c2, if_neg c3, if_neg c4]
theorem ok_met_knot (T : Txt K mg C fI B fB fS) : Df P w K mg base CX0 3 "met_knot" ["border", "x", "y"] (spKnot B fun _ L h W Hh x y => Rug.metKnot L h W Hh x y) := by
  obtain ⟨f, fd, hf, F⟩ := T.d_met_knot.ex
  obtain ⟨fdS, bS, GS⟩ := ok_strip (P := P) (w := w) (base := base) T
  refine ⟨f, fd, hf, F.kp, F.binds fun _ _ _ _ _ _ us hl => match us, hl with | [_, _, _], _ => rfl, F.ok sc_met_knot (fun vs H Q E h => ?_) (fun cdv A outer s H vs Q E hr h => ⟨_,
    pss_cons (ps_set (i := 3) sc_met_knot.nd rfl (.inl rfl) (pe_callB (call_min2 rfl) (by rfl) T.b_min (by decide +kernel) (pa_cons (pv 1) (pa_cons (pe_op op_sub (pe_op op_sub (pe_fld (pv 0) rfl) pe_int) (pv 1)) pa_nil))))
    (pss_cons (ps_set (i := 4) sc_met_knot.nd rfl (.inl rfl) (pe_callB (call_min2 rfl) (by rfl) T.b_min (by decide +kernel) (pa_cons (pv 2) (pa_cons (pe_op op_sub (pe_op op_sub (pe_fld (pv 0) rfl) pe_int) (pv 2)) pa_nil))))
    (pss_one (ps_ret (pe_meth (pv 0) T.cl T.mS GS (hr.mono (by decide)) bS .nil pass0 (by exact pa_cons (pe_callB (call_max2 rfl) (by rfl) T.b_max (by decide +kernel) (pa_cons (pv 3) (pa_cons (pv 4) pa_nil))) (pa_cons (pe_callB (call_min2 rfl) (by rfl) T.b_min (by decide +kernel) (pa_cons (pv 3) (pa_cons (pv 4) pa_nil))) pa_nil)))))), ?_⟩)⟩
  · obtain ⟨b, kind, L, h, W, Hh, x, y, rfl, _⟩ := h
    rfl
  · obtain ⟨b, kind, L, h, W, Hh, x, y, rfl, ⟨dx, hb⟩, hL, q⟩ := h
    have q : RetU (tri (Rug.metKnot L h W Hh x y)) H Q := q
    refine q_asg (v := .int (min x (W + 2 * h - 1 - x))) (ev_min2 (ea_cons (ev_var rfl) (ea_cons (ev_op (ev_op (ev_fld (ev_var rfl) hb T.cl T.n_whole_wide bF_ww) ev_c rv_I0) (ev_var rfl) rv_I0) ea_nil))) fun H1 e1 => ?_
    have b1 := e1 _ _ hb
    refine q_asg (v := .int (min y (Hh + 2 * h - 1 - y))) (ev_min2 (ea_cons (ev_var rfl) (ea_cons (ev_op (ev_op (ev_fld (ev_var rfl) b1 T.cl T.n_whole_high bF_wh) ev_c rv_I0) (ev_var rfl) rv_I0) ea_nil))) fun H2 e2 => ?_
    have b2 := e2 _ _ b1
    refine s_retU (eu_meth (xs := tri (Rug.metKnot L h W Hh x y)) (ev_var rfl) b2 bF_strip (ea_cons (ev_max2' (ea_cons (ev_var rfl) (ea_cons (ev_var rfl) ea_nil))) (ea_cons (ev_min2 (ea_cons (ev_var rfl) (ea_cons (ev_var rfl) ea_nil))) ea_nil)) (strip_call b2 hL))
      fun p H6 hp e6 h6 => RetU.go q (e1.trans e2) hp e6 h6 rfl
theorem ok_run_knot (T : Txt K mg C fI B fB fS) : Df P w K mg base CX0 3 "run_knot" ["border", "x", "y"] (spKnot B fun _ L h W Hh x y => Rug.runKnot L h W Hh x y) := by
  obtain ⟨f, fd, hf, F⟩ := T.d_run_knot.ex
  obtain ⟨fdS, bS, GS⟩ := ok_strip (P := P) (w := w) (base := base) T
  refine ⟨f, fd, hf, F.kp, F.binds fun _ _ _ _ _ _ us hl => match us, hl with | [_, _, _], _ => rfl, F.ok sc_run_knot (fun vs H Q E h => ?_) (fun cdv A outer s H vs Q E hr h => ⟨_,
    pss_cons (ps_set (i := 3) sc_run_knot.nd rfl (.inl rfl) (pe_fld (pv 0) rfl))
    (pss_cons (ps_set (i := 4) sc_run_knot.nd rfl (.inl rfl) (pe_op op_sub (pe_op op_sub (pe_fld (pv 0) rfl) pe_int) (pv 1)))
    (pss_cons (ps_set (i := 5) sc_run_knot.nd rfl (.inl rfl) (pe_op op_sub (pe_op op_sub (pe_fld (pv 0) rfl) pe_int) (pv 2)))
    (pss_cons (ps_if (PW.pt (pw_and (pt_cmpR op_ge (pv 4) (pv 3) (nomark _)) (pw_and1 (pt_cmpR op_lt (pv 2) (pv 3) (nomark _))))) (pss_one (ps_ret (pe_meth (pv 0) T.cl T.mS GS (hr.mono (by decide)) bS .nil pass0 (by exact pa_cons (pv 1) (pa_cons (pv 2) pa_nil))))) pss_nil)
    (pss_cons (ps_if (PW.pt (pw_and (pt_cmpR op_lt (pv 4) (pv 3) (nomark _)) (pw_and1 (pt_cmpR op_ge (pv 5) (pv 3) (nomark _))))) (pss_one (ps_ret (pe_meth (pv 0) T.cl T.mS GS (hr.mono (by decide)) bS .nil pass0 (by exact pa_cons (pv 2) (pa_cons (pv 4) pa_nil))))) pss_nil)
    (pss_cons (ps_if (PW.pt (pw_and (pt_cmpR op_ge (pv 1) (pv 3) (nomark _)) (pw_and1 (pt_cmpR op_lt (pv 5) (pv 3) (nomark _))))) (pss_one (ps_ret (pe_meth (pv 0) T.cl T.mS GS (hr.mono (by decide)) bS .nil pass0 (by exact pa_cons (pv 4) (pa_cons (pv 5) pa_nil))))) pss_nil)
    (pss_one (ps_ret (pe_meth (pv 0) T.cl T.mS GS (hr.mono (by decide)) bS .nil pass0 (by exact pa_cons (pv 5) (pa_cons (pv 1) pa_nil)))))))))), ?_⟩)⟩
  · obtain ⟨b, kind, L, h, W, Hh, x, y, rfl, _⟩ := h
    rfl
  · obtain ⟨b, kind, L, h, W, Hh, x, y, rfl, ⟨dx, hb⟩, hL, q⟩ := h
    have q : RetU (tri (Rug.runKnot L h W Hh x y)) H Q := q
    refine q_asg (v := .int h) (ev_fld (ev_var rfl) hb T.cl T.n_depth bF_depth) fun H1 e1 => ?_
    have b1 := e1 _ _ hb
    refine q_asg (v := .int (W + 2 * h - 1 - x)) (ev_op (ev_op (ev_fld (ev_var rfl) b1 T.cl T.n_whole_wide bF_ww) ev_c rv_I0) (ev_var rfl) rv_I0) fun H2 e2 => ?_
    have b2 := e2 _ _ b1
    refine q_asg (v := .int (Hh + 2 * h - 1 - y)) (ev_op (ev_op (ev_fld (ev_var rfl) b2 T.cl T.n_whole_high bF_wh) ev_c rv_I0) (ev_var rfl) rv_I0) fun H3 e3 => ?_
    have b3 := e3 _ _ b2
    have e03 := (e1.trans e2).trans e3
    refine q_when (b := decide (h ≤ W + 2 * h - 1 - x) && decide (y < h)) (et_and (et_test (ev_op (ev_var rfl) (ev_var rfl) rv_I0)) fun _ => et_test (ev_op (ev_var rfl) (ev_var rfl) rv_I0)) (fun c H4 e4 => ?_) fun c H4 e4 => ?_
    · simp only [Bool.and_eq_true, decide_eq_true_eq] at c
      refine s_retU (eu_meth (xs := tri (1, x % L, y)) (ev_var rfl) (e4 _ _ b3) bF_strip (ea_cons (ev_var rfl) (ea_cons (ev_var rfl) ea_nil)) (strip_call (e4 _ _ b3) hL)) fun p H6 hp e6 h6 => RetU.go q (e03.trans e4) hp e6 h6 ?_
      unfold Rug.runKnot
      rw [if_pos c]
    · simp only [Bool.and_eq_false_iff, decide_eq_false_iff_not] at c
      have b4 := e4 _ _ b3
      have e04 := e03.trans e4
      have n1 : ¬ (h ≤ W + 2 * h - 1 - x ∧ y < h) := by omega
      refine q_when (b := decide (W + 2 * h - 1 - x < h) && decide (h ≤ Hh + 2 * h - 1 - y)) (et_and (et_test (ev_op (ev_var rfl) (ev_var rfl) rv_I0)) fun _ => et_test (ev_op (ev_var rfl) (ev_var rfl) rv_I0)) (fun c2 H5 e5 => ?_) fun c2 H5 e5 => ?_
      · simp only [Bool.and_eq_true, decide_eq_true_eq] at c2
        refine s_retU (eu_meth (xs := tri (1, y % L, W + 2 * h - 1 - x)) (ev_var rfl) (e5 _ _ b4) bF_strip (ea_cons (ev_var rfl) (ea_cons (ev_var rfl) ea_nil)) (strip_call (e5 _ _ b4) hL)) fun p H6 hp e6 h6 => RetU.go q (e04.trans e5) hp e6 h6 ?_
        unfold Rug.runKnot
        rw [if_neg n1, if_pos c2]
      · simp only [Bool.and_eq_false_iff, decide_eq_false_iff_not] at c2
        have b5 := e5 _ _ b4
        have n2 : ¬ (W + 2 * h - 1 - x < h ∧ h ≤ Hh + 2 * h - 1 - y) := by omega
        refine q_when (b := decide (h ≤ x) && decide (Hh + 2 * h - 1 - y < h)) (et_and (et_test (ev_op (ev_var rfl) (ev_var rfl) rv_I0)) fun _ => et_test (ev_op (ev_var rfl) (ev_var rfl) rv_I0)) (fun c3 H6 e6 => ?_) fun c3 H6 e6 => ?_
        · simp only [Bool.and_eq_true, decide_eq_true_eq] at c3
          refine s_retU (eu_meth (xs := tri (1, (W + 2 * h - 1 - x) % L, Hh + 2 * h - 1 - y)) (ev_var rfl) (e6 _ _ b5) bF_strip (ea_cons (ev_var rfl) (ea_cons (ev_var rfl) ea_nil)) (strip_call (e6 _ _ b5) hL)) fun p H7 hp e7 h7 => RetU.go q ((e04.trans e5).trans e6) hp e7 h7 ?_
          unfold Rug.runKnot
          rw [if_neg n1, if_neg n2, if_pos c3]
        · simp only [Bool.and_eq_false_iff, decide_eq_false_iff_not] at c3
          have n3 : ¬ (h ≤ x ∧ Hh + 2 * h - 1 - y < h) := by omega
          refine s_retU (eu_meth (xs := tri (1, (Hh + 2 * h - 1 - y) % L, x)) (ev_var rfl) (e6 _ _ b5) bF_strip (ea_cons (ev_var rfl) (ea_cons (ev_var rfl) ea_nil)) (strip_call (e6 _ _ b5) hL)) fun p H7 hp e7 h7 => RetU.go q ((e04.trans e5).trans e6) hp e7 h7 ?_
          unfold Rug.runKnot
          rw [if_neg n1, if_neg n2, if_neg n3]
theorem ok_is_field (T : Txt K mg C fI B fB fS) : Df P w K mg base CX0 1 "is_field" ["border", "x", "y"] (spIsField B) := by
  obtain ⟨f, fd, hf, F⟩ := T.d_is_field.ex
  refine ⟨f, fd, hf, F.kp, F.binds fun _ _ _ _ _ _ us hl => match us, hl with | [_, _, _], _ => rfl, F.ok sc_is_field (fun vs H Q E h => ?_) (fun cdv A outer s H vs Q E hr h => ⟨_,
    pss_cons (ps_set (i := 3) sc_is_field.nd rfl (.inl rfl) (pe_fld (pv 0) rfl))
    (pss_one (ps_ret (pe_and (pe_chain op_le op_lt (pv 3) (pv 1) (pe_op op_add (pv 3) (pe_fld (pv 0) rfl))) (pe_one (pe_chain op_le op_lt (pv 3) (pv 2) (pe_op op_add (pv 3) (pe_fld (pv 0) rfl))))))), ?_⟩)⟩
  · obtain ⟨b, kind, L, h, W, Hh, x, y, rfl, _⟩ := h
    rfl
  · obtain ⟨b, kind, L, h, W, Hh, x, y, rfl, ⟨dx, hb⟩, q⟩ := h
    refine q_asg (v := .int h) (ev_fld (ev_var rfl) hb T.cl T.n_depth bF_depth) fun H1 e1 => ?_
    have b1 := e1 _ _ hb
    refine s_ret (v := .bl (Rug.isField h W Hh x y)) (ev_andV (ev_chain _ (ev_var rfl) (ev_var rfl) rv_I0 (ev_op (ev_var rfl) (ev_fld (ev_var rfl) b1 T.cl T.n_wide bF_wide) rv_I0) (fun _ => rv_I0) rfl)
      fun _ => ev_chain _ (ev_var rfl) (ev_var rfl) rv_I0 (ev_op (ev_var rfl) (ev_fld (ev_var rfl) b1 T.cl T.n_high bF_high) rv_I0) (fun _ => rv_I0) rfl) fun H2 e2 => q H2 (e1.trans e2)
theorem ok_knot_of (T : Txt K mg C fI B fB fS) : Df P w K mg base CX0 5 "knot_of" ["border", "x", "y"] (spKnot B Rug.knotOf) := by
  obtain ⟨f, fd, hf, F⟩ := T.d_knot_of.ex
  refine ⟨f, fd, hf, F.kp, F.binds fun _ _ _ _ _ _ us hl => match us, hl with | [_, _, _], _ => rfl, F.ok sc_knot_of (fun vs H Q E h => ?_) (fun cdv A outer s H vs Q E hr h => ⟨_,
    pss_cons (ps_if (pt_val (pe_df (ok_is_field T) (hr.mono (by decide)) rfl (by exact pa_cons (pv 0) (pa_cons (pv 1) (pa_cons (pv 2) pa_nil)))))
      (pss_one (ps_ret (pe_tup (pa_cons (pe_gint rfl T.g_OF_FIELD) (pa_cons (pe_op op_sub (pv 1) (pe_fld (pv 0) rfl)) (pa_cons (pe_op op_sub (pv 2) (pe_fld (pv 0) rfl)) pa_nil)))))) pss_nil)
    (pss_cons (ps_if (pt_cmp (pc_eqI (pe_fld (pv 0) rfl) (pe_gint rfl T.g_SET)) (nomark _)) (pss_one (ps_ret (pe_df (ok_set_knot T) (hr.mono (by decide)) rfl (by exact pa_cons (pv 0) (pa_cons (pv 1) (pa_cons (pv 2) pa_nil)))))) pss_nil)
    (pss_cons (ps_if (pt_cmp (pc_eqI (pe_fld (pv 0) rfl) (pe_gint rfl T.g_MET)) (nomark _)) (pss_one (ps_ret (pe_df (ok_met_knot T) (hr.mono (by decide)) rfl (by exact pa_cons (pv 0) (pa_cons (pv 1) (pa_cons (pv 2) pa_nil)))))) pss_nil)
    (pss_one (ps_ret (pe_df (ok_run_knot T) (hr.mono (by decide)) rfl (by exact pa_cons (pv 0) (pa_cons (pv 1) (pa_cons (pv 2) pa_nil)))))))), ?_⟩)⟩
  · obtain ⟨b, kind, L, h, W, Hh, x, y, rfl, _⟩ := h
    rfl
  · obtain ⟨b, kind, L, h, W, Hh, x, y, rfl, ⟨dx, hb⟩, hL, q⟩ := h
    refine q_when (et_B (ev_df (v := .bl (Rug.isField h W Hh x y)) (ea_cons (ev_var rfl) (ea_cons (ev_var rfl) (ea_cons (ev_var rfl) ea_nil))) fun H1 e1 Q' E' q' => ⟨b, kind, L, h, W, Hh, x, y, rfl, ⟨dx, e1 _ _ hb⟩, q'⟩)) (fun c H1 e1 => ?_) fun c H1 e1 => ?_
    · have b1 := e1 _ _ hb
      refine s_retU (eu_tup (ea_cons ev_c (ea_cons (ev_op (ev_var rfl) (ev_fld (ev_var rfl) b1 T.cl T.n_depth bF_depth) rv_I0) (ea_cons (ev_op (ev_var rfl) (ev_fld (ev_var rfl) b1 T.cl T.n_depth bF_depth) rv_I0) ea_nil))) (by show 3 ≤ 100000; decide)) fun p H4 hp e4 h4 => RetU.go q e1 hp e4 h4 ?_
      unfold Rug.knotOf
      rw [if_pos c]
      rfl
    · have b1 := e1 _ _ hb
      have n1 : ¬ Rug.isField h W Hh x y = true := by rw [c]; exact Bool.false_ne_true
      refine q_when (et_B (ev_cmp (ev_fld (ev_var rfl) b1 T.cl T.n_kind bF_kind) ev_c)) (fun c2 H2 e2 => ?_) fun c2 H2 e2 => ?_
      · have c2 := of_decide_eq_true c2
        refine s_retU (eu_df (xs := tri (Rug.setKnot L h W Hh x y)) (ea_cons (ev_var rfl) (ea_cons (ev_var rfl) (ea_cons (ev_var rfl) ea_nil))) fun H5 e5 Q' E' q' => ⟨b, kind, L, h, W, Hh, x, y, rfl, ⟨dx, e5 _ _ (e2 _ _ b1)⟩, hL, q'⟩) fun p H6 hp e6 h6 => RetU.go q (e1.trans e2) hp e6 h6 ?_
        unfold Rug.knotOf
        rw [if_neg n1, if_pos c2]
      · have c2 := of_decide_eq_false c2
        have b2 := e2 _ _ b1
        refine q_when (et_B (ev_cmp (ev_fld (ev_var rfl) b2 T.cl T.n_kind bF_kind) ev_c)) (fun c3 H3 e3 => ?_) fun c3 H3 e3 => ?_
        · have c3 := of_decide_eq_true c3
          refine s_retU (eu_df (xs := tri (Rug.metKnot L h W Hh x y)) (ea_cons (ev_var rfl) (ea_cons (ev_var rfl) (ea_cons (ev_var rfl) ea_nil))) fun H5 e5 Q' E' q' => ⟨b, kind, L, h, W, Hh, x, y, rfl, ⟨dx, e5 _ _ (e3 _ _ b2)⟩, hL, q'⟩) fun p H6 hp e6 h6 => RetU.go q ((e1.trans e2).trans e3) hp e6 h6 ?_
          unfold Rug.knotOf
          rw [if_neg n1, if_neg c2, if_pos c3]
        · have c3 := of_decide_eq_false c3
          refine s_retU (eu_df (xs := tri (Rug.runKnot L h W Hh x y)) (ea_cons (ev_var rfl) (ea_cons (ev_var rfl) (ea_cons (ev_var rfl) ea_nil))) fun H5 e5 Q' E' q' => ⟨b, kind, L, h, W, Hh, x, y, rfl, ⟨dx, e5 _ _ (e3 _ _ b2)⟩, hL, q'⟩) fun p H6 hp e6 h6 => RetU.go q ((e1.trans e2).trans e3) hp e6 h6 ?_
          unfold Rug.knotOf
          rw [if_neg n1, if_neg c2, if_neg c3]
end
/-! ### bytes, rows, charts in the heap -/
def vb (c : UInt8) : V := .int (Rug.bi c)
def RowsAt (H : Hp) (ps : List Addr) (rs : List (List UInt8)) : Prop := ps.length = rs.length ∧ ∀ (i : Nat) (p : Addr) (r : List UInt8), ps[i]? = some p → rs[i]? = some r → H p = some (.lst (r.map vb))
def ChartAt (H : Hp) (a : Addr) (rs : List (List UInt8)) : Prop := ∃ ps : List Addr, H a = some (.lst (ps.map V.ref)) ∧ RowsAt H ps rs
theorem RowsAt.ex {H H' : Hp} {ps : List Addr} {rs : List (List UInt8)} (h : RowsAt H ps rs) (e : Ex H H') : RowsAt H' ps rs := ⟨h.1, fun i p r h1 h2 => e _ _ (h.2 i p r h1 h2)⟩
theorem ChartAt.ex {H H' : Hp} {a : Addr} {rs : List (List UInt8)} (h : ChartAt H a rs) (e : Ex H H') : ChartAt H' a rs := let ⟨ps, h1, h2⟩ := h; ⟨ps, e _ _ h1, h2.ex e⟩
theorem RowsAt.nil {H : Hp} : RowsAt H [] [] := ⟨rfl, fun i p r h => by simp at h⟩
theorem RowsAt.snoc {H : Hp} {ps : List Addr} {rs : List (List UInt8)} {p : Addr} {r : List UInt8} (h : RowsAt H ps rs) (hp : H p = some (.lst (r.map vb))) : RowsAt H (ps ++ [p]) (rs ++ [r]) := by
  refine ⟨by rw [List.length_append, List.length_append, h.1]; rfl, fun i q c h1 h2 => ?_⟩
  rcases Nat.lt_or_ge i ps.length with lt | ge
  · rw [List.getElem?_append_left lt] at h1
    rw [List.getElem?_append_left (by rw [← h.1]; exact lt)] at h2
    exact h.2 i q c h1 h2
  · rw [List.getElem?_append_right ge] at h1
    rw [List.getElem?_append_right (by rw [← h.1]; exact ge)] at h2
    have z : i - ps.length = 0 := by
      have := (List.getElem?_eq_some_iff.mp h1).1
      simp only [List.length_cons, List.length_nil] at this
      omega
    rw [z] at h1
    rw [show i - rs.length = 0 by rw [← h.1]; exact z] at h2
    have h1 : p = q := Option.some.inj h1
    have h2 : r = c := Option.some.inj h2
    rw [← h1, ← h2]
    exact hp
theorem RowsAt.part {H : Hp} {ps : List Addr} {rs : List (List UInt8)} (h : RowsAt H ps rs) (y n : Nat) : RowsAt H ((ps.drop y).take n) ((rs.drop y).take n) := by
  refine ⟨by rw [List.length_take, List.length_take, List.length_drop, List.length_drop, h.1], fun i p r h1 h2 => ?_⟩
  rw [List.getElem?_take] at h1 h2
  split at h1
  · rename_i lt
    rw [if_pos lt] at h2
    rw [List.getElem?_drop] at h1 h2
    exact h.2 _ p r h1 h2
  · cases h1
theorem RowsAt.front {H : Hp} {ps qs : List Addr} {rs ts : List (List UInt8)} (h : RowsAt H (ps ++ qs) (rs ++ ts)) (e : ps.length = rs.length) : RowsAt H ps rs := by
  have z := h.part 0 ps.length
  rw [List.drop_zero, List.drop_zero, List.take_left, e, List.take_left] at z
  exact z
theorem RowsAt.get {H : Hp} {ps : List Addr} {rs : List (List UInt8)} (h : RowsAt H ps rs) {i : Nat} {r : List UInt8} (hr : rs[i]? = some r) : ∃ p, ps[i]? = some p ∧ H p = some (.lst (r.map vb)) := by
  have lt := (List.getElem?_eq_some_iff.mp hr).1
  exact ⟨_, List.getElem?_eq_getElem (by rw [h.1]; exact lt), h.2 i _ r (List.getElem?_eq_getElem (by rw [h.1]; exact lt)) hr⟩
/-- a chart's row by its number -/
theorem ChartAt.row {K : PySem.W.Frag} {H : Hp} {a : Addr} {rs : List (List UInt8)} (h : ChartAt H a rs) {y : Nat} {r : List UInt8} (hr : rs[y]? = some r) : ∃ (xs : List V) (p : Addr), SqL K H a xs ∧ xs.length = rs.length ∧ atI xs (y : Int) = some (.ref p) ∧ H p = some (.lst (r.map vb)) := by
  obtain ⟨ps, h1, h2⟩ := h
  obtain ⟨p, hp, hH⟩ := h2.get hr
  exact ⟨_, p, SqL.of h1, by rw [List.length_map, h2.1], atI_nat (by rw [List.getElem?_map, hp]; rfl), hH⟩
theorem ChartAt.len {K : PySem.W.Frag} {H : Hp} {a : Addr} {rs : List (List UInt8)} (h : ChartAt H a rs) : ∃ xs : List V, SqL K H a xs ∧ xs.length = rs.length := by
  obtain ⟨ps, h1, h2⟩ := h
  exact ⟨_, SqL.of h1, by rw [List.length_map, h2.1]⟩
theorem vb_at {K : PySem.W.Frag} {H : Hp} {p : Addr} {r : List UInt8} {x : Nat} {c : UInt8} (hp : H p = some (.lst (r.map vb))) (hc : r[x]? = some c) : SqL K H p (r.map vb) ∧ atI (r.map vb) (x : Int) = some (vb c) := ⟨SqL.of hp, atI_nat (by rw [List.getElem?_map, hc]; rfl)⟩
/-! ### lists compared with the empty one -/
def pdr (r : List UInt8) : PyData := .list (r.map fun c => PyData.int (Rug.bi c))
def pds (rs : List (List UInt8)) : PyData := .list (rs.map pdr)
theorem dpAll_row {K : PySem.W.Frag} {H : Hp} : ∀ r : List UInt8, DpAll K H (r.map vb) (r.map fun c => PyData.int (Rug.bi c))
  | [] => .nil
  | c :: r => .cons (.int _) (dpAll_row r)
theorem dp_row {K : PySem.W.Frag} {H : Hp} {p : Addr} {r : List UInt8} (h : SqL K H p (r.map vb)) : Dp K H (.ref p) (pdr r) := .lst h (dpAll_row r)
theorem dpAll_rows {K : PySem.W.Frag} {H : Hp} : ∀ (ps : List Addr) (rs : List (List UInt8)), RowsAt H ps rs → DpAll K H (ps.map V.ref) (rs.map pdr)
  | [], [], _ => .nil
  | [], r :: rs, h => by have := h.1; simp at this
  | p :: ps, [], h => by have := h.1; simp at this
  | p :: ps, r :: rs, h => .cons (dp_row (SqL.of (h.2 0 p r rfl rfl))) (dpAll_rows ps rs ⟨by have := h.1; simp only [List.length_cons] at this; omega, fun i q c h1 h2 => h.2 (i + 1) q c h1 h2⟩)
theorem dp_rows {K : PySem.W.Frag} {H : Hp} {a : Addr} {rs : List (List UInt8)} (h : ChartAt H a rs) : Dp K H (.ref a) (pds rs) := let ⟨_, h1, h2⟩ := h; .lst (SqL.of h1) (dpAll_rows _ _ h2)
theorem dp_nil {K : PySem.W.Frag} {H : Hp} {p : Addr} (h : H p = some (.lst [])) : Dp K H (.ref p) (.list []) := .lst (SqL.of h) .nil
theorem canLay_ints : ∀ r : List UInt8, PyData.canLayAll0 (r.map fun c => PyData.int (Rug.bi c)) = true
  | [] => rfl
  | c :: r => by
    rw [List.map_cons]
    simp [PyData.canLayAll0, PyData.canLay0, canLay_ints r]
theorem canLay_rows : ∀ rs : List (List UInt8), PyData.canLayAll0 (rs.map pdr) = true
  | [] => rfl
  | r :: rs => by
    rw [List.map_cons]
    have := canLay_ints r
    simp [PyData.canLayAll0, PyData.canLay0, pdr, canLay_rows rs, this]
theorem depth_ints : ∀ r : List UInt8, PyData.depthAll (r.map fun c => PyData.int (Rug.bi c)) ≤ 1
  | [] => by simp [PyData.depthAll]
  | c :: r => by
    have := depth_ints r
    rw [List.map_cons]
    simp only [PyData.depthAll, PyData.depth]
    omega
theorem depth_rows : ∀ rs : List (List UInt8), PyData.depthAll (rs.map pdr) ≤ 3
  | [] => by simp [PyData.depthAll]
  | r :: rs => by
    have h1 := depth_rows rs
    have h2 := depth_ints r
    rw [List.map_cons]
    simp only [PyData.depthAll, pdr, PyData.depth]
    omega
theorem shaped_row (r : List UInt8) : SeqAt.shaped (pdr r) = true := by
  unfold SeqAt.shaped
  have h1 := canLay_ints r
  have h2 := depth_ints r
  rw [Bool.and_eq_true]
  refine ⟨by simp [PyData.canLay0, pdr, h1], decide_eq_true ?_⟩
  simp only [pdr, PyData.depth]
  omega
theorem shaped_rows (rs : List (List UInt8)) : SeqAt.shaped (pds rs) = true := by
  unfold SeqAt.shaped
  have h1 := canLay_rows rs
  have h2 := depth_rows rs
  rw [Bool.and_eq_true]
  refine ⟨by simp [PyData.canLay0, pds, h1], decide_eq_true ?_⟩
  simp only [pds, PyData.depth]
  omega
theorem eqv_nil (ds : List PyData) : PyData.eqv (.list ds) (.list []) = ds.isEmpty := by
  cases ds <;> simp [PyData.eqv, PyData.eqvAll]
/-! ### a chart read from its text -/
def spIsColour : Sp := fun vs H Q _ => ∃ c : UInt8, vs = [vb c] ∧ RetV (.bl (Rug.isCol c)) H Q
theorem sc_is_colour : FnScope ["byte"] ["byte"] (defScope s_is_colour) := ⟨rfl, rfl, rfl, by decide +kernel, rfl, by decide +kernel, by decide +kernel⟩
def spRowsOf (K : PySem.W.Frag) : Sp := fun vs H Q _ => ∃ (a : Addr) (b : List UInt8), vs = [.ref a] ∧ SqL K H a (b.map vb) ∧ b.length ≤ 66048 ∧ ∀ p H', H p = none → Ex H H' → ChartAt H' p (Rug.rows b) → Q (.ref p) H'
theorem sc_rows_of : FnScope ["text", "rows", "byte"] ["text"] (defScope s_rows_of) := ⟨rfl, rfl, rfl, by decide +kernel, rfl, by decide +kernel, by decide +kernel⟩
def spIsRight : Sp := fun vs H Q _ => ∃ (a : Addr) (rs : List (List UInt8)), vs = [.ref a] ∧ ChartAt H a rs ∧ (∀ r ∈ rs, r.length ≤ 70000) ∧ RetV (.bl (Rug.isRight rs)) H Q
theorem sc_is_right : FnScope ["rows", "wide", "row", "byte"] ["rows"] (defScope s_is_right) := ⟨rfl, rfl, rfl, by decide +kernel, rfl, by decide +kernel, by decide +kernel⟩
def spReadChart (K : PySem.W.Frag) (C : Addr) : Sp := fun vs H Q E => ∃ (a : Addr) (b : List UInt8), vs = [.ref a] ∧ SqL K H a (b.map vb) ∧ b.length ≤ 66048 ∧ (Rug.readChart b = none → Rz C (-6) H E) ∧
  (∀ rs, Rug.readChart b = some rs → ∀ p H', H p = none → Ex H H' → ChartAt H' p rs → Q (.ref p) H')
theorem sc_read_chart : FnScope ["text", "rows"] ["text"] (defScope s_read_chart) := ⟨rfl, rfl, rfl, by decide +kernel, rfl, by decide +kernel, by decide +kernel⟩
theorem cut_front {α : Type} {xs : List α} {v : α} {f : α → V} : cutV ((xs ++ [v]).map f) none (some (-1)) = xs.map f := by
  unfold cutV
  rw [HT.sIx_none]
  have : HT.sIx ((xs ++ [v]).map f).length ((xs ++ [v]).map f).length (some (-1)) = xs.length := by
    show (if (-1 : Int) < 0 then ((-1 : Int) + (((xs ++ [v]).map f).length : Int)).toNat else min (-1 : Int).toNat ((xs ++ [v]).map f).length) = xs.length
    rw [if_pos (by decide), List.length_map, List.length_append]
    simp only [List.length_cons, List.length_nil]
    omega
  rw [this, List.drop_zero, Nat.sub_zero, List.map_append, List.take_left' (by rw [List.length_map])]
section
variable {P : Program} {w : World} {K : PySem.W.Frag} {mg : Str → Option Value} {base : Heap} {C fI B fB fS : Addr}
theorem ok_is_colour (T : Txt K mg C fI B fB fS) : Df P w K mg base CX0 1 "is_colour" ["byte"] spIsColour := by
  obtain ⟨f, fd, hf, F⟩ := T.d_is_colour.ex
  refine ⟨f, fd, hf, F.kp, F.binds fun _ _ _ _ _ _ us hl => match us, hl with | [_], _ => rfl, F.ok sc_is_colour (fun vs H Q E h => ?_) (fun cdv A outer s H vs Q E hr h => ⟨_,
    pss_one (ps_ret (pe_or (pe_chain op_le op_le pe_int (pv 0) pe_int) (pe_or (pe_chain op_le op_le pe_int (pv 0) pe_int) (pe_one (pe_chain op_le op_le pe_int (pv 0) pe_int))))), ?_⟩)⟩
  · obtain ⟨c, rfl, _⟩ := h
    rfl
  · obtain ⟨c, rfl, q⟩ := h
    have e : Rug.isCol c = ((decide (97 ≤ Rug.bi c) && decide (Rug.bi c ≤ 122)) || ((decide (65 ≤ Rug.bi c) && decide (Rug.bi c ≤ 90)) || (decide (48 ≤ Rug.bi c) && decide (Rug.bi c ≤ 57)))) := Bool.or_assoc _ _ _
    rw [e] at q
    refine s_ret (ev_orV (ev_chain _ ev_c (ev_var rfl) rv_I0 ev_c (fun _ => rv_I0) rfl) fun _ => ev_orV (ev_chain _ ev_c (ev_var rfl) rv_I0 ev_c (fun _ => rv_I0) rfl) fun _ => ev_chain _ ev_c (ev_var rfl) rv_I0 ev_c (fun _ => rv_I0) rfl) fun H1 e1 => q H1 e1
theorem ok_rows_of (T : Txt K mg C fI B fB fS) : Df P w K mg base CX0 1 "rows_of" ["text"] (spRowsOf K) := by
  obtain ⟨f, fd, hf, F⟩ := T.d_rows_of.ex
  refine ⟨f, fd, hf, F.kp, F.binds fun _ _ _ _ _ _ us hl => match us, hl with | [_], _ => rfl, F.ok sc_rows_of (fun vs H Q E h => ?_) (fun cdv A outer s H vs Q E hr h => ⟨_,
    pss_cons (ps_set (i := 1) sc_rows_of.nd rfl (Or.inl rfl) (pe_lst (pa_cons (pe_lst pa_nil) pa_nil)))
    (pss_cons (ps_for PassesOwn.never rfl (pi_list (pv 0)) (pg_name (i := 2) sc_rows_of.nd rfl (Or.inl rfl))
      (pss_one (ps_if (pt_cmp (pc_eqI (pv 2) (pe_gint rfl T.g_LINE_END)) (nomark _))
        (pss_one (ps_expr (pe_bm PySem.F.plainAttrs_list PySem.F.slot_list_append PySem.F.type_list_append mt_append (pv 1) (pa_cons (pe_lst pa_nil) pa_nil))))
        (pss_one (ps_expr (pe_bm PySem.F.plainAttrs_list PySem.F.slot_list_append PySem.F.type_list_append mt_append (pe_ix ix_list (pv 1) (pe_un un_neg pe_int) (fun _ _ => rfl)) (pa_cons (pv 2) pa_nil)))))))
    (pss_one (ps_ret (pv 1)))), ?_⟩)⟩
  · obtain ⟨a, b, rfl, _⟩ := h
    rfl
  · obtain ⟨a, b, rfl, hS, hz, q⟩ := h
    refine ⟨(by show 0 ≤ sizeLine; decide), fun p0 hp0 => ⟨(by show 1 ≤ sizeLine; decide), fun l hl => ?_⟩⟩
    have e0 : Ex H (upd H p0 (.lst [])) := same_upd hp0
    have nl : H l = none := fresh_back e0 hl
    have n0 : p0 ≠ l := fun z => by rw [← z, upd_same] at hl; cases hl
    refine q_forL (ev_var rfl) (Same.seq (e0.trans (same_upd hl)) hS)
      (fun i σ H' => ∃ (v : Option V) (ps : List Addr) (p : Addr) (rs : List (List UInt8)) (r : List UInt8), σ = [some (.ref a), some (.ref l), v] ∧ Ex H H' ∧ Rug.rows (b.take i) = rs ++ [r] ∧ H' l = some (.lst ((ps ++ [p]).map V.ref)) ∧ RowsAt H' (ps ++ [p]) (rs ++ [r]) ∧
        ps.length = rs.length ∧ (∀ x ∈ ps ++ [p], H x = none) ∧ l ∉ ps ++ [p] ∧ p ∉ ps)
      (fun H1 e1 => ⟨none, [], p0, [], [], rfl, (e0.trans (same_upd hl)).trans e1, rfl, e1 _ _ upd_same, RowsAt.snoc .nil (e1 _ _ (by rw [upd_ne n0]; exact upd_same)), rfl, fun x hx => ?_, ?_, ?_⟩) (fun i σ' H' _ ⟨_, _, _, _, _, _, e, _⟩ => Same.seq e hS) ?_ ?_
    · have : x = p0 := by simpa using hx
      rw [this]
      exact hp0
    · simp only [List.nil_append, List.mem_singleton]
      exact fun z => n0 z.symm
    · exact fun z => nomatch z
    · rintro i x σ' H' hi ⟨v, ps, p, rs, r, rfl, e, er, hl', hR, elen, hnew, hnl, hnp⟩
      obtain ⟨c, hc, rfl⟩ := get_map hi
      have hlt := (List.getElem?_eq_some_iff.mp hc).1
      have e1 : Rug.rows (b.take (i + 1)) = Rug.step (rs ++ [r]) c := by rw [take_more hc, Rug.rows_snoc, er]
      have len1 : (rs ++ [r]).length ≤ 66049 := by
        have := Rug.rows_len (b.take i)
        rw [er, List.length_take] at this
        omega
      have lenr : r.length ≤ 66048 := by
        have := Rug.rows_each (b.take i) r (by rw [er]; simp)
        rw [List.length_take] at this
        omega
      have hp : H' p = some (.lst (r.map vb)) := hR.2 ps.length p r (by simp) (by rw [elen]; simp)
      have hf := hR.front elen
      have lenp : ((ps ++ [p]).map V.ref).length < 100000 := by
        rw [List.length_map, hR.1]
        omega
      refine ⟨_, rfl, _, _, rfl, rfl, _, rfl, iteD (fun d => ?_) fun d => ?_⟩
      · have d : c = 10 := (Rug.bi_ten c).mp d
        have e2 : Rug.rows (b.take (i + 1)) = (rs ++ [r]) ++ [[]] := by
          rw [e1]
          unfold Rug.step
          rw [if_pos d]
        refine ⟨_, rfl, .inl ⟨rfl, _, SqL.of hl'⟩, (by show 0 ≤ sizeLine; decide), fun p2 hp2 => ?_⟩
        have n2l : l ≠ p2 := fun z => by rw [← z, hl'] at hp2; cases hp2
        refine ⟨l, _, _, rfl, rfl, by rw [upd_ne n2l]; exact hl', sz_lt lenp, ?_⟩
        have keep : ∀ y o, y ≠ l → H' y = some o → upd (upd H' p2 (.lst [])) l (.lst ((ps ++ [p]).map V.ref ++ [.ref p2])) y = some o := fun y o hy q1 => by
          rw [upd_ne hy]
          exact (same_upd hp2) _ _ q1
        have n2 : p2 ∉ ps ++ [p] := fun m => by
          obtain ⟨j, hj⟩ := List.getElem?_of_mem m
          have jl := (List.getElem?_eq_some_iff.mp hj).1
          have := hR.2 j p2 _ hj (List.getElem?_eq_getElem (by rw [← hR.1]; exact jl))
          rw [this] at hp2
          cases hp2
        refine ⟨_, ps ++ [p], p2, rs ++ [r], [], rfl, fun y o q1 => keep y o (fun z => by rw [z, nl] at q1; cases q1) (e _ _ q1), e2, ?_, ?_, hR.1, fun y hy => ?_, fun m => ?_, n2⟩
        · rw [upd_same, List.map_append (l₁ := ps ++ [p])]
          rfl
        · refine RowsAt.snoc ⟨hR.1, fun j y t h1 h2 => keep _ _ (fun z => hnl (by rw [← z]; exact List.mem_of_getElem? h1)) (hR.2 j y t h1 h2)⟩ ?_
          rw [upd_ne (Ne.symm n2l)]
          exact upd_same
        · rcases List.mem_append.mp hy with hy | hy
          · exact hnew y hy
          · have : y = p2 := by simpa using hy
            rw [this]
            exact fresh_back e hp2
        · rcases List.mem_append.mp m with m | m
          · exact hnl m
          · exact n2l (by simpa using m)
      · have d : c ≠ 10 := fun z => d ((Rug.bi_ten c).mpr z)
        have e2 : Rug.rows (b.take (i + 1)) = rs ++ [r ++ [c]] := by
          rw [e1]
          unfold Rug.step
          rw [if_neg d, List.dropLast_concat, List.getLastD_concat]
        refine ⟨_, rfl, _, rfl, l, _, _, V.ref p, rfl, rfl, SqL.of hl', (by rw [List.map_append]; exact atI_last _ _), .inl ⟨rfl, _, SqL.of hp⟩, _, rfl, ?_⟩
        refine ⟨p, _, _, rfl, rfl, hp, sz_lt (by rw [List.length_map]; omega), ?_⟩
        have np : H p = none := hnew p (by simp)
        have nlp : l ≠ p := fun z => hnl (by rw [z]; simp)
        refine ⟨_, ps, p, rs, r ++ [c], rfl, fun y o q1 => ?_, e2, ?_, ?_, elen, hnew, hnl, hnp⟩
        · rw [upd_ne (fun z => by rw [z, np] at q1; cases q1)]
          exact e _ _ q1
        · rw [upd_ne nlp]
          exact hl'
        · refine RowsAt.snoc ⟨elen, fun j y t h1 h2 => ?_⟩ ?_
          · rw [upd_ne (fun z => hnp (by rw [← z]; exact List.mem_of_getElem? h1))]
            exact hf.2 j y t h1 h2
          · rw [upd_same, List.map_append]
            rfl
    · rintro σ' H' ⟨v, ps, p, rs, r, rfl, e, er, hl', hR, elen, hnew, hnl, hnp⟩
      rw [List.length_map, List.take_length] at er
      rw [er] at q
      exact ⟨_, rfl, q l H' nl e ⟨_, hl', hR⟩⟩
end
/-! ### whether rows are a chart's; the chart of a text -/
theorem given_all {α : Type} (l : List α) (d : α) (g : α → V) : given l.length (fun _ => true) (fun i => g (l.getD i d)) = l.map g := by
  unfold given
  rw [List.filter_eq_self.mpr fun _ _ => rfl]
  refine List.ext_getElem (by simp) fun i h1 h2 => ?_
  simp only [List.length_map] at h2
  simp only [List.getElem_map, List.getElem_range, List.getD_eq_getElem?_getD, List.getElem?_eq_getElem h2, Option.getD_some]
section
variable {K : PySem.W.Frag} {σ : L2.St} {H : Hp} {te : TE}
theorem ev_all {bs : List Bool} (h : EvL te σ H (bs.map V.bl)) : Ev (tCB (rAll K) (tCons te tNil)) σ H (.bl (bs.all id)) := fun H1 e _ q =>
  h H1 e _ fun p H2 _ e2 h2 => ⟨p, bs, rfl, SqL.of h2, q H2 e2⟩
theorem et_yes : EvT tYes σ H true := fun H1 _ _ q => q H1 (Ex.refl H1)
end
section
variable {P : Program} {w : World} {K : PySem.W.Frag} {mg : Str → Option Value} {base : Heap} {C fI B fB fS : Addr}
theorem ok_is_right (T : Txt K mg C fI B fB fS) : Df P w K mg base CX0 3 "is_right" ["rows"] spIsRight := by
  obtain ⟨f, fd, hf, F⟩ := T.d_is_right.ex
  refine ⟨f, fd, hf, F.kp, F.binds fun _ _ _ _ _ _ us hl => match us, hl with | [_], _ => rfl, F.ok sc_is_right (fun vs H Q E h => ?_) (fun cdv A outer s H vs Q E hr h => ⟨_,
    pss_cons (ps_if (pt_not (pt_chain op_le op_le pe_int (pe_callB call_len_seq (by rfl) T.b_len PySem.boot_len (pa_cons (pv 0) pa_nil)) (pe_gint rfl T.g_MOST_SIDE))) (pss_one (ps_ret pe_bl)) pss_nil)
    (pss_cons (ps_set (i := 1) sc_is_right.nd rfl (Or.inl rfl) (pe_callB call_len_seq (by rfl) T.b_len PySem.boot_len (pa_cons (pe_ix ix_list (pv 0) pe_int (fun _ _ => rfl)) pa_nil)))
    (pss_cons (ps_if (PW.pt (pw_or (pt_not (pt_chain op_le op_le pe_int (pv 1) (pe_gint rfl T.g_MOST_SIDE))) (pw_or1 (pt_cmpR op_gt (pe_op op_mul (pv 1) (pe_callB call_len_seq (by rfl) T.b_len PySem.boot_len (pa_cons (pv 0) pa_nil))) (pe_gint rfl T.g_MOST_KNOTS) (nomark _))))) (pss_one (ps_ret pe_bl)) pss_nil)
    (pss_cons (ps_for PassesOwn.never rfl (pi_list (pv 0)) (pg_name (i := 2) sc_is_right.nd rfl (Or.inl rfl))
      (pss_one (ps_if (PW.pt (pw_or (pt_cmp (pc_neI (pe_callB call_len_seq (by rfl) T.b_len PySem.boot_len (pa_cons (pv 2) pa_nil)) (pv 1)) (nomark _)) (pw_or1 (pt_not (pt_val (pe_callB (cr_all rfl) (by rfl) T.b_all (by decide +kernel) (pa_cons
        (pe_lc (own := [("byte", 3)]) (g := gName 3) (tt := tYes) (te := tCallS spIsColour (fun _ => E0) (tCons (tVar 3) tNil)) rfl sc_is_right.nd (pi_list (pv 2)) (blkOk_by (N := ["rows", "wide", "row", "byte"]) (sc := defScope s_is_right) (by decide +kernel))
          (fun _ _ _ _ _ => pg_name (i := 3) sc_is_right.nd rfl (Or.inl rfl)) (fun _ _ _ _ _ => pts_nil) (fun _ _ _ _ _ => pe_df (ok_is_colour T) (hr.mono (by decide)) rfl (by exact pa_cons (pv 3) pa_nil))) pa_nil))))))) (pss_one (ps_ret pe_bl)) pss_nil)))
    (pss_one (ps_ret pe_bl))))), ?_⟩)⟩
  · obtain ⟨a, rs, rfl, _⟩ := h
    rfl
  · obtain ⟨a, rs, rfl, hC, hz, q⟩ := h
    obtain ⟨xs, hx, lx⟩ := hC.len (K := K)
    have lN : ((xs.length : Nat) : Int) = (rs.length : Int) := by rw [lx]
    have eR : Rug.isRight rs = (decide (1 ≤ rs.length) && decide (rs.length ≤ 512) && (decide (1 ≤ (rs.headD []).length) && decide ((rs.headD []).length ≤ 512)) && decide ((rs.headD []).length * rs.length ≤ 65536) &&
      rs.all fun r => decide (r.length = (rs.headD []).length) && r.all Rug.isCol) := rfl
    have n1 : decide ((1 : Int) ≤ (rs.length : Int)) = decide (1 ≤ rs.length) := decide_eq_decide.mpr (by omega)
    have n2 : decide ((rs.length : Int) ≤ 512) = decide (rs.length ≤ 512) := decide_eq_decide.mpr (by omega)
    refine q_when (et_not (et_test (ev_chain (w := .bl (decide (1 ≤ rs.length) && decide (rs.length ≤ 512))) _ ev_c (ev_len (ev_var rfl) hx) rv_I0 ev_c (fun _ => rv_I0) (by rw [lN, n1, n2])))) (fun c H1 e1 => ?_) fun c H1 e1 => ?_
    · rw [Bool.not_eq_true'] at c
      rw [c] at eR
      rw [eR] at q
      exact s_ret ev_c fun H2 e2 => q H2 (e1.trans e2)
    · rw [Bool.not_eq_false'] at c
      rw [c, Bool.true_and] at eR
      simp only [Bool.and_eq_true, decide_eq_true_eq] at c
      obtain ⟨r0, hr0⟩ : ∃ r0, rs[0]? = some r0 := ⟨_, List.getElem?_eq_getElem (by omega)⟩
      have hd : rs.headD [] = r0 := by
        cases rs with
        | nil => simp at hr0
        | cons r l => exact Option.some.inj hr0
      rw [hd] at eR
      have hC1 := hC.ex e1
      obtain ⟨ys, p0, hy, ly, h0, hp0⟩ := hC1.row (K := K) hr0
      refine q_asg (v := .int (r0.length : Int)) (ev_is (ev_len (ev_op (ev_var rfl) ev_c (rv_ixL hy h0)) (SqL.of hp0)) (by rw [List.length_map])) fun H2 e2 => ?_
      have hx2 := Same.seq (e1.trans e2) hx
      have m1 : decide ((1 : Int) ≤ (r0.length : Int)) = decide (1 ≤ r0.length) := decide_eq_decide.mpr (by omega)
      have m2 : decide ((r0.length : Int) ≤ 512) = decide (r0.length ≤ 512) := decide_eq_decide.mpr (by omega)
      have mul : (r0.length : Int) * (rs.length : Int) = ((r0.length * rs.length : Nat) : Int) := by rw [Int.natCast_mul]
      have b0 : r0.length ≤ 70000 := hz r0 (List.mem_of_getElem? hr0)
      refine q_when (b := (!(decide (1 ≤ r0.length) && decide (r0.length ≤ 512))) || !decide (r0.length * rs.length ≤ 65536)) (et_or (et_not (et_test (ev_chain _ ev_c (ev_var rfl) rv_I0 ev_c (fun _ => rv_I0) (by rw [m1, m2]))))
        fun _ => et_test (ev_is (ev_op (ev_op (ev_var rfl) (ev_len (ev_var rfl) hx2) (rv_I (.inl ⟨by omega, by omega⟩))) ev_c rv_I0) (by
          rw [lN, mul]
          congr 1
          rw [← decide_not]
          exact decide_eq_decide.mpr (by omega)))) (fun c2 H3 e3 => ?_) fun c2 H3 e3 => ?_
      · have : (decide (1 ≤ r0.length) && decide (r0.length ≤ 512) && decide (r0.length * rs.length ≤ 65536)) = false := by
          rw [Bool.or_eq_true, Bool.not_eq_true', Bool.not_eq_true'] at c2
          rw [Bool.and_eq_false_iff]
          exact c2
        rw [this, Bool.false_and] at eR
        rw [eR] at q
        exact s_ret ev_c fun H4 e4 => q H4 (((e1.trans e2).trans e3).trans e4)
      · rw [Bool.or_eq_false_iff, Bool.not_eq_false', Bool.not_eq_false'] at c2
        rw [c2.1, c2.2, Bool.true_and, Bool.true_and] at eR
        have w512 : r0.length ≤ 512 := by
          have := c2.1
          simp only [Bool.and_eq_true, decide_eq_true_eq] at this
          exact this.2
        have e03 := (e1.trans e2).trans e3
        obtain ⟨ps, ha, hR⟩ := hC
        refine q_forL (ev_var rfl) (SqL.of (e03 _ _ ha)) (fun i σ H' => ∃ v : Option V, σ = [some (.ref a), some (.int (r0.length : Int)), v, none] ∧ Ex H H' ∧ ((rs.take i).all fun r => decide (r.length = r0.length) && r.all Rug.isCol) = true)
          (fun H4 e4 => ⟨none, rfl, e03.trans e4, rfl⟩) (fun i σ' H' _ ⟨_, _, e, _⟩ => SqL.of (e _ _ ha)) ?_ ?_
        · rintro i x σ' H' hi ⟨v, rfl, e, ok⟩
          obtain ⟨p, hp, rfl⟩ := get_map hi
          have hlt := (List.getElem?_eq_some_iff.mp hp).1
          obtain ⟨r, hri⟩ : ∃ r, rs[i]? = some r := ⟨_, List.getElem?_eq_getElem (by rw [← hR.1]; exact hlt)⟩
          have hpr := e _ _ (hR.2 i p r hp hri)
          have bad : (decide (r.length = r0.length) && r.all Rug.isCol) = false → Rug.isRight rs = false := fun b => by
            rw [eR]
            cases z : rs.all fun r => decide (r.length = r0.length) && r.all Rug.isCol with
            | false => rfl
            | true =>
              have := List.all_eq_true.mp z r (List.mem_of_getElem? hri)
              rw [b] at this
              cases this
          have k1 : decide (((r.map vb).length : Int) = (r0.length : Int)) = decide (r.length = r0.length) := decide_eq_decide.mpr (by rw [List.length_map]; omega)
          refine s_when (b := (!decide (r.length = r0.length)) || !(r.all Rug.isCol)) (et_or (et_B (ev_is (ev_cmp (ev_len (ev_var rfl) (SqL.of hpr)) (ev_var rfl)) (by rw [k1]))) fun kk => ?_) (fun c3 H4 e4 => ?_) fun c3 H4 e4 => ?_
          · rw [Bool.not_eq_false'] at kk
            have kk := of_decide_eq_true kk
            have g := el_lcL (K := K) (σ := [some (.ref a), some (.int (r0.length : Int)), some (.ref p), none]) (te := tCallS spIsColour (fun _ => E0) (tCons (tVar 3) tNil)) (t := tYes) (j := 3) (vs := [3]) (fun _ => true) (fun i => V.bl (Rug.isCol (r.getD i 0))) (ev_var (i := 2) rfl) (SqL.of hpr) (by rw [List.length_map]; omega) (fun _ => rfl)
              (fun _ _ H5 _ _ => et_yes) (fun i x H5 e5 hx5 _ => by
                obtain ⟨c5, hc5, rfl⟩ := get_map hx5
                rw [List.getD_eq_getElem?_getD, hc5, Option.getD_some]
                exact ev_df (ea_cons (ev_var rfl) ea_nil) fun H6 e6 Q' E' q' => ⟨c5, rfl, q'⟩)
            rw [List.length_map, given_all r 0 (fun c => V.bl (Rug.isCol c))] at g
            rw [show r.map (fun c => V.bl (Rug.isCol c)) = (r.map Rug.isCol).map V.bl by rw [List.map_map]; rfl] at g
            refine et_not (et_B (ev_is (ev_all g) ?_))
            congr 1
            rw [List.all_map]
            rfl
          · rw [bad (by
              rw [Bool.or_eq_true, Bool.not_eq_true', Bool.not_eq_true'] at c3
              rw [Bool.and_eq_false_iff]
              exact c3)] at q
            exact s_ret ev_c fun H5 e5 => q H5 ((e.trans e4).trans e5)
          · refine ⟨_, rfl, e.trans e4, ?_⟩
            rw [Bool.or_eq_false_iff, Bool.not_eq_false', Bool.not_eq_false'] at c3
            rw [take_more hri, List.all_append, ok, Bool.true_and]
            simp only [List.all_cons, List.all_nil, Bool.and_true]
            rw [c3.1, c3.2]
            rfl
        · rintro σ' H' ⟨v, rfl, e, ok⟩
          rw [List.length_map, hR.1, List.take_length] at ok
          rw [eR, ok] at q
          exact q H' e
theorem ok_read_chart (T : Txt K mg C fI B fB fS) : Df P w K mg base (L2.CX P w) 6 "read_chart" ["text"] (spReadChart K C) := by
  obtain ⟨f, fd, hf, F⟩ := T.d_read_chart.ex
  refine ⟨f, fd, hf, F.kp, F.binds fun _ _ _ _ _ _ us hl => match us, hl with | [_], _ => rfl, F.okX sc_read_chart (fun vs H Q E h => ?_) (fun cdv A outer s H vs Q E hr h => ⟨_,
    pss_cons (ps_set (i := 1) sc_read_chart.nd rfl (Or.inl rfl) (pe_df (ok_rows_of T) (hr.mono (by decide)) rfl (by exact pa_cons (pv 0) pa_nil)))
    (pss_cons (ps_if (PW.pt (pw_or (pt_cmpR (op_neD hr.units) (pe_ix ix_list (pv 1) (pe_un un_neg pe_int) (fun _ _ => rfl)) (pe_lst pa_nil) (nomark _))
        (pw_or1 (pt_not (pt_val (pe_df (ok_is_right T) (hr.mono (by decide)) rfl (by exact pa_cons (pe_slice sl_list (pv 1) po_none (po_some (pe_un un_neg pe_int))) pa_nil)))))))
      (pss_one (ps_raiseRef rfl T.ref hr (takes_of rfl rfl rfl rfl) (by exact pa_cons (pe_un un_neg pe_int) pa_nil))) pss_nil)
    (pss_one (ps_ret (pe_slice sl_list (pv 1) po_none (po_some (pe_un un_neg pe_int)))))), ?_⟩)⟩
  · obtain ⟨a, b, rfl, _⟩ := h
    rfl
  · obtain ⟨a, b, rfl, hS, hz, h1, h2⟩ := h
    refine ⟨_, rfl, a, b, rfl, hS, hz, fun l H1 hl e1 hC => ?_⟩
    obtain ⟨ps, hl1, hR⟩ := hC
    -- the rows: all but the last, and the last
    obtain ⟨rs, r, er⟩ : ∃ rs r, Rug.rows b = rs ++ [r] := ⟨(Rug.rows b).dropLast, (Rug.rows b).getLast (Rug.rows_ne b), (List.dropLast_concat_getLast (Rug.rows_ne b)).symm⟩
    rw [er] at hR
    obtain ⟨qs, p, rfl⟩ : ∃ qs p, ps = qs ++ [p] := by
      have hne : ps ≠ [] := fun z => by
        have := hR.1
        rw [z, List.length_append] at this
        simp at this
      exact ⟨ps.dropLast, ps.getLast hne, (List.dropLast_concat_getLast hne).symm⟩
    have el : qs.length = rs.length := by
      have := hR.1
      rw [List.length_append, List.length_append] at this
      simpa using this
    have hf := hR.front el
    have hp : H1 p = some (.lst (r.map vb)) := hR.2 qs.length p r (by simp) (by rw [el]; simp)
    have eC : Rug.readChart b = if r ≠ [] ∨ Rug.isRight rs = false then none else some rs := by
      unfold Rug.readChart
      rw [er, List.getLastD_concat, List.dropLast_concat]
    have small : ∀ t ∈ rs, t.length ≤ 70000 := fun t ht => by
      have := Rug.rows_each b t (by rw [er]; exact List.mem_append_left _ ht)
      omega
    refine ⟨_, rfl, _, rfl, l, _, _, V.ref p, rfl, rfl, SqL.of hl1, (by rw [List.map_append]; exact atI_last _ _), (by show 0 ≤ sizeLine; decide), fun p2 hp2 => ?_⟩
    have e2 : Ex H1 (upd H1 p2 (.lst [])) := same_upd hp2
    refine ⟨pdr r, .list [], dp_row (SqL.of (e2 _ _ hp)), dp_nil upd_same, shaped_row r, shaped_row [], _, rfl, ?_⟩
    have ev : (!PyData.eqv (pdr r) (.list [])) = !r.isEmpty := by
      show (!PyData.eqv (.list (r.map fun c => PyData.int (Rug.bi c))) (.list [])) = _
      rw [eqv_nil]
      cases r <;> rfl
    rw [ev]
    refine iteB (fun c => ?_) fun c => ?_
    · have nz : r ≠ [] := fun z => absurd c (by rw [z]; decide)
      have hn : Rug.readChart b = none := by rw [eC, if_pos (.inl nz)]
      refine iteT ?_
      exact ⟨_, rfl, _, rfl, ((h1 hn).same (e1.trans e2)).new⟩
    · have hr0 : r = [] := by
        cases r with
        | nil => rfl
        | cons x y => cases c
      refine ⟨_, rfl, _, rfl, _, rfl, l, _, rfl, SqL.of (e2 _ _ hl1), fun p3 hp3 => ?_⟩
      have e3 := e2.trans (same_upd (o := .lst (cutV ((qs ++ [p]).map V.ref) none (some (-1)))) hp3)
      have hC3 : ChartAt (upd (upd H1 p2 (.lst [])) p3 (.lst (cutV ((qs ++ [p]).map V.ref) none (some (-1))))) p3 rs := ⟨qs, by rw [upd_same, cut_front], hf.ex e3⟩
      refine ⟨p3, rs, rfl, hC3, small, fun H4 e4 => ⟨_, rfl, ?_⟩⟩
      cases d : Rug.isRight rs with
      | false =>
        have hn : Rug.readChart b = none := by rw [eC, if_pos (.inr d)]
        refine iteT ?_
        exact ⟨_, rfl, _, rfl, ((h1 hn).same ((e1.trans e3).trans e4)).new⟩
      | true =>
        have hs : Rug.readChart b = some rs := by
          rw [eC, if_neg]
          rintro (z | z)
          · exact z hr0
          · exact Bool.noConfusion (d.symm.trans z)
        refine iteF ?_
        refine ⟨_, rfl, _, rfl, _, rfl, l, _, rfl, SqL.of ((e3.trans e4) _ _ hl1), fun p5 hp5 => ?_⟩
        have e5 := ((e1.trans e3).trans e4).trans (same_upd (o := .lst (cutV ((qs ++ [p]).map V.ref) none (some (-1)))) hp5)
        exact h2 rs hs p5 _ (fresh_back ((e1.trans e3).trans e4) hp5) e5 ⟨qs, by rw [upd_same, cut_front], hf.ex ((e3.trans e4).trans (same_upd hp5))⟩
end
/-! ### a chart told as a text; a part of a chart -/
def spChartText : Sp := fun vs H Q _ => ∃ (a : Addr) (rs : List (List UInt8)), vs = [.ref a] ∧ ChartAt H a rs ∧ (Rug.txt rs).length ≤ 90000 ∧ RetL ((Rug.txt rs).map vb) H Q
theorem sc_chart_text : FnScope ["rows", "text", "row"] ["rows"] (defScope s_chart_text) := ⟨rfl, rfl, rfl, by decide +kernel, rfl, by decide +kernel, by decide +kernel⟩
theorem txt_take (rs : List (List UInt8)) (i : Nat) : (Rug.txt (rs.take i)).length ≤ (Rug.txt rs).length := by
  have e : Rug.txt rs = Rug.txt (rs.take i) ++ Rug.txt (rs.drop i) := by rw [← Rug.txt_append, List.take_append_drop]
  rw [e, List.length_append]
  omega
section
variable {P : Program} {w : World} {K : PySem.W.Frag} {mg : Str → Option Value} {base : Heap} {C fI B fB fS : Addr}
theorem ok_chart_text (T : Txt K mg C fI B fB fS) : Df P w K mg base CX0 1 "chart_text" ["rows"] spChartText := by
  obtain ⟨f, fd, hf, F⟩ := T.d_chart_text.ex
  refine ⟨f, fd, hf, F.kp, F.binds fun _ _ _ _ _ _ us hl => match us, hl with | [_], _ => rfl, F.ok sc_chart_text (fun vs H Q E h => ?_) (fun cdv A outer s H vs Q E hr h => ⟨_,
    pss_cons (ps_set (i := 1) sc_chart_text.nd rfl (Or.inl rfl) (pe_lst pa_nil))
    (pss_cons (ps_for PassesOwn.never rfl (pi_list (pv 0)) (pg_name (i := 2) sc_chart_text.nd rfl (Or.inl rfl))
      (pss_cons (ps_expr (pe_bm PySem.F.plainAttrs_list PySem.F.slot_list_extend PySem.F.type_list_extend mt_extend (pv 1) (pa_cons (pv 2) pa_nil)))
      (pss_one (ps_expr (pe_bm PySem.F.plainAttrs_list PySem.F.slot_list_append PySem.F.type_list_append mt_append (pv 1) (pa_cons (pe_gint rfl T.g_LINE_END) pa_nil))))))
    (pss_one (ps_ret (pv 1)))), ?_⟩)⟩
  · obtain ⟨a, rs, rfl, _⟩ := h
    rfl
  · obtain ⟨a, rs, rfl, ⟨ps, ha, hR⟩, hz, q⟩ := h
    refine ⟨(by show 0 ≤ sizeLine; decide), fun l hl => ?_⟩
    have e0 : Ex H (upd H l (.lst [])) := same_upd hl
    refine q_forL (ev_var rfl) (SqL.of (e0 _ _ ha)) (fun i σ H' => ∃ v : Option V, σ = [some (.ref a), some (.ref l), v] ∧ Ex H H' ∧ H' l = some (.lst ((Rug.txt (rs.take i)).map vb)))
      (fun H1 e1 => ⟨none, rfl, e0.trans e1, e1 _ _ upd_same⟩) (fun i σ' H' _ ⟨_, _, e, _⟩ => SqL.of (e _ _ ha)) ?_ ?_
    · rintro i x σ' H' hi ⟨v, rfl, e, hl'⟩
      obtain ⟨p, hp, rfl⟩ := get_map hi
      have hlt := (List.getElem?_eq_some_iff.mp hp).1
      obtain ⟨r, hri⟩ : ∃ r, rs[i]? = some r := ⟨_, List.getElem?_eq_getElem (by rw [← hR.1]; exact hlt)⟩
      have hpH := hR.2 i p r hp hri
      have hpr := e _ _ hpH
      have npl : p ≠ l := fun z => by rw [z, hl] at hpH; cases hpH
      have et : Rug.txt (rs.take (i + 1)) = Rug.txt (rs.take i) ++ (r ++ [10]) := by rw [take_more hri, Rug.txt_append, Rug.txt_one]
      have lt : (Rug.txt (rs.take i)).length + (r.length + 1) ≤ 90000 := by
        have h1 := txt_take rs (i + 1)
        rw [et, List.length_append, List.length_append] at h1
        simp only [List.length_cons, List.length_nil] at h1
        omega
      refine ⟨_, rfl, .inl ⟨rfl, _, SqL.of hl'⟩, _, rfl, ?_⟩
      refine ⟨l, p, _, _, rfl, rfl, hl', hpr, sz_of (by rw [List.length_map, List.length_map]; omega), ?_⟩
      refine ⟨_, rfl, .inl ⟨rfl, _, SqL.of upd_same⟩, ?_⟩
      refine ⟨l, _, _, rfl, rfl, upd_same, sz_lt (by rw [List.length_append, List.length_map, List.length_map]; omega), ?_⟩
      refine ⟨_, rfl, fun b o q1 => ?_, ?_⟩
      · have nb : b ≠ l := fun z => by rw [z, hl] at q1; cases q1
        rw [upd_ne nb, upd_ne nb]
        exact e _ _ q1
      · rw [upd_same, et, List.map_append, List.map_append, ← List.append_assoc]
        rfl
    · rintro σ' H' ⟨v, rfl, e, hl'⟩
      rw [List.length_map, hR.1, List.take_length] at hl'
      exact ⟨_, rfl, q l H' hl e hl'⟩
end
/-! ### a rug, looked at within a depth -/
def spLookLength (K : PySem.W.Frag) (C : Addr) : Sp := fun vs H Q E => ∃ (a : Addr) (xs : List V), vs = [.ref a] ∧ SqL K H a xs ∧ (66048 < xs.length → Rz C (-2) H E) ∧ (¬ 66048 < xs.length → RetV .non H Q)
theorem sc_look_length : FnScope ["text"] ["text"] (defScope s_look_length) := ⟨rfl, rfl, rfl, by decide +kernel, rfl, by decide +kernel, by decide +kernel⟩
section
variable {P : Program} {w : World} {K : PySem.W.Frag} {mg : Str → Option Value} {base : Heap} {C fI B fB fS : Addr}
theorem ok_look_length (T : Txt K mg C fI B fB fS) : Df P w K mg base (L2.CX P w) 3 "look_length" ["text"] (spLookLength K C) := by
  obtain ⟨f, fd, hf, F⟩ := T.d_look_length.ex
  refine ⟨f, fd, hf, F.kp, F.binds fun _ _ _ _ _ _ us hl => match us, hl with | [_], _ => rfl, F.okX sc_look_length (fun vs H Q E h => ?_) (fun cdv A outer s H vs Q E hr h => ⟨_,
    pss_one (ps_if (pt_cmpR op_gt (pe_callB call_len_seq (by rfl) T.b_len PySem.boot_len (pa_cons (pv 0) pa_nil)) (pe_gint rfl T.g_MOST_BYTES) (nomark _)) (pss_one (ps_raiseRef rfl T.ref hr (takes_of rfl rfl rfl rfl) (by exact pa_cons (pe_un un_neg pe_int) pa_nil))) pss_nil), ?_⟩)⟩
  · obtain ⟨a, xs, rfl, _⟩ := h
    rfl
  · obtain ⟨a, xs, rfl, hS, h1, h2⟩ := h
    refine s_when (et_test (ev_op (ev_len (ev_var rfl) hS) ev_c rv_I0)) (fun c H1 e1 => ?_) fun c H1 e1 => ?_
    · have c := of_decide_eq_true c
      exact ⟨_, rfl, _, rfl, ((h1 (by omega)).same e1).new⟩
    · have c := of_decide_eq_false c
      exact h2 (by omega) H1 e1
end
/-! ### how many bytes, and they -/
def spCounted : Sp := fun vs H Q _ => ∃ (a : Addr) (xs : List V), vs = [.ref a] ∧ H a = some (.lst xs) ∧ xs.length ≤ 90000 ∧ RetL (.int (xs.length : Int) :: xs) H Q
theorem sc_counted : FnScope ["text"] ["text"] (defScope s_counted) := ⟨rfl, rfl, rfl, by decide +kernel, rfl, by decide +kernel, by decide +kernel⟩
section
variable {P : Program} {w : World} {K : PySem.W.Frag} {mg : Str → Option Value} {base : Heap} {C fI B fB fS : Addr}
theorem ok_counted (T : Txt K mg C fI B fB fS) : Df P w K mg base CX0 1 "counted" ["text"] spCounted := by
  obtain ⟨f, fd, hf, F⟩ := T.d_counted.ex
  refine ⟨f, fd, hf, F.kp, F.binds fun _ _ _ _ _ _ us hl => match us, hl with | [_], _ => rfl, F.ok sc_counted (fun vs H Q E h => ?_) (fun cdv A outer s H vs Q E hr h => ⟨_,
    pss_one (ps_ret (pe_op op_cat (pe_lst (pa_cons (pe_callB call_len_seq (by rfl) T.b_len PySem.boot_len (pa_cons (pv 0) pa_nil)) pa_nil)) (pv 0))), ?_⟩)⟩
  · obtain ⟨a, xs, rfl, _⟩ := h
    rfl
  · obtain ⟨a, xs, rfl, ha, hz, q⟩ := h
    refine ⟨_, rfl, a, _, rfl, .inl (SqL.of ha), (by show 1 ≤ sizeLine; decide), fun p hp => ⟨_, rfl, ?_⟩⟩
    refine ⟨p, a, _, _, rfl, rfl, upd_same, (same_upd hp) _ _ ha, sz_of (by simp only [List.length_cons, List.length_nil]; omega), fun l hl => ?_⟩
    exact q l _ (fresh_back (same_upd hp) hl) (Ex.trans (same_upd hp) (same_upd hl)) upd_same
end
/-! ### a depth, looked at -/
def spLookDepth (C : Addr) : Sp := fun vs H Q E => ∃ (h : Int), vs = [.int h] ∧ (Rug.okDeep h = false → Rz C (-1) H E) ∧ (Rug.okDeep h = true → Q .non H)
theorem sc_look_depth : FnScope ["depth"] ["depth"] (defScope s_look_depth) := ⟨rfl, rfl, rfl, by decide +kernel, rfl, by decide +kernel, by decide +kernel⟩
section
variable {P : Program} {w : World} {K : PySem.W.Frag} {mg : Str → Option Value} {base : Heap} {C fI B fB fS : Addr}
theorem ok_look_depth (T : Txt K mg C fI B fB fS) : Df P w K mg base (L2.CX P w) 3 "look_depth" ["depth"] (spLookDepth C) := by
  obtain ⟨f, fd, hf, F⟩ := T.d_look_depth.ex
  refine ⟨f, fd, hf, F.kp, F.binds fun _ _ _ _ _ _ us hl => match us, hl with | [_], _ => rfl, F.okX sc_look_depth (fun vs H Q E h => ?_) (fun cdv A outer s H vs Q E hr h => ⟨_,
    pss_one (ps_if (pt_not (pt_chain op_le op_le pe_int (pv 0) (pe_gint rfl T.g_MOST_DEPTH) )) (pss_one (ps_raiseRef rfl T.ref hr (takes_of rfl rfl rfl rfl) (by exact pa_cons (pe_un un_neg pe_int) pa_nil))) pss_nil), ?_⟩)⟩
  · obtain ⟨h, rfl, _⟩ := h
    rfl
  · obtain ⟨h, rfl, h1, h2⟩ := h
    unfold Rug.okDeep at h1 h2
    refine ⟨_, rfl, _, _, rfl, rfl, _, rfl, iteD (fun c => ?_) fun c => ?_⟩
    · refine ⟨_, _, rfl, rfl, _, rfl, ?_⟩
      rw [decide_eq_true c, Bool.true_and] at h1 h2
      refine iteND (fun d => ?_) fun d => ?_
      · exact ⟨_, rfl, _, rfl, (h1 (decide_eq_false d)).new⟩
      · exact h2 (decide_eq_true d)
    · rw [decide_eq_false c, Bool.false_and] at h1 h2
      refine ⟨_, rfl, iteT ?_⟩
      exact ⟨_, rfl, _, rfl, (h1 rfl).new⟩
end
/-! ### a rug of a text, looked at -/
def spLookWithin (C : Addr) : Sp := fun vs H Q E => ∃ (a : Addr) (rs : List (List UInt8)) (h : Int), vs = [.ref a, .int h] ∧ ChartAt H a rs ∧ rs ≠ [] ∧
  ((Rug.okDeep h = false ∨ ((rs.headD []).length : Int) ≤ 2 * h ∨ (rs.length : Int) ≤ 2 * h) → Rz C (-1) H E) ∧ (¬ (Rug.okDeep h = false ∨ ((rs.headD []).length : Int) ≤ 2 * h ∨ (rs.length : Int) ≤ 2 * h) → RetV .non H Q)
theorem sc_look_within : FnScope ["rows", "depth"] ["rows", "depth"] (defScope s_look_within) := ⟨rfl, rfl, rfl, by decide +kernel, rfl, by decide +kernel, by decide +kernel⟩
def spRugOf (K : PySem.W.Frag) (C : Addr) : Sp := fun vs H Q E => ∃ (h : Int) (a : Addr) (b : List UInt8), vs = [.int h, .ref a] ∧ SqL K H a (b.map vb) ∧ (∀ z, Rug.rugOf h b = .inl z → Rz C z H E) ∧
  (∀ rs, Rug.rugOf h b = .inr rs → ∀ p H', H p = none → Ex H H' → ChartAt H' p rs → Q (.ref p) H')
theorem sc_rug_of : FnScope ["h", "t", "rows"] ["h", "t"] (defScope s_rug_of) := ⟨rfl, rfl, rfl, by decide +kernel, rfl, by decide +kernel, by decide +kernel⟩
section
variable {P : Program} {w : World} {K : PySem.W.Frag} {mg : Str → Option Value} {base : Heap} {C fI B fB fS : Addr}
theorem ok_look_within (T : Txt K mg C fI B fB fS) : Df P w K mg base (L2.CX P w) 6 "look_within" ["rows", "depth"] (spLookWithin C) := by
  obtain ⟨f, fd, hf, F⟩ := T.d_look_within.ex
  refine ⟨f, fd, hf, F.kp, F.binds fun _ _ _ _ _ _ us hl => match us, hl with | [_, _], _ => rfl, F.okX sc_look_within (fun vs H Q E h => ?_) (fun cdv A outer s H vs Q E hr h => ⟨_,
    pss_cons (ps_expr (pe_dfS (ok_look_depth T) (hr.mono (by decide)) rfl (takes_of rfl rfl rfl rfl) (by exact pa_cons (pv 1) pa_nil)))
    (pss_one (ps_if (PW.pt (pw_or (pt_cmpR op_ge (pe_op op_mul pe_int (pv 1)) (pe_callB call_len_seq (by rfl) T.b_len PySem.boot_len (pa_cons (pe_ix ix_list (pv 0) pe_int (fun _ _ => rfl)) pa_nil)) (nomark _)) (pw_or1 (pt_cmpR op_ge (pe_op op_mul pe_int (pv 1)) (pe_callB call_len_seq (by rfl) T.b_len PySem.boot_len (pa_cons (pv 0) pa_nil)) (nomark _)))))
      (pss_one (ps_raiseRef rfl T.ref hr (takes_of rfl rfl rfl rfl) (by exact pa_cons (pe_un un_neg pe_int) pa_nil))) pss_nil)), ?_⟩)⟩
  · obtain ⟨a, rs, h, rfl, _⟩ := h
    rfl
  · obtain ⟨a, rs, h, rfl, hC, hne, h1, h2⟩ := h
    refine ⟨_, rfl, h, rfl, fun c => h1 (.inl c), fun c => ?_⟩
    obtain ⟨xs, hx, lx⟩ := hC.len (K := K)
    obtain ⟨r0, rs', rfl⟩ : ∃ r l, rs = r :: l := by
      cases rs with
      | nil => exact absurd rfl hne
      | cons r l => exact ⟨r, l, rfl⟩
    obtain ⟨ys, p0, hy, ly, h0, hp0⟩ := hC.row (K := K) (y := 0) (r := r0) rfl
    refine s_when (b := decide ((r0.length : Int) ≤ 2 * h) || decide (((r0 :: rs').length : Int) ≤ 2 * h)) (et_or (et_test (ev_is (ev_op (ev_op ev_c (ev_var rfl) (rv_I (.inl ⟨by decide, by decide⟩))) (ev_len (ev_op (ev_var rfl) ev_c (rv_ixL hy h0)) (SqL.of hp0)) rv_I0) (by rw [List.length_map])))
      fun _ => et_test (ev_is (ev_op (ev_op ev_c (ev_var rfl) (rv_I (.inl ⟨by decide, by decide⟩))) (ev_len (ev_var rfl) hx) rv_I0) (by rw [lx]))) (fun d H1 e1 => ?_) fun d H1 e1 => ?_
    · simp only [Bool.or_eq_true, decide_eq_true_eq] at d
      exact ⟨_, rfl, _, rfl, ((h1 (.inr d)).same e1).new⟩
    · simp only [Bool.or_eq_false_iff, decide_eq_false_iff_not] at d
      refine h2 ?_ H1 e1
      rintro (z | z | z)
      · exact Bool.noConfusion (c.symm.trans z)
      · exact d.1 z
      · exact d.2 z
theorem ok_rug_of (T : Txt K mg C fI B fB fS) : Df P w K mg base (L2.CX P w) 9 "rug_of" ["h", "t"] (spRugOf K C) := by
  obtain ⟨f, fd, hf, F⟩ := T.d_rug_of.ex
  refine ⟨f, fd, hf, F.kp, F.binds fun _ _ _ _ _ _ us hl => match us, hl with | [_, _], _ => rfl, F.okX sc_rug_of (fun vs H Q E h => ?_) (fun cdv A outer s H vs Q E hr h => ⟨_,
    pss_cons (ps_expr (pe_dfS (ok_look_length T) (hr.mono (by decide)) rfl (takes_of rfl rfl rfl rfl) (by exact pa_cons (pv 1) pa_nil)))
    (pss_cons (ps_set (i := 2) sc_rug_of.nd rfl (Or.inl rfl) (pe_dfS (ok_read_chart T) (hr.mono (by decide)) rfl (takes_of rfl rfl rfl rfl) (by exact pa_cons (pv 1) pa_nil)))
    (pss_cons (ps_expr (pe_dfS (ok_look_within T) (hr.mono (by decide)) rfl (takes_of rfl rfl rfl rfl) (by exact pa_cons (pv 2) (pa_cons (pv 0) pa_nil))))
    (pss_one (ps_ret (pv 2))))), ?_⟩)⟩
  · obtain ⟨h, a, b, rfl, _⟩ := h
    rfl
  · obtain ⟨h, a, b, rfl, hS, h1, h2⟩ := h
    have eR : Rug.rugOf h b = match Rug.lookText b with
      | .inl c => .inl c
      | .inr rs => if Rug.okDeep h = false ∨ ((rs.headD []).length : Int) ≤ 2 * h ∨ (rs.length : Int) ≤ 2 * h then .inl (-1) else .inr rs := rfl
    unfold Rug.lookText at eR
    refine ⟨_, rfl, a, _, rfl, hS, fun c => ?_, fun c H1 e1 => ?_⟩
    · rw [List.length_map] at c
      rw [if_pos c] at eR
      exact h1 (-2) eR
    · rw [List.length_map] at c
      rw [if_neg c] at eR
      refine ⟨_, rfl, a, b, rfl, Same.seq e1 hS, by omega, fun d => ?_, fun rs d p H2 hp e2 hC => ?_⟩
      · rw [d] at eR
        exact (h1 (-6) eR).same e1
      · rw [d] at eR
        have R := Rug.read_right d
        have hne : rs ≠ [] := fun z => by
          have := R.h1
          rw [z] at this
          exact absurd this (by decide)
        have e12 := e1.trans e2
        refine ⟨_, rfl, _, rfl, p, rs, h, rfl, hC, hne, fun g => ?_, fun g H3 e3 => ?_⟩
        · rw [show Rug.rugOf h b = .inl (-1) from eR.trans (if_pos g)] at h1
          exact (h1 (-1) rfl).same e12
        · exact ⟨_, rfl, h2 rs (eR.trans (if_neg g)) p H3 (fresh_back e1 hp) (e12.trans e3) (hC.ex e3)⟩
end
/-! ### small words about texts -/
theorem counted_map (b : List UInt8) : (Rug.counted b).map V.int = .int ((b.map vb).length : Int) :: b.map vb := by
  unfold Rug.counted
  rw [List.map_cons, List.map_map, List.length_map]
  rfl
/-- a part's text isn't too long -/
theorem txt_len {rs : List (List UInt8)} {W : Nat} (h : ∀ r ∈ rs, r.length ≤ W) : (Rug.txt rs).length ≤ rs.length * (W + 1) := by
  induction rs with
  | nil => exact Nat.zero_le _
  | cons r l ih =>
    have := ih fun r hr => h r (List.mem_cons_of_mem _ hr)
    have hr := h r List.mem_cons_self
    unfold Rug.txt at this ⊢
    rw [List.flatMap_cons, List.length_append, List.length_append, List.length_cons (as := l), Nat.add_mul, Nat.one_mul]
    simp only [List.length_cons, List.length_nil]
    omega
theorem cut_small {rs : List (List UInt8)} {x y w h : Nat} : (Rug.cutRows rs x y w h).length ≤ h ∧ ∀ r ∈ Rug.cutRows rs x y w h, r.length ≤ w := by
  unfold Rug.cutRows
  refine ⟨by rw [List.length_map, List.length_take]; omega, fun r hr => ?_⟩
  obtain ⟨q, _, rfl⟩ := List.mem_map.mp hr
  rw [List.length_take]
  omega
/-! ### a knot of a chart -/
section
variable {K : PySem.W.Frag} {σ : L2.St} {H : Hp} {ta tb tc te : TE}
/-- a knot of a chart: rows[y][x] -/
theorem ev_knot {a : Addr} {rs : List (List UInt8)} {x y : Nat} {r : List UInt8} {c : UInt8} (hC : ChartAt H a rs) (hr : rs[y]? = some r) (hc : r[x]? = some c) (h1 : Ev ta σ H (.ref a)) (h2 : Ev tb σ H (.int (y : Int))) (h3 : Ev tc σ H (.int (x : Int))) :
    Ev (tOp (rIxL K) (tOp (rIxL K) ta tb) tc) σ H (vb c) := by
  obtain ⟨xs, p, hx, _, hy, hp⟩ := hC.row (K := K) hr
  obtain ⟨s1, s2⟩ := vb_at (K := K) hp hc
  exact ev_op (ev_op h1 h2 (rv_ixL hx hy)) h3 (rv_ixL s1 s2)
end
/-! ### setdefault, tuples for keys -/
section
variable {X : Cx} {pins : List (Addr × Obj)} {σ : L2.St} {H : Hp} {s : Shared} {a b : Addr} {r : Value} {d : V} {k : List L2.Key} {A : Around} {E : Value → Shared → Prop}
theorem d_setT {kvs : List (List L2.Key × V)} {Q : Value → Shared → Prop} (hu : A.units + 1 < cLine) (I : Inv X pins σ H s) (e : H a = some (.dT kvs)) (eb : H b = some (.tup (k.map kV))) (rd : RelV d r) (hl : kvs.length < sizeLine)
    (h1 : ∀ v, valV kvs k = some v → ∀ (w' : Value) (s' : Shared), Inv X pins σ H s' → RelV v w' → Q w' s')
    (h2 : valV kvs k = none → ∀ (w' : Value) (s' : Shared), Inv X pins σ (upd H a (.dT (putK kvs k d))) s' → RelV d w' → Q w' s') :
    wpAny (model X.prog X.w) A (call (.builtin "dict.setdefault") [.ref a, .ref b, r]) Q E s := by
  obtain ⟨few, ns, xs, rel, dd⟩ := dt_of I.hok e
  have q := rel.val k
  refine call_setdefault_heap (hsz := by rw [← Paired.length rel]; exact few) (tupleKind_room_in1 hu) (key_of I.hok eb) ns dd (fun p hp => ?_) fun hn h' dd' hs => ?_
  · rw [hp] at q
    cases q0 : valV kvs k with
    | none => rw [q0] at q; exact (show False from q).elim
    | some v0 => rw [q0] at q; exact h1 v0 q0 _ _ (I.tok _) q
  · rw [hn] at q
    cases q0 : valV kvs k with
    | some v0 => rw [q0] at q; exact (show False from q).elim
    | none =>
      have more : (putK kvs k d).length ≤ sizeLine := Nat.le_trans (length_putK kvs k d) hl
      obtain ⟨o, es, ep, ho, g1, g2, g3, _, g4⟩ := dd'
      refine h2 q0 _ _ (d_write I (by rw [e]; exact True.intro) hs ⟨o, ho⟩ ⟨more, ns, _, (rel.put k eb rd).keeps fun c ys ec => ?_, o, es, ep, ho, g1, g2, g3, g4⟩) rd
      have ca : c ≠ a := fun z => by rw [z, e] at ec; cases ec
      rw [upd_ne ca]
      exact ec
end
def tSetT (td ty tx : TE) : TE := fun σ H Q => td σ H fun x H1 => ∃ a, x = .ref a ∧ IsD H1 a ∧ ty σ H1 fun y H2 => tx σ H2 fun z H3 => ∃ (kvs : List (List L2.Key × V)) (k : List L2.Key) (b : Addr), H3 a = some (.dT kvs) ∧ y = .ref b ∧ H3 b = some (.tup (k.map kV)) ∧ kvs.length < sizeLine ∧
  (∀ v, valV kvs k = some v → Q v H3) ∧ (valV kvs k = none → Q z (upd H3 a (.dT (putK kvs k z))))
section
variable {X : Cx} {o e f : Expr} {td ty tx : TE} {apos cpos : Pos}
theorem pe_setT (hu : X.A.units + 1 < cLine) (ho : PE X o td) (he : PE X e ty) (hf : PE X f tx) (m : M2 X o "setdefault" apos e f cpos) : PE X (.Call (.Attribute o "setdefault" apos) [e, f] [] cpos) (tSetT td ty tx) := by
  refine ⟨fun pins s0 σ H Q I h => wpAny_Call_method m.base m.few m.line PySem.F.plainAttrs_dict PySem.F.slot_dict_setdefault PySem.F.type_dict_setdefault
    (thn (ho.run pins s0 σ H _ I h) fun u s1 hx => ?_)⟩
  obtain ⟨x, H1, I1, rx, a, rfl, isd, go1⟩ := hx
  cases (show u = Value.ref a from rx)
  have ty3 := isD_at I1 isd
  refine ⟨ty3.1, ty3.2.1, ?_⟩
  rw [m.trees]
  refine Calls.callWith_builtin rfl (Calls.evalArgs_plain (Calls.spliced_cons (thn (he.run pins s1 σ H1 _ I1 go1) fun uk s2 hk => ?_)))
  obtain ⟨y, H2, I2, ry, go2⟩ := hk
  refine Calls.spliced_cons (thn (hf.run pins s2 σ H2 _ I2 go2) fun uv s3 hv => Calls.spliced_nil ?_)
  obtain ⟨z, H3, I3, rz, kvs, k, b, ea, rfl, eb, few, old, new⟩ := hv
  cases (show uk = Value.ref b from ry)
  exact d_setT hu I3 ea eb rz few (fun v hv w' s4 I4 rw' => ⟨v, H3, I4, rw', old v hv⟩) fun hn w' s4 I4 rw' => ⟨z, _, I4, rw', new hn⟩
end
/-! ### the keys of the knots told -/
def kK (t : Rug.K3) : List L2.Key := [.inl t.1, .inl t.2.1, .inl t.2.2]
theorem kK_tri (t : Rug.K3) : (kK t).map kV = tri t := rfl
theorem kK_inj {a b : Rug.K3} (h : kK a = kK b) : a = b := by
  obtain ⟨a1, a2, a3⟩ := a
  obtain ⟨b1, b2, b3⟩ := b
  unfold kK at h
  simp only [List.cons.injEq, Sum.inl.injEq, and_true] at h
  rw [h.1, h.2.1, h.2.2]
def kvT (T : List (Rug.K3 × UInt8)) : List (List L2.Key × V) := T.map fun p => (kK p.1, vb p.2)
theorem kvT_val (T : List (Rug.K3 × UInt8)) (k : Rug.K3) : valV (kvT T) (kK k) = (T.lookup k).map vb := by
  induction T with
  | nil => rfl
  | cons p T ih =>
    obtain ⟨j, c⟩ := p
    show valV ((kK j, vb c) :: kvT T) (kK k) = _
    by_cases e : k = j
    · subst e
      rw [valV_pos rfl]
      have : (k == k) = true := beq_self_eq_true k
      simp only [List.lookup, this, Option.map_some]
    · have e2 : (k == j) = false := beq_eq_false_iff_ne.mpr e
      rw [valV_neg (fun z => e (kK_inj z).symm), ih]
      simp only [List.lookup, e2]
theorem kvT_put {T : List (Rug.K3 × UInt8)} {k : Rug.K3} (c : UInt8) (h : T.lookup k = none) : putK (kvT T) (kK k) (vb c) = kvT (T ++ [(k, c)]) := by
  rw [putK_new _ (by rw [kvT_val, h]; rfl)]
  unfold kvT
  rw [List.map_append]
  rfl
theorem kvT_len (T : List (Rug.K3 × UInt8)) : (kvT T).length = T.length := List.length_map _
/-! ### what the colours tell -/
theorem told_field {kind : Int} {L h W H : Nat} {rs : List (List UInt8)} {y x : Nat} (f : Rug.isField (h : Int) (W : Int) (H : Int) (x : Int) (y : Int) = true) : Rug.huesTo kind L h W H rs y (x + 1) = Rug.huesTo kind L h W H rs y x := by
  rw [Rug.huesTo_next]
  unfold Rug.hueAt
  rw [if_pos f, List.append_nil]
theorem told_border {kind : Int} {L h W H : Nat} {rs : List (List UInt8)} {y x : Nat} {T : List (Rug.K3 × UInt8)} (f : Rug.isField (h : Int) (W : Int) (H : Int) (x : Int) (y : Int) = false) (e : Rug.toldOf (Rug.huesTo kind L h W H rs y x) = some T) :
    Rug.toldOf (Rug.huesTo kind L h W H rs y (x + 1)) = Rug.tell T (Rug.knotOf kind L h W H x y, Rug.knot rs x y) := by
  rw [Rug.huesTo_next]
  unfold Rug.hueAt
  rw [if_neg (by rw [f]; exact Bool.false_ne_true), Rug.toldOf_snoc, e]
  rfl
theorem tell_new {T : List (Rug.K3 × UInt8)} {k : Rug.K3} {c : UInt8} (h : T.lookup k = none) : Rug.tell T (k, c) = some (T ++ [(k, c)]) := by
  unfold Rug.tell
  simp only [h]
theorem tell_old {T : List (Rug.K3 × UInt8)} {k : Rug.K3} {c c' : UInt8} (h : T.lookup k = some c') : Rug.tell T (k, c) = if c' = c then some T else none := by
  unfold Rug.tell
  simp only [h]
def spTold (B : Addr) : Sp := fun vs H Q _ => ∃ (b a : Addr) (kind : Int) (L h W Hn : Nat) (rs : List (List UInt8)), vs = [.ref b, .ref a] ∧ BorderAt B H b kind (L : Int) (h : Int) (W : Int) (Hn : Int) ∧ ChartAt H a rs ∧ Rug.Right rs (W + 2 * h) (Hn + 2 * h) ∧ 1 ≤ L ∧
  (Rug.toldOf (Rug.hues kind L h W Hn rs) = none → RetV .non H Q) ∧ (∀ T, Rug.toldOf (Rug.hues kind L h W Hn rs) = some T → ∀ p H', H p = none → Ex H H' → H' p = some (.dT (kvT T)) → Q (.ref p) H')
theorem sc_colours_told : FnScope ["border", "rows", "told", "y", "x", "knot"] ["border", "rows"] (defScope s_colours_told) := ⟨rfl, rfl, rfl, by decide +kernel, rfl, by decide +kernel, by decide +kernel⟩
section
variable {P : Program} {w : World} {K : PySem.W.Frag} {mg : Str → Option Value} {base : Heap} {C fI B fB fS : Addr}
theorem ok_colours_told (T : Txt K mg C fI B fB fS) : Df P w K mg base CX0 7 "colours_told" ["border", "rows"] (spTold B) := by
  obtain ⟨f, fd, hf, F⟩ := T.d_colours_told.ex
  refine ⟨f, fd, hf, F.kp, F.binds fun _ _ _ _ _ _ us hl => match us, hl with | [_, _], _ => rfl, F.ok sc_colours_told (fun vs H Q E h => ?_) (fun cdv A outer s H vs Q E hr h => ⟨_,
    pss_cons (ps_set (i := 2) sc_colours_told.nd rfl (Or.inl rfl) pe_dnewT)
    (pss_cons (ps_for PassesOwn.never rfl (pi_range1 (by rfl) T.b_range (pa_cons (pe_fld (pv 0) rfl) pa_nil)) (pg_name (i := 3) sc_colours_told.nd rfl (Or.inl rfl))
      (pss_one (ps_for PassesOwn.never rfl (pi_range1 (by rfl) T.b_range (pa_cons (pe_fld (pv 0) rfl) pa_nil)) (pg_name (i := 4) sc_colours_told.nd rfl (Or.inl rfl))
        (pss_one (ps_if (pt_not (pt_val (pe_df (ok_is_field T) (hr.mono (by decide)) rfl (by exact pa_cons (pv 0) (pa_cons (pv 4) (pa_cons (pv 3) pa_nil))))))
          (pss_cons (ps_set (i := 5) sc_colours_told.nd rfl (Or.inl rfl) (pe_df (ok_knot_of T) (hr.mono (by decide)) rfl (by exact pa_cons (pv 0) (pa_cons (pv 4) (pa_cons (pv 3) pa_nil)))))
          (pss_one (ps_if (pt_cmp (pc_neI (pe_setT (hu_of hr) (pv 2) (pv 5) (pe_ix ix_list (pe_ix ix_list (pv 1) (pv 3) (fun _ _ => rfl)) (pv 4) (fun _ _ => rfl)) ⟨rfl, rfl, rfl, rfl⟩) (pe_ix ix_list (pe_ix ix_list (pv 1) (pv 3) (fun _ _ => rfl)) (pv 4) (fun _ _ => rfl))) (nomark _))
            (pss_one (ps_ret pe_non)) pss_nil))) pss_nil)))))
    (pss_one (ps_ret (pv 2)))), ?_⟩)⟩
  · obtain ⟨b, a, kind, L, h, W, Hn, rs, rfl, _⟩ := h
    rfl
  · obtain ⟨b, a, kind, L, h, W, Hn, rs, rfl, ⟨dx, hb⟩, hC, R, hL, q1, q2⟩ := h
    intro d hd
    dsimp only [gName]
    have e0 : Ex H (upd H d (.dT [])) := same_upd hd
    have ww : (bF kind (L : Int) (h : Int) (W : Int) (Hn : Int)).lookup ("whole_wide" : Str) = some (.int ((W + 2 * h : Nat) : Int)) := by
      rw [bF_ww]
      congr 2
    have wh : (bF kind (L : Int) (h : Int) (W : Int) (Hn : Int)).lookup ("whole_high" : Str) = some (.int ((Hn + 2 * h : Nat) : Int)) := by
      rw [bF_wh]
      congr 2
    have wB := R.w2
    have hB := R.h2
    have sizes : (Hn + 2 * h) * (W + 2 * h) ≤ 65536 := by rw [Nat.mul_comm]; exact R.kn
    refine q_forR1 (n := ((Hn + 2 * h : Nat) : Int)) (ea_cons (ev_fld (ev_var rfl) (e0 _ _ hb) T.cl T.n_whole_high wh) ea_nil) (by omega)
      (fun y σ H' => ∃ (v3 v4 v5 : Option V) (D : List (Rug.K3 × UInt8)), σ = [some (.ref b), some (.ref a), some (.ref d), v3, v4, v5] ∧ Ex H H' ∧ H' d = some (.dT (kvT D)) ∧ Rug.toldOf (Rug.huesTo kind L h W Hn rs y 0) = some D)
      (fun H1 e1 => ⟨none, none, none, [], rfl, e0.trans e1, e1 _ _ upd_same, rfl⟩) ?_ ?_
    · rintro y σ' H' hy ⟨v3, v4, v5, D, rfl, e, hD, eD⟩
      have yH : y < Hn + 2 * h := by omega
      refine s_forR1 (n := ((W + 2 * h : Nat) : Int)) (ea_cons (ev_fld (ev_var rfl) (e _ _ hb) T.cl T.n_whole_wide ww) ea_nil) (by omega)
        (fun x σ H' => ∃ (v4 v5 : Option V) (D : List (Rug.K3 × UInt8)), σ = [some (.ref b), some (.ref a), some (.ref d), some (.int (y : Int)), v4, v5] ∧ Ex H H' ∧ H' d = some (.dT (kvT D)) ∧ Rug.toldOf (Rug.huesTo kind L h W Hn rs y x) = some D)
        (fun H1 e1 => ⟨v4, v5, D, rfl, e.trans e1, e1 _ _ hD, eD⟩) ?_ ?_
      · rintro x σ' H2 hx ⟨v4, v5, D, rfl, e2, hD2, eD2⟩
        have xW : x < W + 2 * h := by omega
        obtain ⟨ry, hry, hrx⟩ := Rug.right_row R xW yH
        refine s_when (b := !Rug.isField (h : Int) (W : Int) (Hn : Int) (x : Int) (y : Int)) (et_not (et_B (ev_df (v := .bl (Rug.isField (h : Int) (W : Int) (Hn : Int) (x : Int) (y : Int))) (ea_cons (ev_var rfl) (ea_cons (ev_var rfl) (ea_cons (ev_var rfl) ea_nil)))
          fun H3 e3 Q' E' q' => ⟨b, kind, (L : Int), (h : Int), (W : Int), (Hn : Int), (x : Int), (y : Int), rfl, ⟨dx, e3 _ _ (e2 _ _ hb)⟩, q'⟩))) (fun c H3 e3 => ?_) fun c H3 e3 => ?_
        · have nf : Rug.isField (h : Int) (W : Int) (Hn : Int) (x : Int) (y : Int) = false := by
            rw [Bool.not_eq_true'] at c
            exact c
          have e03 := e2.trans e3
          refine q_asgU (eu_df (xs := tri (Rug.knotOf kind L h W Hn x y)) (ea_cons (ev_var rfl) (ea_cons (ev_var rfl) (ea_cons (ev_var rfl) ea_nil))) fun H4 e4 Q' E' q' => ⟨b, kind, (L : Int), (h : Int), (W : Int), (Hn : Int), (x : Int), (y : Int), rfl, ⟨dx, e4 _ _ (e03 _ _ hb)⟩, (by omega), q'⟩) fun kp H4 hkp e4 h4 => ?_
          have next := told_border (kind := kind) (L := L) (rs := rs) nf eD2
          generalize hk : Rug.knotOf kind L h W Hn x y = k3 at h4 next
          have e04 := e03.trans e4
          have hD4 := e4 _ _ (e3 _ _ hD2)
          have few : D.length ≤ 65536 := by
            have z1 := Rug.toldOf_len eD2
            have z2 := Rug.huesTo_len kind L h W Hn rs y x
            have z3 : (y + 1) * (W + 2 * h) ≤ (Hn + 2 * h) * (W + 2 * h) := Nat.mul_le_mul_right _ yH
            rw [Nat.add_mul, Nat.one_mul] at z3
            omega
          refine ⟨_, rfl, d, rfl, .inr ⟨_, .inl hD4⟩, _, rfl, ?_⟩
          refine ev_knot (hC.ex e04) hry hrx (ev_var rfl) (ev_var rfl) (ev_var rfl) _ (Ex.refl _) _ fun H5 e5 => ⟨kvT D, kK k3, kp, e5 _ _ hD4, rfl, e5 _ _ h4, ?_, fun v hv => ?_, fun hn => ?_⟩
          · rw [kvT_len]
            exact Nat.lt_of_le_of_lt few (by decide)
          · rw [kvT_val] at hv
            obtain ⟨c', hc', rfl⟩ := Option.map_eq_some_iff.mp hv
            rw [tell_old hc'] at next
            refine ev_knot (hC.ex (e04.trans e5)) hry hrx (ev_var rfl) (ev_var rfl) (ev_var rfl) _ (Ex.refl _) _ fun H6 e6 => ⟨_, _, rfl, rfl, _, rfl, ?_⟩
            have e06 := (e04.trans e5).trans e6
            by_cases same : c' = Rug.knot rs x y
            · rw [if_pos same] at next
              rw [same]
              exact iteND (fun ne => absurd rfl ne) fun _ => ⟨_, _, D, rfl, e06, e6 _ _ (e5 _ _ hD4), next⟩
            · rw [if_neg same] at next
              refine iteND (fun _ => q1 ?_ H6 e06) fun z => absurd (Rug.bi_inj z) same
              obtain ⟨rest, er⟩ := Rug.hues_from (kind := kind) (L := L) (rs := rs) xW yH
              rw [er]
              exact Rug.toldOf_none next rest
          · rw [kvT_val, Option.map_eq_none_iff] at hn
            rw [tell_new hn] at next
            rw [kvT_put _ hn]
            have e06 : Ex H (upd H5 d (.dT (kvT (D ++ [(k3, Rug.knot rs x y)])))) := fun c o q => by
              have cd : c ≠ d := fun z => by rw [z, hd] at q; cases q
              rw [upd_ne cd]
              exact (e04.trans e5) _ _ q
            refine ev_knot (hC.ex e06) hry hrx (ev_var rfl) (ev_var rfl) (ev_var rfl) _ (Ex.refl _) _ fun H6 e6 => ⟨_, _, rfl, rfl, _, rfl, ?_⟩
            exact iteND (fun ne => absurd rfl ne) fun _ => ⟨_, _, _, rfl, e06.trans e6, e6 _ _ upd_same, next⟩
        · have nf : Rug.isField (h : Int) (W : Int) (Hn : Int) (x : Int) (y : Int) = true := by
            rw [Bool.not_eq_false'] at c
            exact c
          exact ⟨_, _, D, rfl, e2.trans e3, e3 _ _ hD2, by rw [told_field nf]; exact eD2⟩
      · rintro σ' H2 ⟨v4, v5, D, rfl, e2, hD2, eD2⟩
        rw [Int.toNat_natCast, Rug.huesTo_row, ← Rug.huesTo_start] at eD2
        exact ⟨_, _, _, D, rfl, e2, hD2, eD2⟩
    · rintro σ' H' ⟨v3, v4, v5, D, rfl, e, hD, eD⟩
      rw [Int.toNat_natCast, Rug.huesTo_start] at eD
      exact ⟨_, rfl, q2 D eD d H' hd e hD⟩
end
/-! ### the chart told -/
section
variable {K : PySem.W.Frag} {σ : L2.St} {H : Hp} {ta tb tc te : TE}
theorem eu_is {xs ys : List V} (h : EvU te σ H xs) (e : xs = ys) : EvU te σ H ys := by
  rw [← e]
  exact h
/-- told.get(knot, 97) -/
theorem ev_hue {d : Addr} {D : List (Rug.K3 × UInt8)} {k : Rug.K3} (hd : H d = some (.dT (kvT D))) (h1 : Ev ta σ H (.ref d)) (h2 : EvU tb σ H (tri k)) : Ev (tDGet2 ta tb (tC (.int 97))) σ H (vb ((D.lookup k).getD 97)) := fun H1 e _ q =>
  h1 H1 e _ fun H2 e2 => ⟨d, rfl, .inr ⟨_, .inl ((e.trans e2) _ _ hd)⟩, h2 H2 (e.trans e2) _ fun p H3 _ e3 h3 => ⟨_, DGet.t (k := kK k) (((e.trans e2).trans e3) _ _ hd) h3, by
    rw [kvT_val]
    have z := q H3 (e2.trans e3)
    cases c : D.lookup k with
    | none =>
      rw [c] at z
      exact z
    | some u =>
      rw [c] at z
      exact z⟩⟩
end
def spChartTold : Sp := fun vs H Q _ => ∃ (d : Addr) (D : List (Rug.K3 × UInt8)) (L h : Nat), vs = [.ref d, .int 1, .int (L : Int), .int (h : Int)] ∧ H d = some (.dT (kvT D)) ∧ L ≤ 40000 ∧ h ≤ 40000 ∧
  ∀ p H', H p = none → Ex H H' → ChartAt H' p (Rug.byRows L h fun i j => (D.lookup (1, (i : Int), (j : Int))).getD 97) → Q (.ref p) H'
/-- the scope of the outer comprehension -/
def toldScope : Scope := match defBody s_chart_told with
  | [.Return (some (.ListComp _ _ sc _)) _] => sc
  | _ => defScope s_chart_told
theorem sc_chart_told : FnScope ["told", "part", "wide", "high", "j", "i"] ["told", "part", "wide", "high"] (defScope s_chart_told) := ⟨rfl, rfl, rfl, by decide +kernel, rfl, by decide +kernel, by decide +kernel⟩
section
variable {P : Program} {w : World} {K : PySem.W.Frag} {mg : Str → Option Value} {base : Heap} {C fI B fB fS : Addr}
theorem ok_chart_told (T : Txt K mg C fI B fB fS) : Df P w K mg base CX0 1 "chart_told" ["told", "part", "wide", "high"] spChartTold := by
  obtain ⟨f, fd, hf, F⟩ := T.d_chart_told.ex
  refine ⟨f, fd, hf, F.kp, F.binds fun _ _ _ _ _ _ us hl => match us, hl with | [_, _, _, _], _ => rfl, F.ok sc_chart_told (fun vs H Q E h => ?_) (fun cdv A outer s H vs Q E hr h => ⟨_,
    pss_one (ps_ret (pe_lc (own := [("j", 4)]) (g := gName 4) (tt := tYes) (te := tLc (iRng1 (tCons (tVar 2) tNil)) (gName 5) tYes (tDGet2 (tVar 0) (tTup (tCons (tVar 1) (tCons (tVar 5) (tCons (tVar 4) tNil)))) (tC (.int 97))) [5]) rfl sc_chart_told.nd
      (pi_range1 (by rfl) T.b_range (pa_cons (pv 3) pa_nil)) (blkOk_by (N := ["told", "part", "wide", "high", "j", "i"]) (sc := defScope s_chart_told) (by decide +kernel))
      (fun _ _ _ _ _ => pg_name (i := 4) sc_chart_told.nd rfl (Or.inr rfl)) (fun _ _ _ _ _ => pts_nil)
      (fun _ _ _ _ _ => pe_lc (own := [("i", 5)]) (g := gName 5) (tt := tYes) (te := tDGet2 (tVar 0) (tTup (tCons (tVar 1) (tCons (tVar 5) (tCons (tVar 4) tNil)))) (tC (.int 97))) rfl sc_chart_told.nd
        (pi_range1 (by rfl) T.b_range (pa_cons (pv 2) pa_nil)) (blkOk_by (N := ["told", "part", "wide", "high", "j", "i"]) (sc := relS toldScope (defScope s_chart_told)) (by decide +kernel))
        (fun _ _ _ _ _ => pg_name (i := 5) sc_chart_told.nd rfl (Or.inl rfl)) (fun _ _ _ _ _ => pts_nil)
        (fun _ _ _ _ _ => pe_dget2 (hu_of hr) (pv 0) (pe_tup (pa_cons (pv 1) (pa_cons (pv 5) (pa_cons (pv 4) pa_nil)))) (pe_gint rfl T.g_FIRST_COLOUR) ⟨rfl, rfl, rfl, rfl⟩)))), ?_⟩)⟩
  · obtain ⟨d, D, L, h, rfl, _⟩ := h
    rfl
  · obtain ⟨d, D, L, h, rfl, hd, zL, zh, q⟩ := h
    generalize hM : Rug.byRows L h (fun i j => (D.lookup (1, (i : Int), (j : Int))).getD 97) = M at q
    have lM : M.length = h := by rw [← hM]; exact Rug.byRows_len _ _ _
    refine ⟨_, rfl, _, rfl, by omega, by omega, fun Dl hDl => ?_⟩
    refine lc_range (lo := 0) (n := ((h : Nat) : Int).toNat) (fun y H' => Ex H H' ∧ ∃ qs : List Addr, H' Dl = some (.lst (qs.map V.ref)) ∧ RowsAt H' qs (M.take y) ∧ Dl ∉ qs)
      ⟨same_upd hDl, [], upd_same, .nil, fun z => nomatch z⟩ ?_ ?_
    · rintro y H' hy ⟨e, qs, hqs, hQ, nq⟩
      have yh : y < h := by omega
      have hrow : M[y]? = some ((List.range L).map fun (x : Nat) => (D.lookup (1, (x : Int), (y : Int))).getD 97) := by rw [← hM]; exact Rug.byRows_take yh
      refine ⟨rfl, ?_⟩
      have one : EvL (tLc (iRng1 (tCons (tVar 2) tNil)) (gName 5) tYes (tDGet2 (tVar 0) (tTup (tCons (tVar 1) (tCons (tVar 5) (tCons (tVar 4) tNil)))) (tC (.int 97))) [5])
          [some (.ref d), some (.int 1), some (.int (L : Int)), some (.int (h : Int)), some (.int (0 + (y : Int))), none] H' (((List.range L).map fun (x : Nat) => (D.lookup (1, (x : Int), (y : Int))).getD 97).map vb) := by
        have g := el_lcR1 (σ := [some (.ref d), some (.int 1), some (.int (L : Int)), some (.int (h : Int)), some (.int (0 + (y : Int))), none]) (H := H') (j := 5) (vs := [5]) (t := tYes) (te := tDGet2 (tVar 0) (tTup (tCons (tVar 1) (tCons (tVar 5) (tCons (tVar 4) tNil)))) (tC (.int 97))) (fun _ => true)
          (fun i => vb ((D.lookup (1, (((List.range L).getD i 0 : Nat) : Int), (y : Int))).getD 97)) (n := (L : Int)) (ta := tCons (tVar 2) tNil) (ea_cons (ev_var rfl) ea_nil) (by omega) (fun x => rfl) (fun _ _ _ _ => et_yes) (fun i H1 e1 hi _ => by
            have iL : i < L := by omega
            have z : (List.range L).getD i 0 = i := by
              rw [List.getD_eq_getElem?_getD, List.getElem?_range iL]
              rfl
            rw [z]
            refine ev_hue ((e.trans e1) _ _ hd) (ev_var rfl) (eu_is (eu_tup (ea_cons (ev_var rfl) (ea_cons (ev_var rfl) (ea_cons (ev_var rfl) ea_nil))) (by show 3 ≤ 100000; decide)) ?_)
            show [V.int 1, V.int (i : Int), V.int (0 + (y : Int))] = _
            rw [Int.zero_add]
            rfl)
        have g2 := given_all (List.range L) 0 (fun (x : Nat) => vb ((D.lookup (1, (x : Int), (y : Int))).getD 97))
        rw [List.length_range] at g2
        rw [Int.toNat_natCast, g2] at g
        rw [List.map_map]
        exact g
      dsimp only [tYes]
      rw [if_pos rfl]
      refine one _ (Ex.refl _) _ fun r H4 hr4 e4 h4 => ?_
      have nr : Dl ≠ r := fun z => by rw [← z, hqs] at hr4; cases hr4
      refine ⟨_, e4 _ _ hqs, ?_, ?_, qs ++ [r], ?_, ?_, fun m => ?_⟩
      · rw [List.length_map, hQ.1, List.length_take]
        exact sz_lt (by omega)
      · intro c o q1
        have hc : c ≠ Dl := fun z => by rw [z, hDl] at q1; cases q1
        rw [upd_ne hc]
        exact (e.trans e4) _ _ q1
      · rw [upd_same, List.map_append]
        rfl
      · rw [take_more hrow]
        refine RowsAt.snoc ⟨hQ.1, fun t c g h1 h2 => ?_⟩ ?_
        · rw [upd_ne (fun z => nq (by rw [← z]; exact List.mem_of_getElem? h1))]
          exact e4 _ _ (hQ.2 t c g h1 h2)
        · rw [upd_ne (Ne.symm nr)]
          exact h4
      · rcases List.mem_append.mp m with m | m
        · exact nq m
        · exact nr (by simpa using m)
    · rintro H' ⟨e, qs, hqs, hQ, _⟩
      rw [Int.toNat_natCast, ← lM, List.take_length] at hQ
      exact q Dl H' hDl e ⟨qs, hqs, hQ⟩
end
/-! ### the longest -/
def spLongest : Sp := fun vs H Q _ => ∃ (kind W Hh h : Int), vs = [.int kind, .int W, .int Hh, .int h] ∧ RetV (.int (Rug.longest kind W Hh h)) H Q
theorem sc_longest : FnScope ["kind", "wide", "high", "depth"] ["kind", "wide", "high", "depth"] (defScope s_longest) := ⟨rfl, rfl, rfl, by decide +kernel, rfl, by decide +kernel, by decide +kernel⟩
section
variable {P : Program} {w : World} {K : PySem.W.Frag} {mg : Str → Option Value} {base : Heap} {C fI B fB fS : Addr}
theorem ok_longest (T : Txt K mg C fI B fB fS) : Df P w K mg base CX0 1 "longest" ["kind", "wide", "high", "depth"] spLongest := by
  obtain ⟨f, fd, hf, F⟩ := T.d_longest.ex
  refine ⟨f, fd, hf, F.kp, F.binds fun _ _ _ _ _ _ us hl => match us, hl with | [_, _, _, _], _ => rfl, F.ok sc_longest (fun vs H Q E h => ?_) (fun cdv A outer s H vs Q E hr h => ⟨_,
    pss_cons (ps_if (pt_cmp (pc_eqI (pv 0) (pe_gint rfl T.g_RUN)) (nomark _)) (pss_one (ps_ret (pe_op op_add (pe_callB (call_min2 rfl) (by rfl) T.b_min (by decide +kernel) (pa_cons (pv 1) (pa_cons (pv 2) pa_nil))) (pv 3)))) pss_nil)
    (pss_cons (ps_if (pt_cmp (pc_eqI (pv 0) (pe_gint rfl T.g_MET)) (nomark _)) (pss_one (ps_ret (pe_op op_fdiv (pe_op op_add (pe_callB (call_min2 rfl) (by rfl) T.b_min (by decide +kernel) (pa_cons (pv 1) (pa_cons (pv 2) pa_nil))) (pe_op op_mul pe_int (pv 3))) pe_int))) pss_nil)
    (pss_one (ps_ret (pe_callB (call_min2 rfl) (by rfl) T.b_min (by decide +kernel) (pa_cons (pv 1) (pa_cons (pv 2) pa_nil)))))), ?_⟩)⟩
  · obtain ⟨kind, W, Hh, h, rfl, _⟩ := h
    rfl
  · obtain ⟨kind, W, Hh, h, rfl, q⟩ := h
    have two : ∀ {σ : L2.St} {H1 : Hp}, σ = [some (.int kind), some (.int W), some (.int Hh), some (.int h)] → EvA (tCons (tVar 1) (tCons (tVar 2) tNil)) σ H1 [.int W, .int Hh] := fun z => by
      rw [z]
      exact ea_cons (ev_var rfl) (ea_cons (ev_var rfl) ea_nil)
    refine q_when (et_B (ev_cmp (ev_var rfl) ev_c)) (fun c H1 e1 => ?_) fun c H1 e1 => ?_
    · have c := of_decide_eq_true c
      refine s_ret (v := .int (Rug.longest kind W Hh h)) (ev_is (ev_op (ev_min2 (two rfl)) (ev_var rfl) rv_I0) ?_) fun H2 e2 => q H2 (e1.trans e2)
      unfold Rug.longest
      rw [if_pos c]
    · have c := of_decide_eq_false c
      refine q_when (et_B (ev_cmp (ev_var rfl) ev_c)) (fun c2 H2 e2 => ?_) fun c2 H2 e2 => ?_
      · have c2 := of_decide_eq_true c2
        refine s_ret (v := .int (Rug.longest kind W Hh h)) (ev_is (ev_op (ev_op (ev_min2 (two rfl)) (ev_op ev_c (ev_var rfl) (rv_I (.inl ⟨by decide, by decide⟩))) rv_I0) ev_c (rv_I ⟨by decide, by decide⟩)) ?_) fun H3 e3 => q H3 ((e1.trans e2).trans e3)
        unfold Rug.longest
        rw [if_neg c, if_pos c2]
      · have c2 := of_decide_eq_false c2
        refine s_ret (v := .int (Rug.longest kind W Hh h)) (ev_is (ev_min2 (two rfl)) ?_) fun H3 e3 => q H3 ((e1.trans e2).trans e3)
        unfold Rug.longest
        rw [if_neg c, if_neg c2]
end
/-! ### the strip found -/
theorem foundAt_eq {rs : List (List UInt8)} {W Hn : Nat} (R : Rug.Right rs W Hn) {kind : Int} {L h : Nat} (hW : 2 * h < W) (hH : 2 * h < Hn) : Rug.foundAt kind L h rs =
    if Rug.fitsRound kind (L : Int) (h : Int) ((W - 2 * h : Nat) : Int) ((Hn - 2 * h : Nat) : Int) = true then (Rug.toldOf (Rug.hues kind L h (W - 2 * h) (Hn - 2 * h) rs)).map fun t => Rug.byRows L h fun i j => (t.lookup (1, (i : Int), (j : Int))).getD 97 else none := by
  unfold Rug.foundAt
  rw [R.head, R.high, show ((W : Nat) : Int) - 2 * (h : Int) = ((W - 2 * h : Nat) : Int) by omega, show ((Hn : Nat) : Int) - 2 * (h : Int) = ((Hn - 2 * h : Nat) : Int) by omega]
theorem foundStrip_eq {rs : List (List UInt8)} {W Hn : Nat} (R : Rug.Right rs W Hn) {kind : Int} {h : Nat} (hW : 2 * h < W) (hH : 2 * h < Hn) : Rug.foundStrip kind h rs =
    (List.range (Rug.longest kind ((W - 2 * h : Nat) : Int) ((Hn - 2 * h : Nat) : Int) (h : Int)).toNat).findSome? fun i => Rug.foundAt kind (i + 1) h rs := by
  unfold Rug.foundStrip
  rw [R.head, R.high, show ((W : Nat) : Int) - 2 * (h : Int) = ((W - 2 * h : Nat) : Int) by omega, show ((Hn : Nat) : Int) - 2 * (h : Int) = ((Hn - 2 * h : Nat) : Int) by omega]
def spFoundStrip : Sp := fun vs H Q _ => ∃ (a : Addr) (rs : List (List UInt8)) (h W Hn : Nat) (kind : Int), vs = [.ref a, .int (h : Int), .int kind] ∧ ChartAt H a rs ∧ Rug.Right rs W Hn ∧ 1 ≤ h ∧ 2 * h < W ∧ 2 * h < Hn ∧
  (Rug.foundStrip kind h rs = none → RetV .non H Q) ∧ (∀ u, Rug.foundStrip kind h rs = some u → ∀ p H', H p = none → Ex H H' → ChartAt H' p u → Q (.ref p) H')
theorem sc_found_strip : FnScope ["rows", "depth", "kind", "wide", "high", "length", "border", "told"] ["rows", "depth", "kind"] (defScope s_found_strip) := ⟨rfl, rfl, rfl, by decide +kernel, rfl, by decide +kernel, by decide +kernel⟩
section
variable {P : Program} {w : World} {K : PySem.W.Frag} {mg : Str → Option Value} {base : Heap} {C fI B fB fS : Addr}
theorem ok_found_strip (T : Txt K mg C fI B fB fS) : Df P w K mg base CX0 10 "found_strip" ["rows", "depth", "kind"] spFoundStrip := by
  obtain ⟨f, fd, hf, F⟩ := T.d_found_strip.ex
  obtain ⟨fdI, bI, GI⟩ := ok_binit (P := P) (w := w) (base := base) T
  refine ⟨f, fd, hf, F.kp, F.binds fun _ _ _ _ _ _ us hl => match us, hl with | [_, _, _], _ => rfl, F.ok sc_found_strip (fun vs H Q E h => ?_) (fun cdv A outer s H vs Q E hr h => ⟨_,
    pss_cons (ps_set (i := 3) sc_found_strip.nd rfl (Or.inl rfl) (pe_op op_sub (pe_callB call_len_seq (by rfl) T.b_len PySem.boot_len (pa_cons (pe_ix ix_list (pv 0) pe_int (fun _ _ => rfl)) pa_nil)) (pe_op op_mul pe_int (pv 1))))
    (pss_cons (ps_set (i := 4) sc_found_strip.nd rfl (Or.inl rfl) (pe_op op_sub (pe_callB call_len_seq (by rfl) T.b_len PySem.boot_len (pa_cons (pv 0) pa_nil)) (pe_op op_mul pe_int (pv 1))))
    (pss_cons (ps_for PassesOwn.never rfl (pi_range2 (by rfl) T.b_range (by exact pa_cons pe_int (pa_cons (pe_op op_add (pe_df (ok_longest T) (hr.mono (by decide)) rfl (by exact pa_cons (pv 2) (pa_cons (pv 3) (pa_cons (pv 4) (pa_cons (pv 1) pa_nil))))) pe_int) pa_nil))) (pg_name (i := 5) sc_found_strip.nd rfl (Or.inl rfl))
      (pss_cons (ps_set (i := 6) sc_found_strip.nd rfl (Or.inl rfl) (pe_make T.mkB GI (hr.mono (by decide)) rfl T.gB bI .nil pass0 (by exact pa_cons (pv 2) (pa_cons (pv 5) (pa_cons (pv 1) (pa_cons (pv 3) (pa_cons (pv 4) pa_nil)))))))
      (pss_one (ps_if (pt_val (pe_df (ok_fits_round T) (hr.mono (by decide)) rfl (by exact pa_cons (pv 6) pa_nil)))
        (pss_cons (ps_set (i := 7) sc_found_strip.nd rfl (Or.inl rfl) (pe_df (ok_colours_told T) (hr.mono (by decide)) rfl (by exact pa_cons (pv 6) (pa_cons (pv 0) pa_nil))))
        (pss_one (ps_if (pt_cmp (pc_notN (pv 7)) rfl) (pss_one (ps_ret (pe_df (ok_chart_told T) (hr.mono (by decide)) rfl (by exact pa_cons (pv 7) (pa_cons pe_int (pa_cons (pv 5) (pa_cons (pv 1) pa_nil))))))) pss_nil))) pss_nil))))
    (pss_one (ps_ret pe_non)))), ?_⟩)⟩
  · obtain ⟨a, rs, h, W, Hn, kind, rfl, _⟩ := h
    rfl
  · obtain ⟨a, rs, h, W, Hn, kind, rfl, hC, R, h1, hW, hH, q1, q2⟩ := h
    obtain ⟨xs, hx, lx⟩ := hC.len (K := K)
    obtain ⟨r0, hr0, _⟩ := Rug.right_row (x := 0) (y := 0) R (by omega) (by omega)
    have l0 : r0.length = W := R.each r0 (List.mem_of_getElem? hr0)
    obtain ⟨ys, p0, hy, ly, h0', hp0⟩ := hC.row (K := K) hr0
    have lH : xs.length = Hn := by rw [lx, R.high]
    have wB := R.w2
    have hB := R.h2
    rw [foundStrip_eq R hW hH] at q1 q2
    have L1 := Rug.longest_le (kind := kind) (h := (h : Int)) (W := ((W - 2 * h : Nat) : Int)) (H := ((Hn - 2 * h : Nat) : Int)) (by omega) (by omega) (by omega) (by omega)
    have L0 : (1 : Int) ≤ Rug.longest kind ((W - 2 * h : Nat) : Int) ((Hn - 2 * h : Nat) : Int) (h : Int) := by
      unfold Rug.longest
      split
      · omega
      · split <;> omega
    refine q_asg (v := .int ((W - 2 * h : Nat) : Int)) (ev_is (ev_op (ev_len (p := p0) (xs := r0.map vb) (ev_op (ev_var rfl) ev_c (rv_ixL hy h0')) (SqL.of hp0)) (ev_op ev_c (ev_var rfl) (rv_I (.inl ⟨by decide, by decide⟩))) rv_I0) ?_) fun H1 e1 => ?_
    · show V.int (((r0.map vb).length : Int) - 2 * (h : Int)) = _
      rw [List.length_map, l0]
      congr 1
      omega
    refine q_asg (v := .int ((Hn - 2 * h : Nat) : Int)) (ev_is (ev_op (ev_len (p := a) (xs := xs) (ev_var rfl) (ex_l e1 hx)) (ev_op ev_c (ev_var rfl) (rv_I (.inl ⟨by decide, by decide⟩))) rv_I0) ?_) fun H2 e2 => ?_
    · show V.int ((xs.length : Int) - 2 * (h : Int)) = _
      rw [lH]
      congr 1
      omega
    have e02 := e1.trans e2
    refine q_forR2 (lo := 1) (n := Rug.longest kind ((W - 2 * h : Nat) : Int) ((Hn - 2 * h : Nat) : Int) (h : Int) + 1) (ea_cons ev_c (ea_cons (ev_op (ev_df (v := .int (Rug.longest kind ((W - 2 * h : Nat) : Int) ((Hn - 2 * h : Nat) : Int) (h : Int))) (ea_cons (ev_var rfl) (ea_cons (ev_var rfl) (ea_cons (ev_var rfl) (ea_cons (ev_var rfl) ea_nil))))
        fun H3 e3 Q' E' q' => ⟨kind, _, _, (h : Int), rfl, q'⟩) ev_c rv_I0) ea_nil)) (by omega)
      (fun i σ H' => ∃ v5 v6 v7 : Option V, σ = [some (.ref a), some (.int (h : Int)), some (.int kind), some (.int ((W - 2 * h : Nat) : Int)), some (.int ((Hn - 2 * h : Nat) : Int)), v5, v6, v7] ∧ Ex H H' ∧ ∀ j, j < i → Rug.foundAt kind (j + 1) h rs = none)
      (fun H3 e3 => ⟨none, none, none, rfl, e02.trans e3, fun j hj => absurd hj (Nat.not_lt_zero j)⟩) ?_ ?_
    · rintro i σ' H3 hi ⟨v5, v6, v7, rfl, e3, none3⟩
      have z : (1 : Int) + (i : Int) = ((i + 1 : Nat) : Int) := by omega
      rw [z]
      have at3 := foundAt_eq R (kind := kind) (L := i + 1) hW hH
      refine ⟨_, rfl, _, rfl, _, rfl, _, rfl, _, rfl, ?_⟩
      intro bd dx nx nd ne
      refine ⟨bd, dx, kind, ((i + 1 : Nat) : Int), (h : Int), ((W - 2 * h : Nat) : Int), ((Hn - 2 * h : Nat) : Int), rfl, upd_same, fun H4 J kp => ⟨rfl, ?_⟩⟩
      have e4 : Ex H3 H4 := Same.made nx nd kp
      obtain ⟨dx4, hb4⟩ := J
      dsimp only [gName]
      refine s_when (et_B (ev_df (v := .bl (Rug.fitsRound kind ((i + 1 : Nat) : Int) (h : Int) ((W - 2 * h : Nat) : Int) ((Hn - 2 * h : Nat) : Int))) (ea_cons (ev_var rfl) ea_nil) fun H5 e5 Q' E' q' => ⟨bd, kind, _, _, _, _, rfl, ⟨dx4, e5 _ _ hb4⟩, by omega, q'⟩)) (fun c H5 e5 => ?_) fun c H5 e5 => ?_
      · rw [if_pos c] at at3
        have e05 := (e3.trans e4).trans e5
        refine ⟨_, rfl, _, rfl, bd, a, kind, i + 1, h, W - 2 * h, Hn - 2 * h, rs, rfl, ⟨dx4, e5 _ _ hb4⟩, hC.ex e05, (by rw [show W - 2 * h + 2 * h = W by omega, show Hn - 2 * h + 2 * h = Hn by omega]; exact R), by omega, fun eD => ?_, fun D eD d H6 hd e6 h6 => ?_⟩
        · rw [eD] at at3
          intro H6 e6
          dsimp only [gName]
          refine ⟨_, rfl, _, rfl, iteND (fun ne => absurd rfl ne) fun _ => ⟨_, _, _, rfl, e05.trans e6, fun j hj => ?_⟩⟩
          rcases Nat.lt_or_ge j i with lt | ge
          · exact none3 j lt
          · rw [show j = i by omega]
            exact at3
        · rw [eD] at at3
          dsimp only [gName]
          have e06 := e05.trans e6
          have n3 : (fun i => Rug.foundAt kind (i + 1) h rs) i = some (Rug.byRows (i + 1) h fun i j => (D.lookup (1, (i : Int), (j : Int))).getD 97) := at3
          refine ⟨_, rfl, _, rfl, iteND (fun _ => ?_) fun z => nomatch z⟩
          refine ⟨_, rfl, _, rfl, _, rfl, d, D, i + 1, h, rfl, h6, by omega, by omega, fun p H7 hp e7 hC7 => ?_⟩
          exact q2 _ (Rug.findSome_hit (i := i) (by omega) none3 n3) p H7 (fresh_back e06 hp) (e06.trans e7) hC7
      · rw [if_neg (by rw [c]; exact Bool.false_ne_true)] at at3
        refine ⟨_, _, _, rfl, (e3.trans e4).trans e5, fun j hj => ?_⟩
        rcases Nat.lt_or_ge j i with lt | ge
        · exact none3 j lt
        · rw [show j = i by omega]
          exact at3
    · rintro σ' H3 ⟨v5, v6, v7, rfl, e3, none3⟩
      exact q1 (Rug.findSome_miss fun j hj => none3 j (by omega)) H3 e3
end
/-! ### found -/
def spFound (K : PySem.W.Frag) : Sp := fun vs H Q _ => ∃ (h kind : Int) (a : Addr) (b : List UInt8), vs = [.int h, .int kind, .ref a] ∧ SqL K H a (b.map vb) ∧ 0 ≤ h ∧ 0 ≤ kind ∧ ∀ (H' : Hp) (l : Addr), H' l = some (.lst ((Rug.foundAns h kind b).map V.int)) → Q (.ref l) H'
theorem sc_found : FnScope ["h", "kind", "t", "rows", "refusal", "strip"] ["h", "kind", "t"] (defScope s_found) := ⟨rfl, rfl, rfl, by decide +kernel, rfl, by decide +kernel, by decide +kernel⟩
theorem strip_small {kind : Int} {h : Nat} {rs u : List (List UInt8)} {W Hn : Nat} (R : Rug.Right rs W Hn) (h1 : 1 ≤ h) (hW : 2 * h < W) (hH : 2 * h < Hn) (e : Rug.foundStrip kind h rs = some u) : (Rug.txt u).length ≤ h * 513 := by
  rw [foundStrip_eq R hW hH] at e
  obtain ⟨i, hi, hu⟩ := List.exists_of_findSome?_eq_some e
  have wB := R.w2
  have L1 := Rug.longest_le (kind := kind) (h := (h : Int)) (W := ((W - 2 * h : Nat) : Int)) (H := ((Hn - 2 * h : Nat) : Int)) (by omega) (by omega) (by omega) (by omega)
  have il := List.mem_range.mp hi
  obtain ⟨k1, k2⟩ := Rug.foundAt_len hu
  have t := txt_len (W := 512) fun r hr => Nat.le_trans (k2 r hr) (by omega)
  rw [k1] at t
  exact t
section
variable {P : Program} {w : World} {K : PySem.W.Frag} {mg : Str → Option Value} {base : Heap} {C fI B fB fS : Addr}
theorem ok_found {f : Addr} {fd : FuncData} (F : Fun K "found" "found" s_found f fd) (T : Txt K mg C fI B fB fS) : FnOk P w K mg base CX0 25 f fd ["h", "kind", "t"] (spFound K) := by
  refine F.ok sc_found (fun vs H Q E h => ?_) (fun cdv A outer s H vs Q E hr h => ⟨_,
    pss_cons (ps_try_as (i := 4) (tb := fun W => tSeq (tAsg (tCallS (spRugOf K C) (WE W) (tCons (tVar 0) (tCons (tVar 2) tNil))) (gName 3)) (tDrop (tCallS (spLookKind C) (WE W) (tCons (tVar 1) tNil))))
      (ts := fun a cls d => tRet (tLst (tCons (tByRef C a cls d (tVar 4)) tNil))) (Wout := fun _ _ _ _ => False) rfl rfl sc_found.nd rfl rfl ⟨rfl, by decide, Or.inl T.ref.gC⟩ takes0
      (fun W pn xe tk _ => pss_cons (ps_set (i := 3) sc_found.nd rfl (.inl rfl) (by exact pe_dfS (ok_rug_of T) (hr.mono (by decide)) rfl tk (by exact pa_cons (pv 0) (pa_cons (pv 2) pa_nil))))
        (pss_one (ps_expr (by exact pe_dfS (ok_look_kind T) (hr.mono (by decide)) rfl tk (by exact pa_cons (pv 1) pa_nil)))))
      (fun a oe cls d pn hz hf => pss_one (ps_ret (pe_lst (by exact pa_cons (pe_byRef T.ref hz hf (pv 4)) pa_nil)))))
    (pss_cons (ps_set (i := 5) sc_found.nd rfl (.inl rfl) (pe_df (ok_found_strip T) (hr.mono (by decide)) rfl (by exact pa_cons (pv 3) (pa_cons (pv 0) (pa_cons (pv 1) pa_nil)))))
    (pss_cons (ps_if (pt_cmp (pc_isN (pv 5)) rfl) (pss_one (ps_ret (pe_lst (pa_cons (pe_un un_neg pe_int) pa_nil)))) pss_nil)
    (pss_one (ps_ret (pe_df (ok_counted T) (hr.mono (by decide)) rfl (by exact pa_cons (pe_df (ok_chart_text T) (hr.mono (by decide)) rfl (by exact pa_cons (pv 5) pa_nil)) pa_nil)))))), ?_⟩)
  · obtain ⟨h, kind, a, b, rfl, _⟩ := h
    rfl
  · obtain ⟨h, kind, a, b, rfl, hS, h0, k0, q⟩ := h
    unfold Rug.foundAns at q
    refine ⟨_, rfl, _, rfl, h, a, b, rfl, hS, fun z c => ?_, fun rs c p H1 hp e1 hC => ?_⟩
    · rw [c] at q
      intro H' d s2 hd
      refine ⟨true, T.ref.te, fun _ a0 _ => ?_, fun z => Bool.noConfusion z⟩
      exact ⟨_, rfl, rfl, rfl, d, _, rfl, hd, (by show 1 ≤ sizeLine; decide), fun l hl => q _ l upd_same⟩
    · rw [c] at q
      dsimp only at q
      obtain ⟨R, g1, g2, g3, g4⟩ := Rug.rug_right c
      have w0 : h = ((h.toNat : Nat) : Int) := by omega
      dsimp only [gName]
      refine ⟨_, rfl, kind, rfl, fun nk => ?_, fun ok => ?_⟩
      · rw [if_pos (by omega)] at q
        intro H' d s2 hd
        refine ⟨true, T.ref.te, fun _ a0 _ => ?_, fun z => Bool.noConfusion z⟩
        exact ⟨_, rfl, rfl, rfl, d, _, rfl, hd, (by show 1 ≤ sizeLine; decide), fun l hl => q _ l upd_same⟩
      · rw [if_neg (by omega)] at q
        refine ⟨_, rfl, _, rfl, _, rfl, p, rs, h.toNat, (rs.headD []).length, rs.length, kind, (by rw [← w0]), hC, R, by omega, by omega, by omega, fun e => ?_, fun u e p2 H2 hp2 e2 hC2 => ?_⟩
        · rw [e] at q
          intro H2 e2
          dsimp only [gName]
          refine ⟨_, rfl, _, rfl, iteD (fun _ => ?_) fun ne => absurd rfl ne⟩
          exact ⟨_, rfl, (by show 1 ≤ sizeLine; decide), fun l hl => q _ l upd_same⟩
        · rw [e] at q
          dsimp only at q
          dsimp only [gName]
          have small := strip_small R (by omega) (by omega) (by omega) e
          have few : h.toNat * 513 ≤ 128 * 513 := Nat.mul_le_mul_right _ (by omega)
          refine ⟨_, rfl, _, rfl, iteD (fun z => nomatch z) fun _ => ?_⟩
          refine ⟨_, rfl, p2, u, rfl, hC2, by omega, fun p3 H3 hp3 e3 h3 => ?_⟩
          refine ⟨p3, _, rfl, h3, by rw [List.length_map]; omega, fun p4 H4 hp4 e4 h4 => ?_⟩
          refine q H4 p4 ?_
          rw [h4, counted_map]
end
/-! ### the end -/
theorem all_mk {P : Program} {w : World} {K : PySem.W.Frag} {h : Heap} {mg : Str → Option Value} {fa C f1 B fB fS fd0 fd1 fd2 fd3 fd4 fd5 fd6 fd7 fd8 fd9 fd10 fd11 fd12 fd13 fd14 fd15 fd16 fd17 fd18 fd19 fd20 fd21 fd22 fd23 : Addr} {tk0 tk1 tk2 tk3 tk4 tk5 tk6 tk7 tk8 tk9 tk10 tk11 tk12 : Tok} (X : K.In h) (G : h.Ns mainGlobals mg) (hfa : mg "found" = some (.ref fa))
    {nm q : Str} {N : Addr} {bs : List Value} {sn : List Str} {sub : List Value} {ab : Bool} {col : Option Bool} {dd : Option Addr} {m0 m1 m2 m3 m5 : Option Value}
    {od1 an1 : Option Addr} {sl1 : Array (Option Value)} {oc1 dc1 pm1 cd1 ct1 : Value}
    {odI anI : Option Addr} {slI : Array (Option Value)} {ocI kVI dcI pmI cdI ctI : Value}
    {odS anS : Option Addr} {slS : Array (Option Value)} {ocS kVS dcS pmS cdS ctS : Value}
    {odd0 and0 : Option Addr} {sld0 : Array (Option Value)} {ocd0 kVd0 dcd0 pmd0 cdd0 ctd0 : Value}
    {odd1 and1 : Option Addr} {sld1 : Array (Option Value)} {ocd1 kVd1 dcd1 pmd1 cdd1 ctd1 : Value}
    {odd2 and2 : Option Addr} {sld2 : Array (Option Value)} {ocd2 kVd2 dcd2 pmd2 cdd2 ctd2 : Value}
    {odd3 and3 : Option Addr} {sld3 : Array (Option Value)} {ocd3 kVd3 dcd3 pmd3 cdd3 ctd3 : Value}
    {odd4 and4 : Option Addr} {sld4 : Array (Option Value)} {ocd4 kVd4 dcd4 pmd4 cdd4 ctd4 : Value}
    {odd5 and5 : Option Addr} {sld5 : Array (Option Value)} {ocd5 kVd5 dcd5 pmd5 cdd5 ctd5 : Value}
    {odd6 and6 : Option Addr} {sld6 : Array (Option Value)} {ocd6 kVd6 dcd6 pmd6 cdd6 ctd6 : Value}
    {odd7 and7 : Option Addr} {sld7 : Array (Option Value)} {ocd7 kVd7 dcd7 pmd7 cdd7 ctd7 : Value}
    {odd8 and8 : Option Addr} {sld8 : Array (Option Value)} {ocd8 kVd8 dcd8 pmd8 cdd8 ctd8 : Value}
    {odd9 and9 : Option Addr} {sld9 : Array (Option Value)} {ocd9 kVd9 dcd9 pmd9 cdd9 ctd9 : Value}
    {odd10 and10 : Option Addr} {sld10 : Array (Option Value)} {ocd10 kVd10 dcd10 pmd10 cdd10 ctd10 : Value}
    {odd11 and11 : Option Addr} {sld11 : Array (Option Value)} {ocd11 kVd11 dcd11 pmd11 cdd11 ctd11 : Value}
    {odd12 and12 : Option Addr} {sld12 : Array (Option Value)} {ocd12 kVd12 dcd12 pmd12 cdd12 ctd12 : Value}
    {odd13 and13 : Option Addr} {sld13 : Array (Option Value)} {ocd13 kVd13 dcd13 pmd13 cdd13 ctd13 : Value}
    {odd14 and14 : Option Addr} {sld14 : Array (Option Value)} {ocd14 kVd14 dcd14 pmd14 cdd14 ctd14 : Value}
    {odd15 and15 : Option Addr} {sld15 : Array (Option Value)} {ocd15 kVd15 dcd15 pmd15 cdd15 ctd15 : Value}
    {odd16 and16 : Option Addr} {sld16 : Array (Option Value)} {ocd16 kVd16 dcd16 pmd16 cdd16 ctd16 : Value}
    {odd17 and17 : Option Addr} {sld17 : Array (Option Value)} {ocd17 kVd17 dcd17 pmd17 cdd17 ctd17 : Value}
    {odd18 and18 : Option Addr} {sld18 : Array (Option Value)} {ocd18 kVd18 dcd18 pmd18 cdd18 ctd18 : Value}
    {odd19 and19 : Option Addr} {sld19 : Array (Option Value)} {ocd19 kVd19 dcd19 pmd19 cdd19 ctd19 : Value}
    {odd20 and20 : Option Addr} {sld20 : Array (Option Value)} {ocd20 kVd20 dcd20 pmd20 cdd20 ctd20 : Value}
    {odd21 and21 : Option Addr} {sld21 : Array (Option Value)} {ocd21 kVd21 dcd21 pmd21 cdd21 ctd21 : Value}
    {odd22 and22 : Option Addr} {sld22 : Array (Option Value)} {ocd22 kVd22 dcd22 pmd22 cdd22 ctd22 : Value}
    {odd23 and23 : Option Addr} {sld23 : Array (Option Value)} {ocd23 kVd23 dcd23 pmd23 cdd23 ctd23 : Value}
    (aC : PySem.W.nsIn K mainGlobals "Refused" = some (some (.ref C)))
    (xL : K.lookup C = some (excClassObj nm q C N bs [.type "ValueError", .type "Exception", .type "BaseException", .type "object"] true sn sub ab col dd m0 m1 m2 m3 m5 "ValueError.__new__"))
    (sa : PySem.W.findIn K (.ref C) "__setattr__" = some (some (.builtin "object.__setattr__")))
    (ga : PySem.W.findIn K (.ref C) "__getattribute__" = some (some (.builtin "BaseException.__getattribute__")))
    (gg : PySem.W.findIn K (.ref C) "__getattr__" = some none)
    (nb : PySem.W.findIn K (.ref C) "code" = some none)
    (a1 : PySem.W.findIn K (.ref C) "__init__" = some (some (.ref f1)))
    (t1 : PySem.W.typeIn K (.ref f1) = some (.type "function"))
    (l1 : K.lookup f1 = some ⟨oc1, od1, .func (PySem.W.fnOf "__init__" "Refused.__init__" (PySem.RefX.iA ⟨9, 17, 9, 21⟩ ⟨9, 23, 9, 27⟩) (PySem.RefX.iB ⟨10, 8, 10, 12⟩ ⟨10, 8, 10, 17⟩ ⟨10, 20, 10, 24⟩ ⟨10, 8, 10, 24⟩) PySem.RefX.iS .none .none dc1 pm1 an1 cd1 ct1), sl1⟩)
    (c1 : PySem.W.codeIn K cd1 "Refused.__init__" = true)
    (kC : PySem.W.keepIn K (.ref C) = true)
    (eC : PySem.W.subIn K (.ref C) (.type "BaseException") = some true)
    (tC : PySem.W.typeIn K (.ref C) = some (.type "type"))
    (hC : PySem.W.hasDictIn K C = true)
    (iC : PySem.W.isClsIn K C = true)
    (sC : PySem.W.subIn K (.ref C) (.ref C) = some true)
    (aB : PySem.W.nsIn K mainGlobals "Border" = some (some (.ref B)))
    (aI : PySem.W.findIn K (.ref B) "__init__" = some (some (.ref fB)))
    (iI : PySem.W.isFn K (.ref fB) = true)
    (lI : K.lookup fB = some ⟨ocI, odI, .func (PySem.W.fnOf "__init__" "Border.__init__" (defArgs s_binit) (defBody s_binit) (defScope s_binit) .none kVI dcI pmI anI cdI ctI), slI⟩)
    (cI : PySem.W.codeIn K cdI "Border.__init__" = true)
    (kI : PySem.W.keepIn K (.ref fB) = true)
    (aS : PySem.W.findIn K (.ref B) "strip" = some (some (.ref fS)))
    (iS : PySem.W.isFn K (.ref fS) = true)
    (lS : K.lookup fS = some ⟨ocS, odS, .func (PySem.W.fnOf "strip" "Border.strip" (defArgs s_bstrip) (defBody s_bstrip) (defScope s_bstrip) .none kVS dcS pmS anS cdS ctS), slS⟩)
    (cS : PySem.W.codeIn K cdS "Border.strip" = true)
    (kS : PySem.W.keepIn K (.ref fS) = true)
    (pg : PySem.W.plainGet K B Str.empty = true)
    (hd : PySem.W.hasDictIn K B = true)
    (po : PySem.W.plainOver K B = true)
    (sb : PySem.W.findIn K (.ref B) "__setattr__" = some (some (.builtin "object.__setattr__")))
    (mkB : PySem.W.makesIn K B = true)
    (kB : PySem.W.keepIn K (.ref B) = true)
    (nB_kind : PySem.W.findIn K (.ref B) "kind" = some none)
    (nB_length : PySem.W.findIn K (.ref B) "length" = some none)
    (nB_depth : PySem.W.findIn K (.ref B) "depth" = some none)
    (nB_wide : PySem.W.findIn K (.ref B) "wide" = some none)
    (nB_high : PySem.W.findIn K (.ref B) "high" = some none)
    (nB_whole_wide : PySem.W.findIn K (.ref B) "whole_wide" = some none)
    (nB_whole_high : PySem.W.findIn K (.ref B) "whole_high" = some none)
    (g0 : PySem.W.nsIn K mainGlobals "LINE_END" = some (some (.int 10 tk0)))
    (g1 : PySem.W.nsIn K mainGlobals "FIRST_COLOUR" = some (some (.int 97 tk1)))
    (g2 : PySem.W.nsIn K mainGlobals "MOST_SIDE" = some (some (.int 512 tk2)))
    (g3 : PySem.W.nsIn K mainGlobals "MOST_KNOTS" = some (some (.int 65536 tk3)))
    (g4 : PySem.W.nsIn K mainGlobals "MOST_BYTES" = some (some (.int 66048 tk4)))
    (g5 : PySem.W.nsIn K mainGlobals "SET" = some (some (.int 0 tk5)))
    (g6 : PySem.W.nsIn K mainGlobals "MET" = some (some (.int 1 tk6)))
    (g7 : PySem.W.nsIn K mainGlobals "RUN" = some (some (.int 2 tk7)))
    (g8 : PySem.W.nsIn K mainGlobals "OF_FIELD" = some (some (.int 0 tk8)))
    (g9 : PySem.W.nsIn K mainGlobals "OF_STRIP" = some (some (.int 1 tk9)))
    (g10 : PySem.W.nsIn K mainGlobals "OF_CORNER" = some (some (.int 2 tk10)))
    (g11 : PySem.W.nsIn K mainGlobals "MOST_KIND" = some (some (.int 2 tk11)))
    (g12 : PySem.W.nsIn K mainGlobals "MOST_DEPTH" = some (some (.int 128 tk12)))
    (z0 : PySem.W.nsIn K mainGlobals "all" = some none)
    (z1 : PySem.W.nsIn K mainGlobals "len" = some none)
    (z2 : PySem.W.nsIn K mainGlobals "max" = some none)
    (z3 : PySem.W.nsIn K mainGlobals "min" = some none)
    (z4 : PySem.W.nsIn K mainGlobals "range" = some none)
    (ad0 : PySem.W.nsIn K mainGlobals "is_colour" = some (some (.ref fd0)))
    (ld0 : K.lookup fd0 = some ⟨ocd0, odd0, .func (PySem.W.fnOf "is_colour" "is_colour" (defArgs s_is_colour) (defBody s_is_colour) (defScope s_is_colour) .none kVd0 dcd0 pmd0 and0 cdd0 ctd0), sld0⟩)
    (cd0 : PySem.W.codeIn K cdd0 "is_colour" = true)
    (kd0 : PySem.W.keepIn K (.ref fd0) = true)
    (ad1 : PySem.W.nsIn K mainGlobals "rows_of" = some (some (.ref fd1)))
    (ld1 : K.lookup fd1 = some ⟨ocd1, odd1, .func (PySem.W.fnOf "rows_of" "rows_of" (defArgs s_rows_of) (defBody s_rows_of) (defScope s_rows_of) .none kVd1 dcd1 pmd1 and1 cdd1 ctd1), sld1⟩)
    (cd1 : PySem.W.codeIn K cdd1 "rows_of" = true)
    (kd1 : PySem.W.keepIn K (.ref fd1) = true)
    (ad2 : PySem.W.nsIn K mainGlobals "is_right" = some (some (.ref fd2)))
    (ld2 : K.lookup fd2 = some ⟨ocd2, odd2, .func (PySem.W.fnOf "is_right" "is_right" (defArgs s_is_right) (defBody s_is_right) (defScope s_is_right) .none kVd2 dcd2 pmd2 and2 cdd2 ctd2), sld2⟩)
    (cd2 : PySem.W.codeIn K cdd2 "is_right" = true)
    (kd2 : PySem.W.keepIn K (.ref fd2) = true)
    (ad3 : PySem.W.nsIn K mainGlobals "read_chart" = some (some (.ref fd3)))
    (ld3 : K.lookup fd3 = some ⟨ocd3, odd3, .func (PySem.W.fnOf "read_chart" "read_chart" (defArgs s_read_chart) (defBody s_read_chart) (defScope s_read_chart) .none kVd3 dcd3 pmd3 and3 cdd3 ctd3), sld3⟩)
    (cd3 : PySem.W.codeIn K cdd3 "read_chart" = true)
    (kd3 : PySem.W.keepIn K (.ref fd3) = true)
    (ad4 : PySem.W.nsIn K mainGlobals "chart_text" = some (some (.ref fd4)))
    (ld4 : K.lookup fd4 = some ⟨ocd4, odd4, .func (PySem.W.fnOf "chart_text" "chart_text" (defArgs s_chart_text) (defBody s_chart_text) (defScope s_chart_text) .none kVd4 dcd4 pmd4 and4 cdd4 ctd4), sld4⟩)
    (cd4 : PySem.W.codeIn K cdd4 "chart_text" = true)
    (kd4 : PySem.W.keepIn K (.ref fd4) = true)
    (ad5 : PySem.W.nsIn K mainGlobals "look_length" = some (some (.ref fd5)))
    (ld5 : K.lookup fd5 = some ⟨ocd5, odd5, .func (PySem.W.fnOf "look_length" "look_length" (defArgs s_look_length) (defBody s_look_length) (defScope s_look_length) .none kVd5 dcd5 pmd5 and5 cdd5 ctd5), sld5⟩)
    (cd5 : PySem.W.codeIn K cdd5 "look_length" = true)
    (kd5 : PySem.W.keepIn K (.ref fd5) = true)
    (ad6 : PySem.W.nsIn K mainGlobals "fits_along" = some (some (.ref fd6)))
    (ld6 : K.lookup fd6 = some ⟨ocd6, odd6, .func (PySem.W.fnOf "fits_along" "fits_along" (defArgs s_fits_along) (defBody s_fits_along) (defScope s_fits_along) .none kVd6 dcd6 pmd6 and6 cdd6 ctd6), sld6⟩)
    (cd6 : PySem.W.codeIn K cdd6 "fits_along" = true)
    (kd6 : PySem.W.keepIn K (.ref fd6) = true)
    (ad7 : PySem.W.nsIn K mainGlobals "fits_round" = some (some (.ref fd7)))
    (ld7 : K.lookup fd7 = some ⟨ocd7, odd7, .func (PySem.W.fnOf "fits_round" "fits_round" (defArgs s_fits_round) (defBody s_fits_round) (defScope s_fits_round) .none kVd7 dcd7 pmd7 and7 cdd7 ctd7), sld7⟩)
    (cd7 : PySem.W.codeIn K cdd7 "fits_round" = true)
    (kd7 : PySem.W.keepIn K (.ref fd7) = true)
    (ad8 : PySem.W.nsIn K mainGlobals "corner_knot" = some (some (.ref fd8)))
    (ld8 : K.lookup fd8 = some ⟨ocd8, odd8, .func (PySem.W.fnOf "corner_knot" "corner_knot" (defArgs s_corner_knot) (defBody s_corner_knot) (defScope s_corner_knot) .none kVd8 dcd8 pmd8 and8 cdd8 ctd8), sld8⟩)
    (cd8 : PySem.W.codeIn K cdd8 "corner_knot" = true)
    (kd8 : PySem.W.keepIn K (.ref fd8) = true)
    (ad9 : PySem.W.nsIn K mainGlobals "set_knot" = some (some (.ref fd9)))
    (ld9 : K.lookup fd9 = some ⟨ocd9, odd9, .func (PySem.W.fnOf "set_knot" "set_knot" (defArgs s_set_knot) (defBody s_set_knot) (defScope s_set_knot) .none kVd9 dcd9 pmd9 and9 cdd9 ctd9), sld9⟩)
    (cd9 : PySem.W.codeIn K cdd9 "set_knot" = true)
    (kd9 : PySem.W.keepIn K (.ref fd9) = true)
    (ad10 : PySem.W.nsIn K mainGlobals "met_knot" = some (some (.ref fd10)))
    (ld10 : K.lookup fd10 = some ⟨ocd10, odd10, .func (PySem.W.fnOf "met_knot" "met_knot" (defArgs s_met_knot) (defBody s_met_knot) (defScope s_met_knot) .none kVd10 dcd10 pmd10 and10 cdd10 ctd10), sld10⟩)
    (cd10 : PySem.W.codeIn K cdd10 "met_knot" = true)
    (kd10 : PySem.W.keepIn K (.ref fd10) = true)
    (ad11 : PySem.W.nsIn K mainGlobals "run_knot" = some (some (.ref fd11)))
    (ld11 : K.lookup fd11 = some ⟨ocd11, odd11, .func (PySem.W.fnOf "run_knot" "run_knot" (defArgs s_run_knot) (defBody s_run_knot) (defScope s_run_knot) .none kVd11 dcd11 pmd11 and11 cdd11 ctd11), sld11⟩)
    (cd11 : PySem.W.codeIn K cdd11 "run_knot" = true)
    (kd11 : PySem.W.keepIn K (.ref fd11) = true)
    (ad12 : PySem.W.nsIn K mainGlobals "is_field" = some (some (.ref fd12)))
    (ld12 : K.lookup fd12 = some ⟨ocd12, odd12, .func (PySem.W.fnOf "is_field" "is_field" (defArgs s_is_field) (defBody s_is_field) (defScope s_is_field) .none kVd12 dcd12 pmd12 and12 cdd12 ctd12), sld12⟩)
    (cd12 : PySem.W.codeIn K cdd12 "is_field" = true)
    (kd12 : PySem.W.keepIn K (.ref fd12) = true)
    (ad13 : PySem.W.nsIn K mainGlobals "knot_of" = some (some (.ref fd13)))
    (ld13 : K.lookup fd13 = some ⟨ocd13, odd13, .func (PySem.W.fnOf "knot_of" "knot_of" (defArgs s_knot_of) (defBody s_knot_of) (defScope s_knot_of) .none kVd13 dcd13 pmd13 and13 cdd13 ctd13), sld13⟩)
    (cd13 : PySem.W.codeIn K cdd13 "knot_of" = true)
    (kd13 : PySem.W.keepIn K (.ref fd13) = true)
    (ad14 : PySem.W.nsIn K mainGlobals "look_kind" = some (some (.ref fd14)))
    (ld14 : K.lookup fd14 = some ⟨ocd14, odd14, .func (PySem.W.fnOf "look_kind" "look_kind" (defArgs s_look_kind) (defBody s_look_kind) (defScope s_look_kind) .none kVd14 dcd14 pmd14 and14 cdd14 ctd14), sld14⟩)
    (cd14 : PySem.W.codeIn K cdd14 "look_kind" = true)
    (kd14 : PySem.W.keepIn K (.ref fd14) = true)
    (ad15 : PySem.W.nsIn K mainGlobals "look_depth" = some (some (.ref fd15)))
    (ld15 : K.lookup fd15 = some ⟨ocd15, odd15, .func (PySem.W.fnOf "look_depth" "look_depth" (defArgs s_look_depth) (defBody s_look_depth) (defScope s_look_depth) .none kVd15 dcd15 pmd15 and15 cdd15 ctd15), sld15⟩)
    (cd15 : PySem.W.codeIn K cdd15 "look_depth" = true)
    (kd15 : PySem.W.keepIn K (.ref fd15) = true)
    (ad16 : PySem.W.nsIn K mainGlobals "look_within" = some (some (.ref fd16)))
    (ld16 : K.lookup fd16 = some ⟨ocd16, odd16, .func (PySem.W.fnOf "look_within" "look_within" (defArgs s_look_within) (defBody s_look_within) (defScope s_look_within) .none kVd16 dcd16 pmd16 and16 cdd16 ctd16), sld16⟩)
    (cd16 : PySem.W.codeIn K cdd16 "look_within" = true)
    (kd16 : PySem.W.keepIn K (.ref fd16) = true)
    (ad17 : PySem.W.nsIn K mainGlobals "colours_told" = some (some (.ref fd17)))
    (ld17 : K.lookup fd17 = some ⟨ocd17, odd17, .func (PySem.W.fnOf "colours_told" "colours_told" (defArgs s_colours_told) (defBody s_colours_told) (defScope s_colours_told) .none kVd17 dcd17 pmd17 and17 cdd17 ctd17), sld17⟩)
    (cd17 : PySem.W.codeIn K cdd17 "colours_told" = true)
    (kd17 : PySem.W.keepIn K (.ref fd17) = true)
    (ad18 : PySem.W.nsIn K mainGlobals "chart_told" = some (some (.ref fd18)))
    (ld18 : K.lookup fd18 = some ⟨ocd18, odd18, .func (PySem.W.fnOf "chart_told" "chart_told" (defArgs s_chart_told) (defBody s_chart_told) (defScope s_chart_told) .none kVd18 dcd18 pmd18 and18 cdd18 ctd18), sld18⟩)
    (cd18 : PySem.W.codeIn K cdd18 "chart_told" = true)
    (kd18 : PySem.W.keepIn K (.ref fd18) = true)
    (ad19 : PySem.W.nsIn K mainGlobals "longest" = some (some (.ref fd19)))
    (ld19 : K.lookup fd19 = some ⟨ocd19, odd19, .func (PySem.W.fnOf "longest" "longest" (defArgs s_longest) (defBody s_longest) (defScope s_longest) .none kVd19 dcd19 pmd19 and19 cdd19 ctd19), sld19⟩)
    (cd19 : PySem.W.codeIn K cdd19 "longest" = true)
    (kd19 : PySem.W.keepIn K (.ref fd19) = true)
    (ad20 : PySem.W.nsIn K mainGlobals "found_strip" = some (some (.ref fd20)))
    (ld20 : K.lookup fd20 = some ⟨ocd20, odd20, .func (PySem.W.fnOf "found_strip" "found_strip" (defArgs s_found_strip) (defBody s_found_strip) (defScope s_found_strip) .none kVd20 dcd20 pmd20 and20 cdd20 ctd20), sld20⟩)
    (cd20 : PySem.W.codeIn K cdd20 "found_strip" = true)
    (kd20 : PySem.W.keepIn K (.ref fd20) = true)
    (ad21 : PySem.W.nsIn K mainGlobals "counted" = some (some (.ref fd21)))
    (ld21 : K.lookup fd21 = some ⟨ocd21, odd21, .func (PySem.W.fnOf "counted" "counted" (defArgs s_counted) (defBody s_counted) (defScope s_counted) .none kVd21 dcd21 pmd21 and21 cdd21 ctd21), sld21⟩)
    (cd21 : PySem.W.codeIn K cdd21 "counted" = true)
    (kd21 : PySem.W.keepIn K (.ref fd21) = true)
    (ad22 : PySem.W.nsIn K mainGlobals "rug_of" = some (some (.ref fd22)))
    (ld22 : K.lookup fd22 = some ⟨ocd22, odd22, .func (PySem.W.fnOf "rug_of" "rug_of" (defArgs s_rug_of) (defBody s_rug_of) (defScope s_rug_of) .none kVd22 dcd22 pmd22 and22 cdd22 ctd22), sld22⟩)
    (cd22 : PySem.W.codeIn K cdd22 "rug_of" = true)
    (kd22 : PySem.W.keepIn K (.ref fd22) = true)
    (ad23 : PySem.W.nsIn K mainGlobals "found" = some (some (.ref fd23)))
    (ld23 : K.lookup fd23 = some ⟨ocd23, odd23, .func (PySem.W.fnOf "found" "found" (defArgs s_found) (defBody s_found) (defScope s_found) .none kVd23 dcd23 pmd23 and23 cdd23 ctd23), sld23⟩)
    (cd23 : PySem.W.codeIn K cdd23 "found" = true)
    (kd23 : PySem.W.keepIn K (.ref fd23) = true)
    : ∃ fd : FuncData, (∀ (s : Shared) (us : List Value), us.length = (["h", "kind", "t"] : List Str).length → BindsTo s fd ⟨us, []⟩ ((["h", "kind", "t"] : List Str).zip us)) ∧ ∀ base : Heap, K.In base → base.Ns mainGlobals mg → FnOk P w K mg base CX0 25 fa fd ["h", "kind", "t"] (spFound K) := by
  have low : PySem.RefX.RefTxt K mg C f1 :=
    { gC := PySem.W.mg_of X G aC, cls := ⟨nm, q, N, bs, _, sn, sub, ab, col, dd, m0, m1, m2, m3, m5, xL, by decide +kernel⟩, sa := sa, ga := ga, gg := gg, noN := nb, iC := a1, tC := t1, kC := kC, exC := eC, tyC := tC, hdC := hC, te := exm_self eC iC tC sC,
      fn := ⟨_, _, _, _, _, _, _, _, _, _, _, _, _, _, l1, c1⟩ }
  have T : Txt K mg C f1 B fB fS :=
    { ref := low
      gB := PySem.W.mg_of X G aB, cl := ⟨pg, hd, po, sb⟩, mkB := ⟨mkB, aI, iI, kB⟩, f_init := ⟨_, fun_mk (st := s_binit) lI cI kI⟩, mS := ⟨aS, iS, kS⟩, f_strip := ⟨_, fun_mk (st := s_bstrip) lS cS kS⟩
      n_kind := nB_kind
      n_length := nB_length
      n_depth := nB_depth
      n_wide := nB_wide
      n_high := nB_high
      n_whole_wide := nB_whole_wide
      n_whole_high := nB_whole_high
      g_LINE_END := ⟨_, PySem.W.mg_of X G g0⟩
      g_FIRST_COLOUR := ⟨_, PySem.W.mg_of X G g1⟩
      g_MOST_SIDE := ⟨_, PySem.W.mg_of X G g2⟩
      g_MOST_KNOTS := ⟨_, PySem.W.mg_of X G g3⟩
      g_MOST_BYTES := ⟨_, PySem.W.mg_of X G g4⟩
      g_SET := ⟨_, PySem.W.mg_of X G g5⟩
      g_MET := ⟨_, PySem.W.mg_of X G g6⟩
      g_RUN := ⟨_, PySem.W.mg_of X G g7⟩
      g_OF_FIELD := ⟨_, PySem.W.mg_of X G g8⟩
      g_OF_STRIP := ⟨_, PySem.W.mg_of X G g9⟩
      g_OF_CORNER := ⟨_, PySem.W.mg_of X G g10⟩
      g_MOST_KIND := ⟨_, PySem.W.mg_of X G g11⟩
      g_MOST_DEPTH := ⟨_, PySem.W.mg_of X G g12⟩
      b_all := PySem.W.mg_none_of X G z0
      b_len := PySem.W.mg_none_of X G z1
      b_max := PySem.W.mg_none_of X G z2
      b_min := PySem.W.mg_none_of X G z3
      b_range := PySem.W.mg_none_of X G z4
      d_is_colour := Fd.mk' (PySem.W.mg_of X G ad0) (fun_mk (st := s_is_colour) ld0 cd0 kd0)
      d_rows_of := Fd.mk' (PySem.W.mg_of X G ad1) (fun_mk (st := s_rows_of) ld1 cd1 kd1)
      d_is_right := Fd.mk' (PySem.W.mg_of X G ad2) (fun_mk (st := s_is_right) ld2 cd2 kd2)
      d_read_chart := Fd.mk' (PySem.W.mg_of X G ad3) (fun_mk (st := s_read_chart) ld3 cd3 kd3)
      d_chart_text := Fd.mk' (PySem.W.mg_of X G ad4) (fun_mk (st := s_chart_text) ld4 cd4 kd4)
      d_look_length := Fd.mk' (PySem.W.mg_of X G ad5) (fun_mk (st := s_look_length) ld5 cd5 kd5)
      d_fits_along := Fd.mk' (PySem.W.mg_of X G ad6) (fun_mk (st := s_fits_along) ld6 cd6 kd6)
      d_fits_round := Fd.mk' (PySem.W.mg_of X G ad7) (fun_mk (st := s_fits_round) ld7 cd7 kd7)
      d_corner_knot := Fd.mk' (PySem.W.mg_of X G ad8) (fun_mk (st := s_corner_knot) ld8 cd8 kd8)
      d_set_knot := Fd.mk' (PySem.W.mg_of X G ad9) (fun_mk (st := s_set_knot) ld9 cd9 kd9)
      d_met_knot := Fd.mk' (PySem.W.mg_of X G ad10) (fun_mk (st := s_met_knot) ld10 cd10 kd10)
      d_run_knot := Fd.mk' (PySem.W.mg_of X G ad11) (fun_mk (st := s_run_knot) ld11 cd11 kd11)
      d_is_field := Fd.mk' (PySem.W.mg_of X G ad12) (fun_mk (st := s_is_field) ld12 cd12 kd12)
      d_knot_of := Fd.mk' (PySem.W.mg_of X G ad13) (fun_mk (st := s_knot_of) ld13 cd13 kd13)
      d_look_kind := Fd.mk' (PySem.W.mg_of X G ad14) (fun_mk (st := s_look_kind) ld14 cd14 kd14)
      d_look_depth := Fd.mk' (PySem.W.mg_of X G ad15) (fun_mk (st := s_look_depth) ld15 cd15 kd15)
      d_look_within := Fd.mk' (PySem.W.mg_of X G ad16) (fun_mk (st := s_look_within) ld16 cd16 kd16)
      d_colours_told := Fd.mk' (PySem.W.mg_of X G ad17) (fun_mk (st := s_colours_told) ld17 cd17 kd17)
      d_chart_told := Fd.mk' (PySem.W.mg_of X G ad18) (fun_mk (st := s_chart_told) ld18 cd18 kd18)
      d_longest := Fd.mk' (PySem.W.mg_of X G ad19) (fun_mk (st := s_longest) ld19 cd19 kd19)
      d_found_strip := Fd.mk' (PySem.W.mg_of X G ad20) (fun_mk (st := s_found_strip) ld20 cd20 kd20)
      d_counted := Fd.mk' (PySem.W.mg_of X G ad21) (fun_mk (st := s_counted) ld21 cd21 kd21)
      d_rug_of := Fd.mk' (PySem.W.mg_of X G ad22) (fun_mk (st := s_rug_of) ld22 cd22 kd22)
      d_found := Fd.mk' (PySem.W.mg_of X G ad23) (fun_mk (st := s_found) ld23 cd23 kd23) }
  obtain ⟨f, fd, e1, F⟩ := T.d_found.ex
  cases (Value.ref.inj (Option.some.inj (hfa.symm.trans e1)) : fa = f)
  refine ⟨fd, ?_, fun base _ _ => ok_found F T⟩
  obtain ⟨_, _, _, _, _, _, _, _, _, rfl, _, _⟩ := F.ex
  exact fun s us hu => match us, hu with | [_, _, _], _ => .of_eq rfl
end RugW
open PySem PySem.W PyProof.Rows
set_option maxRecDepth 100000 in
set_option maxHeartbeats 8000000 in
theorem PySem.Challenge.cw_rugborders_s05_found_holds : PySem.Challenge.rw_rugborders_s05_found.Holds := by
  w_on; k_headS; (case hw => exact ⟨[.int 1, .int 0, .list []], by decide +kernel, by decide +kernel⟩)
  k_fillS
  refine L2.walk_specK (r := PySem.Challenge.rw_rugborders_s05_found) (k := 25) (CX := L2.CX0) (ps := ["h", "kind", "t"]) (sp := RugW.spFound) (by decide +kernel) rfl rfl ⟨rfl, by decide, by decide⟩ (fun w h Y => PySem.W.kIn_of Y) ?F ?S (fun _ _ _ _ z => z)
  case F =>
    intro w mg fa h Y KX G hmg
    refine' RugW.all_mk KX G hmg ?cs_aC ?cs_xL ?cs_sa ?cs_ga ?cs_gg ?cs_nb ?cs_a1 ?cs_t1 ?cs_l1 ?cs_c1 ?cs_kC ?cs_eC ?cs_tC ?cs_hC ?cs_iC ?cs_sC ?cs_aB ?cs_aI ?cs_iI ?cs_lI ?cs_cI ?cs_kI ?cs_aS ?cs_iS ?cs_lS ?cs_cS ?cs_kS ?cs_pg ?cs_hd ?cs_po ?cs_sb ?cs_mkB ?cs_kB ?cs_nB_kind ?cs_nB_length ?cs_nB_depth ?cs_nB_wide ?cs_nB_high ?cs_nB_whole_wide ?cs_nB_whole_high ?cs_g0 ?cs_g1 ?cs_g2 ?cs_g3 ?cs_g4 ?cs_g5 ?cs_g6 ?cs_g7 ?cs_g8 ?cs_g9 ?cs_g10 ?cs_g11 ?cs_g12 ?cs_z0 ?cs_z1 ?cs_z2 ?cs_z3 ?cs_z4 ?cs_ad0 ?cs_ld0 ?cs_cd0 ?cs_kd0 ?cs_ad1 ?cs_ld1 ?cs_cd1 ?cs_kd1 ?cs_ad2 ?cs_ld2 ?cs_cd2 ?cs_kd2 ?cs_ad3 ?cs_ld3 ?cs_cd3 ?cs_kd3 ?cs_ad4 ?cs_ld4 ?cs_cd4 ?cs_kd4 ?cs_ad5 ?cs_ld5 ?cs_cd5 ?cs_kd5 ?cs_ad6 ?cs_ld6 ?cs_cd6 ?cs_kd6 ?cs_ad7 ?cs_ld7 ?cs_cd7 ?cs_kd7 ?cs_ad8 ?cs_ld8 ?cs_cd8 ?cs_kd8 ?cs_ad9 ?cs_ld9 ?cs_cd9 ?cs_kd9 ?cs_ad10 ?cs_ld10 ?cs_cd10 ?cs_kd10 ?cs_ad11 ?cs_ld11 ?cs_cd11 ?cs_kd11 ?cs_ad12 ?cs_ld12 ?cs_cd12 ?cs_kd12 ?cs_ad13 ?cs_ld13 ?cs_cd13 ?cs_kd13 ?cs_ad14 ?cs_ld14 ?cs_cd14 ?cs_kd14 ?cs_ad15 ?cs_ld15 ?cs_cd15 ?cs_kd15 ?cs_ad16 ?cs_ld16 ?cs_cd16 ?cs_kd16 ?cs_ad17 ?cs_ld17 ?cs_cd17 ?cs_kd17 ?cs_ad18 ?cs_ld18 ?cs_cd18 ?cs_kd18 ?cs_ad19 ?cs_ld19 ?cs_cd19 ?cs_kd19 ?cs_ad20 ?cs_ld20 ?cs_cd20 ?cs_kd20 ?cs_ad21 ?cs_ld21 ?cs_cd21 ?cs_kd21 ?cs_ad22 ?cs_ld22 ?cs_cd22 ?cs_kd22 ?cs_ad23 ?cs_ld23 ?cs_cd23 ?cs_kd23
    (case cs_aC => k_is)
    (case cs_xL => k_is)
    (case cs_sa => k_is)
    (case cs_ga => k_is)
    (case cs_gg => k_is)
    (case cs_nb => k_is)
    (case cs_a1 => k_is)
    (case cs_t1 => k_is)
    (case cs_l1 => k_is)
    (case cs_c1 => k_is)
    (case cs_kC => k_is)
    (case cs_eC => k_is)
    (case cs_tC => k_is)
    (case cs_hC => k_is)
    (case cs_iC => k_is)
    (case cs_sC => first | rfl | k_is)
    (case cs_aB => k_is)
    (case cs_aI => k_is)
    (case cs_iI => k_is)
    (case cs_lI => k_is)
    (case cs_cI => k_is)
    (case cs_kI => k_is)
    (case cs_aS => k_is)
    (case cs_iS => k_is)
    (case cs_lS => k_is)
    (case cs_cS => k_is)
    (case cs_kS => k_is)
    (case cs_pg => k_is)
    (case cs_hd => k_is)
    (case cs_po => k_is)
    (case cs_sb => k_is)
    (case cs_mkB => k_is)
    (case cs_kB => k_is)
    (case cs_nB_kind => k_is)
    (case cs_nB_length => k_is)
    (case cs_nB_depth => k_is)
    (case cs_nB_wide => k_is)
    (case cs_nB_high => k_is)
    (case cs_nB_whole_wide => k_is)
    (case cs_nB_whole_high => k_is)
    (case cs_g0 => k_is)
    (case cs_g1 => k_is)
    (case cs_g2 => k_is)
    (case cs_g3 => k_is)
    (case cs_g4 => k_is)
    (case cs_g5 => k_is)
    (case cs_g6 => k_is)
    (case cs_g7 => k_is)
    (case cs_g8 => k_is)
    (case cs_g9 => k_is)
    (case cs_g10 => k_is)
    (case cs_g11 => k_is)
    (case cs_g12 => k_is)
    (case cs_z0 => k_is)
    (case cs_z1 => k_is)
    (case cs_z2 => k_is)
    (case cs_z3 => k_is)
    (case cs_z4 => k_is)
    (case cs_ad0 => k_is)
    (case cs_ld0 => k_is)
    (case cs_cd0 => k_is)
    (case cs_kd0 => k_is)
    (case cs_ad1 => k_is)
    (case cs_ld1 => k_is)
    (case cs_cd1 => k_is)
    (case cs_kd1 => k_is)
    (case cs_ad2 => k_is)
    (case cs_ld2 => k_is)
    (case cs_cd2 => k_is)
    (case cs_kd2 => k_is)
    (case cs_ad3 => k_is)
    (case cs_ld3 => k_is)
    (case cs_cd3 => k_is)
    (case cs_kd3 => k_is)
    (case cs_ad4 => k_is)
    (case cs_ld4 => k_is)
    (case cs_cd4 => k_is)
    (case cs_kd4 => k_is)
    (case cs_ad5 => k_is)
    (case cs_ld5 => k_is)
    (case cs_cd5 => k_is)
    (case cs_kd5 => k_is)
    (case cs_ad6 => k_is)
    (case cs_ld6 => k_is)
    (case cs_cd6 => k_is)
    (case cs_kd6 => k_is)
    (case cs_ad7 => k_is)
    (case cs_ld7 => k_is)
    (case cs_cd7 => k_is)
    (case cs_kd7 => k_is)
    (case cs_ad8 => k_is)
    (case cs_ld8 => k_is)
    (case cs_cd8 => k_is)
    (case cs_kd8 => k_is)
    (case cs_ad9 => k_is)
    (case cs_ld9 => k_is)
    (case cs_cd9 => k_is)
    (case cs_kd9 => k_is)
    (case cs_ad10 => k_is)
    (case cs_ld10 => k_is)
    (case cs_cd10 => k_is)
    (case cs_kd10 => k_is)
    (case cs_ad11 => k_is)
    (case cs_ld11 => k_is)
    (case cs_cd11 => k_is)
    (case cs_kd11 => k_is)
    (case cs_ad12 => k_is)
    (case cs_ld12 => k_is)
    (case cs_cd12 => k_is)
    (case cs_kd12 => k_is)
    (case cs_ad13 => k_is)
    (case cs_ld13 => k_is)
    (case cs_cd13 => k_is)
    (case cs_kd13 => k_is)
    (case cs_ad14 => k_is)
    (case cs_ld14 => k_is)
    (case cs_cd14 => k_is)
    (case cs_kd14 => k_is)
    (case cs_ad15 => k_is)
    (case cs_ld15 => k_is)
    (case cs_cd15 => k_is)
    (case cs_kd15 => k_is)
    (case cs_ad16 => k_is)
    (case cs_ld16 => k_is)
    (case cs_cd16 => k_is)
    (case cs_kd16 => k_is)
    (case cs_ad17 => k_is)
    (case cs_ld17 => k_is)
    (case cs_cd17 => k_is)
    (case cs_kd17 => k_is)
    (case cs_ad18 => k_is)
    (case cs_ld18 => k_is)
    (case cs_cd18 => k_is)
    (case cs_kd18 => k_is)
    (case cs_ad19 => k_is)
    (case cs_ld19 => k_is)
    (case cs_cd19 => k_is)
    (case cs_kd19 => k_is)
    (case cs_ad20 => k_is)
    (case cs_ld20 => k_is)
    (case cs_cd20 => k_is)
    (case cs_kd20 => k_is)
    (case cs_ad21 => k_is)
    (case cs_ld21 => k_is)
    (case cs_cd21 => k_is)
    (case cs_kd21 => k_is)
    (case cs_ad22 => k_is)
    (case cs_ld22 => k_is)
    (case cs_cd22 => k_is)
    (case cs_kd22 => k_is)
    (case cs_ad23 => k_is)
    (case cs_ld23 => k_is)
    (case cs_cd23 => k_is)
    (case cs_kd23 => k_is)
  case S =>
    intro K H xs a hO hwi hask hx
    obtain ⟨h, kind, t, u⟩ := a
    cases hx with
    | cons x1 hx =>
    cases hx with
    | cons x2 hx =>
    cases hx with
    | cons x3 hx =>
    cases hx
    cases x1
    cases x2
    cases x3 with
    | lst hs ha =>
    have e := L2.ints_dw t _ ha
    subst e
    obtain ⟨w1, hwi⟩ := Bool.and_eq_true_iff.mp hwi
    obtain ⟨w3, hwi⟩ := Bool.and_eq_true_iff.mp hwi
    obtain ⟨w2, hwi⟩ := Bool.and_eq_true_iff.mp hwi
    have v1 : (0 : Int) ≤ h := of_decide_eq_true (Bool.and_eq_true_iff.mp w1).1
    have v3 : (0 : Int) ≤ kind := of_decide_eq_true (Bool.and_eq_true_iff.mp w3).1
    have v2 : ∀ x ∈ (t : List Int), (0 : Int) ≤ x ∧ x ≤ 255 := fun x hx =>
      have z := Bool.and_eq_true_iff.mp (List.all_eq_true.mp (Bool.and_eq_true_iff.mp w2).2 x hx)
      ⟨of_decide_eq_true z.1, of_decide_eq_true z.2⟩
    obtain ⟨b, e1, e2⟩ := Rug.text_of t v2
    refine ⟨h, kind, _, b, rfl, ?_, v1, v3, fun H' l hl => ?_⟩
    · have : (t : List Int).map L2.V.int = b.map RugW.vb := by
        rw [e1, List.map_map]
        rfl
      rw [← this]
      exact hs
    · show L2.Dw K H' (.ref l) (.list ((PyWqbbch.found h kind t).map WData.int))
      rw [Rug.found_law v1 v3, e2]
      exact .lst (L2.SqL.of hl) (L2.dw_ints _)
#print axioms PySem.Challenge.cw_rugborders_s05_found_holds
