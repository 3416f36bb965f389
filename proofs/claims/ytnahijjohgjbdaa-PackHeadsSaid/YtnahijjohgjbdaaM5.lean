/-
  Part 5 of what the laws of this set are proved with: an engine that reads code off into pure functions, and what those functions compute. No condition.
-/
import Derived.Test.YtnahijjohgjbdaaM4
import Derived.KernelRfl
set_option linter.unusedVariables false
section
namespace Go.Sat
open Go

theorem F72_eq (b : List Int) (p : Int) (hB : Bytes b) (hb : b.length < 1099511627776) : F72 ((b, p) : List Int × Int) = some ((saysN b p, decide (isHead b p)) : Int × Bool) := by
  unfold F72
  dsimp only [St, Item.den, Pat.den, Ty.den]
  dsimp only [zi]
  by_cases h0 : p < 0
  · rw [bif_nt h0, saysN, if_neg (by omega), decide_eq_false (fun h => by have := h.1; omega)]
  · rw [bif_nf h0, bif_64 (by omega) (by omega)]
    by_cases h1 : (b.length : Int) - 6 < p
    · rw [bif_dt h1, saysN, if_neg (by omega), decide_eq_false (fun h => by have := h.2.1; omega)]
    · obtain ⟨q, rfl⟩ := Int.eq_ofNat_of_zero_le (by omega : 0 ≤ p)
      have hy0 := hB.rd (i := q) (by omega)
      have hy1 := hB.rd (i := q + 1) (by omega)
      have e1 : ((q + 1 : Nat) : Int) = (q : Int) + 1 := by omega
      rw [e1] at hy1
      obtain ⟨n1, n2⟩ := hdN_eq hB (p := q) (by omega)
      have hor := or_word hy0 hy1
      rw [n1] at hor
      rw [bif_df h1, bif_in (by omega) (by omega), gb (by omega) (by omega), bif_64 (by omega) (by omega), bif_64 (by omega) (by omega), bif_in (by omega) (by omega), gb (by omega) (by omega), bif_64 (by omega) (by omega)]
      simp only [hor]
      erw [F22_eq]
      rw [Option.bind_some]
      have hsn : saysN b (q : Int) = (hdN b q : Int) := by rw [saysN, if_pos (by omega)]; rfl
      by_cases hs : 0 < sizeP (hdN b q)
      · have hs' : 1 ≤ (hdN b q : Int) ∧ (hdN b q : Int) ≤ 1024 := by have := sizeP_pos (hdN b q); rw [show (sizeP (hdN b q) > 0) = (0 < sizeP (hdN b q)) from rfl] at this; rw [this] at hs; exact hs
        rw [bif_dt hs, bif_64 (by omega) (by omega), bif_and3 (by omega) (by omega) (by omega), subN_eq, bif_dt (by omega), Int.toNat_natCast, bif_dt (by omega)]
        erw [F63_eq n2]
        rw [Option.bind_some, hsn]
        refine congrArg some (Prod.ext rfl ?_)
        show eqT (.arr .u8 6) _ _ = _
        rw [eqT_arr]
        refine decide_eq_decide.2 ?_
        rw [arr_eq_iff, Arr.of_l (by rw [List.length_take, List.length_drop]; omega)]
        constructor
        · intro h; exact ⟨by omega, by omega, by rw [Int.toNat_natCast]; omega, by rw [Int.toNat_natCast]; omega, by rw [Int.toNat_natCast]; exact h⟩
        · intro h; have := h.2.2.2.2; rw [Int.toNat_natCast] at this; exact this
      · rw [bif_df hs, hsn, decide_eq_false]
        intro h
        have h3 := h.2.2.1
        have h4 := h.2.2.2.1
        rw [Int.toNat_natCast] at h3 h4
        apply hs
        rw [sizeP_in (by omega) (by omega)]; omega
theorem F70_eq (b : List Int) (p : Int) (hB : Bytes b) (hb : b.length < 1099511627776) : F70 ((b, p) : List Int × Int) = some ((headN b p, decide (isHead b p)) : Int × Bool) := by
  unfold F70
  dsimp only [St, Item.den, Pat.den, Ty.den]
  dsimp only [zi]
  by_cases h0 : p < 0
  · have hn : ¬ isHead b p := fun h => by have := h.1; omega
    rw [bif_nt h0, headN, if_neg hn, decide_eq_false hn]
  · rw [bif_nf h0, bif_64 (by omega) (by omega)]
    by_cases h1 : (b.length : Int) - 6 < p
    · have hn : ¬ isHead b p := fun h => by have := h.2.1; omega
      rw [bif_dt h1, headN, if_neg hn, decide_eq_false hn]
    · obtain ⟨q, rfl⟩ := Int.eq_ofNat_of_zero_le (by omega : 0 ≤ p)
      have hy0 := hB.rd (i := q) (by omega)
      have hy1 := hB.rd (i := q + 1) (by omega)
      have e1 : ((q + 1 : Nat) : Int) = (q : Int) + 1 := by omega
      rw [e1] at hy1
      obtain ⟨n1, n2⟩ := hdN_eq hB (p := q) (by omega)
      rw [bif_df h1, bif_in (by omega) (by omega), gb (by omega) (by omega), bif_64 (by omega) (by omega), bif_64 (by omega) (by omega), bif_64 (by omega) (by omega), bif_in (by omega) (by omega), gb (by omega) (by omega), bif_64 (by omega) (by omega), bif_64 (by omega) (by omega)]
      simp only [n1]
      erw [F23_eq]
      rw [Option.bind_some]
      by_cases hs : sizeP (hdN b q) = 0
      · have hn : ¬ isHead b q := by
          intro h
          have h3 := h.2.2.1
          have h4 := h.2.2.2.1
          rw [Int.toNat_natCast] at h3 h4
          rw [sizeP_in (by omega) (by omega)] at hs; omega
        rw [bif_nt hs, headN, if_neg hn, decide_eq_false hn]
      · have hs' : 1 ≤ (hdN b q : Int) ∧ (hdN b q : Int) ≤ 1024 := by rw [sizeP_zero] at hs; omega
        have ecut : List.take (subN ((q : Int) + 6).toNat (Int.toNat (q : Int))) (List.drop (Int.toNat (q : Int)) b) = (b.drop q).take 6 := by
          rw [subN_eq, show ((q : Int) + 6).toNat - Int.toNat (q : Int) = 6 by omega, Int.toNat_natCast]
        rw [bif_nf hs, bif_64 (by omega) (by omega), bif_and3 (by omega) (by omega) (by omega), ecut]
        erw [F67_eq n2]
        rw [Option.bind_some, bytesOf_beq ((hB.drop _).take _) (headL_bytes n2)]
        by_cases he : (b.drop q).take 6 = headL (hdN b q)
        · have hh : isHead b q := ⟨by omega, by omega, by rw [Int.toNat_natCast]; omega, by rw [Int.toNat_natCast]; omega, by rw [Int.toNat_natCast]; exact he⟩
          rw [bif_nt he, headN, if_pos hh, decide_eq_true hh, Int.toNat_natCast]
        · have hn : ¬ isHead b q := fun h => he (by have := h.2.2.2.2; rw [Int.toNat_natCast] at this; exact this)
          rw [bif_nf he, headN, if_neg hn, decide_eq_false hn]
def idX (X : List Int) : Arr 16 := Arr.of 16 (idB X)
theorem idX_l {X : List Int} (h : 20 ≤ X.length) : (idX X).l = idB X := Arr.of_l (idB_length h)
def winX (X : List Int) : List Int × List Int × List Int := if gOk X then ((gBody X).take 16, (gBody X).drop 16, []) else ([], [], [])
theorem okB_dec {X : List Int} (h : gOk X) (hl : 20 ≤ X.length) : (eqT (.arr .u8 16) (idA ((gBody X).drop 16)) (Arr.of 16 ((gBody X).take 16))) = decide (okB X) := by
  rw [eqT_arr]
  refine decide_eq_decide.2 ?_
  have hg := gBody_length h
  rw [arr_eq_iff, Arr.of_l (by rw [List.length_take]; omega)]
  exact ⟨fun e => ⟨h, e⟩, fun e => e.2⟩
theorem F73_eq (b : List Int) (p n : Nat) (hb : b.length < 1099511627776) (h1 : 1 ≤ n) (h2 : n ≤ 1024) (h3 : p + n + 26 ≤ b.length) :
    F73 ((b, (p : Int), (n : Int)) : List Int × Int × Int) = some ((idX (bodyS b (p + 6) n), winX (bodyS b (p + 6) n), decide (okB (bodyS b (p + 6) n))) : Arr 16 × (List Int × List Int × List Int) × Bool) := by
  have hX : (bodyS b (p + 6) n).length = n + 20 := bodyS_length (by omega)
  unfold F73
  dsimp only [St, Item.den, Pat.den, Ty.den]
  dsimp only [zi]
  rw [bif_64 (by omega) (by omega), F22_eq, Option.bind_some, sizeP_in (by omega) (by omega), bif_64 (by omega) (by omega), bif_and3 (by omega) (by omega) (by omega)]
  have ecut : List.take (subN ((p : Int) + ((n : Int) + 26)).toNat ((p : Int) + 6).toNat) (List.drop ((p : Int) + 6).toNat b) = bodyS b (p + 6) n := by
    rw [subN_eq, show ((p : Int) + ((n : Int) + 26)).toNat - ((p : Int) + 6).toNat = n + 20 by omega, show ((p : Int) + 6).toNat = p + 6 by omega]
    rfl
  rw [ecut, F81_eq _ (by omega) (by omega), Option.bind_some]
  obtain ⟨X, hXe⟩ : ∃ X, bodyS b (p + 6) n = X := ⟨_, rfl⟩
  rw [hXe] at hX ⊢
  dsimp only
  by_cases hk : gOk X
  · have hg := gBody_length hk
    have e1 : List.take (subN (gBody X).length 16) (List.drop 16 (gBody X)) = (gBody X).drop 16 := by rw [subN_eq, List.take_of_length_le (by rw [List.length_drop]; omega)]
    have e2 : List.drop (16 + subN (gBody X).length 16) (gBody X) = [] := by rw [subN_eq, List.drop_eq_nil_of_le (by omega)]
    rw [gErr_ok hk, bif_nt rfl, bif_andt (by omega), bif_dt (by omega), bif_ttand (by omega), bif_ttand (by omega), e1, e2, List.drop_zero]
    rw [F36_eq _ (by rw [List.length_drop]; omega), Option.bind_some]
    erw [okB_dec hk (by omega)]
    unfold idX winX idB
    rw [if_pos hk, if_pos hk]
  · have hd : ¬ okB X := fun h => hk h.1
    rw [gErr_no hk, bif_nf (by decide), decide_eq_false hd]
    unfold idX winX idB
    rw [if_neg hk, if_neg hk]
    rfl
theorem F71_eq (b : List Int) (p n : Nat) (hB : Bytes b) (hb : b.length < 1099511627776) (h1 : 1 ≤ n) (h2 : n ≤ 1024) (h3 : p + n + 26 ≤ b.length) :
    F71 ((b, (p : Int) + 6, (n : Int)) : List Int × Int × Int) = some ((idX (bodyS b (p + 6) n), (winX (bodyS b (p + 6) n)).2.1, decide (okB (bodyS b (p + 6) n))) : Arr 16 × List Int × Bool) := by
  have hX : (bodyS b (p + 6) n).length = n + 20 := bodyS_length (by omega)
  unfold F71
  dsimp only [St, Item.den, Pat.den, Ty.den]
  dsimp only [zi]
  rw [bif_64 (by omega) (by omega), bif_64 (by omega) (by omega), bif_and3 (by omega) (by omega) (by omega)]
  have ecut : List.take (subN ((p : Int) + 6 + (n : Int) + 20).toNat ((p : Int) + 6).toNat) (List.drop ((p : Int) + 6).toNat b) = bodyS b (p + 6) n := by
    rw [subN_eq, show ((p : Int) + 6 + (n : Int) + 20).toNat - ((p : Int) + 6).toNat = n + 20 by omega, show ((p : Int) + 6).toNat = p + 6 by omega]
    rfl
  have hXB := bodyS_bytes hB (p + 6) n
  rw [ecut, F87_eq _ hXB (by omega), Option.bind_some]
  obtain ⟨X, hXe⟩ : ∃ X, bodyS b (p + 6) n = X := ⟨_, rfl⟩
  rw [hXe] at hX ⊢
  dsimp only
  by_cases hk : gOk X
  · have hg := gBody_length hk
    have e1 : List.take (subN (gBody X).length 16) (List.drop 16 (gBody X)) = (gBody X).drop 16 := by rw [subN_eq, List.take_of_length_le (by rw [List.length_drop]; omega)]
    rw [gErr_ok hk, bif_nt rfl]
    rw [loop_count (o := (Arr.of 16 ((gBody X).take 16) : Arr 16)) (fun k => ((k : Int), if h : k ≤ 16 then (⟨built (fun i => rd (gBody X) (i : Int)) 16 k, built_length h⟩ : Arr 16) else Arr.zero 16)) 16 ?h0 ?hs ?he]
    case h0 => rfl
    case he =>
      dsimp only
      rw [bif_df (by omega)]
      refine congrArg some (congrArg Sum.inr (Arr.ext' ?_))
      rw [dif_pos (by omega : (16 : Nat) ≤ 16), Arr.of_l (by rw [List.length_take]; omega)]
      show built _ 16 16 = _
      rw [built_all, map_rd _ _ (by omega)]
    case hs =>
      intro k hk
      have hb := built_length (f := fun i => rd (gBody X) (i : Int)) (n := 16) (i := k) (by omega)
      dsimp only
      rw [dif_pos (by omega : k ≤ 16), dif_pos (by omega : k + 1 ≤ 16)]
      rw [bif_dt (by omega), bif_in (by omega) (by omega), gb (by omega) (by omega), bif_in (by omega) (by omega), bif_dt (by omega), bif_64 (by omega) (by omega)]
      refine congrArg some (congrArg Sum.inl (Prod.ext (by simp only; omega) (Arr.ext' ?_)))
      exact built_set (f := fun i => rd (gBody X) (i : Int)) hk rfl
    rw [Option.bind_some, bif_ttand (by omega), bif_ttand (by omega), e1]
    rw [F66_eq _ (by rw [List.length_drop]; omega), Option.bind_some]
    erw [okB_dec hk (by omega)]
    unfold idX winX idB
    rw [if_pos hk, if_pos hk]
  · have hd : ¬ okB X := fun h => hk h.1
    rw [gErr_no hk, bif_nf (by decide), decide_eq_false hd]
    unfold idX winX idB
    rw [if_neg hk, if_neg hk]
    rfl
end Go.Sat
end
section
namespace Go.Sat
open Go

def lentT (b : List Int) : List Int := (List.range 3).map (lentF b.length)
theorem lentL_eq (b : List Int) : lentL b = b ++ lentT b := rfl
theorem lentT_length (b : List Int) : (lentT b).length = 3 := by simp [lentT]
theorem F18_eq (b : List Int) (hb : b.length < 1099511627776) : F18 b = some (([], b, lentT b) : List Int × List Int × List Int) := by
  unfold F18
  dsimp only [St, Item.den, Pat.den, Ty.den]
  dsimp only [zi]
  have e1 : ((b.length : Int) + 3).toNat = b.length + 3 := by omega
  have e2 : b.length.min (zer (b.length + 3)).length = b.length := by rw [zer_length]; exact Nat.min_eq_left (by omega)
  rw [bif_64 (by omega) (by omega), e1, bif_t (by simp [roomFor]; omega), e2, List.take_length, lent_start]
  rw [loop_count (o := lentL b) (fun k => (((b.length + k : Nat) : Int), b ++ built (lentF b.length) 3 k)) 3 ?h0 ?hs ?he]
  case h0 => rfl
  case he => dsimp only; rw [bif_df (by rw [List.length_append, built_length (by omega)]; omega), lent_end]
  case hs =>
    intro k hk
    have hl : (b ++ built (lentF b.length) 3 k).length = b.length + 3 := by rw [List.length_append, built_length (by omega)]
    dsimp only
    rw [hl]
    have h0 : 0 ≤ Int.tmod ((b.length + k : Nat) : Int) 90 ∧ Int.tmod ((b.length + k : Nat) : Int) 90 < 90 := by
      rw [show ((b.length + k : Nat) : Int).tmod 90 = (((b.length + k) % 90 : Nat) : Int) from rfl]; omega
    rw [bif_dt (by omega), bif_64 (by omega) (by omega), bif_in (by omega) (by omega), gb (by omega) (by rw [hl]; omega), bif_64 (by omega) (by omega), lent_val, Int.toNat_natCast, lent_set hk rfl]
    refine congrArg some (congrArg Sum.inl (Prod.ext ?_ rfl))
    show ((b.length + k : Nat) : Int) + 1 = ((b.length + (k + 1) : Nat) : Int)
    omega
  rw [Option.bind_some, lentL_length, bif_and2 (by omega) (by omega), subN_eq, Int.toNat_natCast, Nat.sub_zero, Nat.zero_add]
  refine congrArg some (Prod.ext rfl (Prod.ext ?_ ?_))
  · show List.take b.length (List.drop 0 (lentL b)) = b
    rw [List.drop_zero, lentL_eq, List.take_left' rfl]
  · show List.drop b.length (lentL b) = lentT b
    rw [lentL_eq, List.drop_left' rfl]
/-- a number, as an array -/
def idR (b : List Int) : Arr 16 := ⟨idOf b, idOf_length b⟩
theorem idR_ok {b : List Int} (h : okLen b) : idR b = idA b := Arr.ext' (idOf_ok h)
theorem idR_no {b : List Int} (h : ¬ okLen b) : idR b = Arr.zero 16 := Arr.ext' ((idOf_no h).trans rfl)
theorem F19_eq (b : List Int) (hb : b.length < 1099511627776) : F19 b = some ((recOf b, idR b, errOf b) : List Int × Arr 16 × Int) := by
  unfold F19
  dsimp only [St, Item.den, Pat.den, Ty.den]
  dsimp only [zi]
  by_cases h0 : b.length = 0
  · have hn : ¬ okLen b := by unfold okLen; omega
    rw [bif_dt (by omega), recOf_no hn, idR_no hn, errOf_none h0]
  · by_cases h1 : 1024 < b.length
    · have hn : ¬ okLen b := by unfold okLen; omega
      rw [bif_df (by omega), bif_dt (by omega), recOf_no hn, idR_no hn, errOf_long h1]
    · have hk : okLen b := by unfold okLen; omega
      rw [bif_df (by omega), bif_df (by omega), F63_eq (by omega), Option.bind_some, F36_eq b hb, Option.bind_some]
      have e1 : List.take 16 (List.drop 0 (idA b).l) = shaID b := by rw [List.drop_zero]; exact List.take_of_length_le (by rw [(idA b).h]; omega)
      have e2 : List.take 6 (List.drop 0 (headL b.length)) = headL b.length := by rw [List.drop_zero]; exact List.take_of_length_le (by rw [headL_length]; omega)
      rw [e1]
      erw [F64_eq [shaID b, b] (by simp) (by simp [shaID_length]; omega)]
      rw [Option.bind_some, List.flatten_cons, List.flatten_cons, List.flatten_nil, List.append_nil]
      erw [F65_eq _ (by rw [List.length_append, shaID_length]; omega)]
      rw [Option.bind_some]
      dsimp only
      rw [e2]
      erw [F64_eq [headL b.length, gPut (shaID b ++ b)] (by simp) (by simp [headL_length, gPut_length, shaID_length]; omega)]
      rw [Option.bind_some, List.flatten_cons, List.flatten_cons, List.flatten_nil, List.append_nil, recOf_ok hk, idR_ok hk, errOf_ok hk]
      rfl
theorem F20_eq (b : List Int) (hB : Bytes b) (hb : b.length < 1099511627776) : F20 b = some ((recOf b, idR b, errOf b) : List Int × Arr 16 × Int) := by
  unfold F20
  dsimp only [St, Item.den, Pat.den, Ty.den]
  dsimp only [zi]
  by_cases h0 : b.length = 0
  · have hn : ¬ okLen b := by unfold okLen; omega
    rw [bif_dt (by omega), recOf_no hn, idR_no hn, errOf_none h0]
  · by_cases h1 : 1024 < b.length
    · have hn : ¬ okLen b := by unfold okLen; omega
      rw [bif_df (by omega), bif_dt (by omega), recOf_no hn, idR_no hn, errOf_long h1]
    · have hk : okLen b := by unfold okLen; omega
      rw [bif_df (by omega), bif_df (by omega), F66_eq b hb, Option.bind_some]
      have e1 : List.take 16 (List.drop 0 (idA b).l) = shaID b := by rw [List.drop_zero]; exact List.take_of_length_le (by rw [(idA b).h]; omega)
      rw [e1, List.nil_append, bif_room (by rw [shaID_length]; omega) (by rw [shaID_length]; omega), bif_room (by rw [shaID_length]; omega) (by rw [shaID_length]; omega), F67_eq (by omega), Option.bind_some, F68_eq _ ((shaID_bytes b).app hB) (by rw [List.length_append, shaID_length]; omega), Option.bind_some,
        bif_room (by rw [headL_length, gPut_length, List.length_append, shaID_length]; omega) (by rw [headL_length, gPut_length, List.length_append, shaID_length]; omega), recOf_ok hk, idR_ok hk, errOf_ok hk]
      rfl
theorem F24F_eq (x : List Int × List Int × List Int) (hx : (x.1 ++ (x.2.1 ++ x.2.2)).length ≤ maxLen) : F24F x = some () := by
  unfold F24F
  dsimp only [zi]
  have hM : maxLen ≤ 9223372036854775807 := by decide
  obtain ⟨l, hl⟩ : ∃ l, x.1 ++ (x.2.1 ++ x.2.2) = l := ⟨_, rfl⟩
  have hle : x.1.length ≤ l.length := by rw [← hl, List.length_append]; omega
  rw [hl] at hx
  rw [hl, bif_and2 (by omega) (by omega), subN_eq, Nat.sub_zero]
  have e1 : ((l.length : Int) - (x.1.length : Int)).toNat = l.length - x.1.length := by omega
  rw [e1]
  refine loop_then (S := Int × List Int) (fun r => r = some ()) (fun s => 0 ≤ s.1 ∧ s.1 ≤ ((l.length - x.1.length : Nat) : Int) ∧ s.2.length = l.length) (fun s => (((l.length - x.1.length : Nat) : Int) - s.1).toNat) (fun _ => True) ⟨by simp, by simp, rfl⟩ ?_ fun _ _ => rfl
  rintro ⟨i, ys⟩ ⟨h1, h2, h3⟩
  dsimp only at h1 h2 h3
  by_cases hi : i < ((l.length - x.1.length : Nat) : Int)
  · refine .inl ⟨(i + 1, List.set ys (x.1.length + 0 + i.toNat) (bXor .u8 (rd ys ((x.1.length + 0 + i.toNat : Nat) : Int)) 90)), ?_, ?_⟩
    · dsimp only
      rw [bif_dt hi, bif_in h1 hi, gbN (by omega), bif_in h1 hi, gbN (by omega), bif_64 (by omega) (by omega)]
    · dsimp only
      exact ⟨⟨by omega, by omega, by rw [List.length_set]; exact h3⟩, by omega⟩
  · exact .inr ⟨ys, by dsimp only; rw [bif_df hi], trivial⟩
end Go.Sat
end
section
namespace Go.Sat
open Go Go.Proofs
set_option maxRecDepth 100000
noncomputable def S24 : FnSpec := spec Try.f24 [.slot 0 (.wnd (.int .u8) 5 false)] [] F24
theorem K24 : FnOk Try.prog 24 S24 := over_ok K24F fun x hx => F24F_eq x hx
noncomputable def S3 : FnSpec := spec Try.f3 [.slot 0 (.ty (.sl (.int .u8))), .slot 1 (.ty (.int .i64))] [.slot 0 (.ty .bool)] F3
theorem K3 : FnOk Try.prog 3 S3 := fn_known (tbl := [(17, S17), (18, S18), (19, S19), (20, S20), (21, S21), (22, S22), (23, S23), (24, S24), (25, S25)]) mixedTry (.cons K17 (.cons K18 (.cons K19 (.cons K20 (.cons K21 (.cons K22 (.cons K23 (.cons K24 (.cons K25 .nil))))))))) .nil Try.func3 rfl rfl (by kernel_rfl)
noncomputable def S4 : FnSpec := spec Try.f4 [.slot 0 (.ty (.sl (.int .u8))), .agg 1 (.pr (.ty (.arr .u8 16)) (.pr (.ty (.int .i64)) (.ty (.int .i64))))] [.slot 0 (.ty .bool)] F4
theorem K4 : FnOk Try.prog 4 S4 := fn_known (tbl := [(17, S17), (18, S18), (26, S26), (27, S27), (28, S28), (29, S29), (30, S30), (21, S21), (24, S24), (25, S25)]) mixedTry (.cons K17 (.cons K18 (.cons K26 (.cons K27 (.cons K28 (.cons K29 (.cons K30 (.cons K21 (.cons K24 (.cons K25 .nil)))))))))) (.node .nil (.node .nil (.node .nil (.node .nil (.node .nil (.node .nil (.node .nil (.node (.node .nil (.node (.loop [.slot 15 (.ty (.int .i64))] [(.ret, [.slot 4 (.ty .bool)]), (.ext 0, [])] [] .nil) .nil)) .nil)))))))) Try.func4 rfl rfl (by kernel_rfl)
end Go.Sat
end
section
namespace Go.Sat
open Go

/-- a held record, as an element -/
def helE (h : Hel) : Arr 16 × Int × Int := (Arr.of 16 h.id, h.pos, h.len)
def scanR (r : List Hel × Nat × Nat × Int) : List (Arr 16 × Int × Int) × Int × Int × Int := (r.1.map helE, (r.2.1 : Int), (r.2.2.1 : Int), r.2.2.2)
theorem idX_of {X : List Int} : idX X = Arr.of 16 (idB X) := rfl
theorem F26_eq (b : List Int) (hB : Bytes b) (hb : b.length < 1099511627776) : F26 b = some (scanR (scanB b)) := by
  unfold F26
  dsimp only [St, Item.den, Pat.den, Ty.den]
  dsimp only [zi]
  rw [show F69 b = some ((((), b)) : Unit × List Int) from rfl, Option.bind_some]
  dsimp only
  refine loop_then (S := Int × List (Arr 16 × Int × Int) × Int × Int × Int) (O := Int × Int × List (Arr 16 × Int × Int) × Int) (fun r => r = some (scanR (scanB b)))
    (fun s => ∃ p out bad, s = (((p : Nat) : Int), out.map helE, ((bad : Nat) : Int), 0, 0) ∧ scanF b p out bad = scanB b ∧ out.length ≤ p ∧ bad ≤ p ∧ p ≤ b.length)
    (fun s => ((b.length : Int) - s.1).toNat) (fun o => o = ((scanB b).2.2.2, ((scanB b).2.1 : Int), (scanB b).1.map helE, ((scanB b).2.2.1 : Int))) ⟨0, [], 0, rfl, rfl, by simp, by simp, by simp⟩ ?_ fun o ho => by rw [ho]; rfl
  rintro _ ⟨p, out, bad, rfl, hs, h1, h2, h3⟩
  dsimp only
  rw [F72_eq b p hB hb, Option.bind_some]
  dsimp only
  have fin : ∀ r : Int, restAt b p = r → (b.length ≤ p ∨ b.length - p < 6 ∨ ¬ isHead b p ∨ b.length - p < hdN b p + 26) → ((r, ((p : Nat) : Int), out.map helE, ((bad : Nat) : Int)) : Int × Int × List (Arr 16 × Int × Int) × Int) = ((scanB b).2.2.2, ((scanB b).2.1 : Int), (scanB b).1.map helE, ((scanB b).2.2.1 : Int)) := by
    intro r hr hc
    rw [← hs, scanF_end hc, hr]
  by_cases he : p = b.length
  · refine .inr ⟨_, ?_, fin 0 (rest_whole (by omega)) (.inl (by omega))⟩
    rw [bif_dt (by omega), Option.bind_some]
    dsimp only [selim, Sum.elim_inl, Sum.elim_inr, Option.bind_some]
    rw [bif_dt (by omega)]
  · rw [bif_df (by omega), bif_64 (by omega) (by omega)]
    by_cases h6 : b.length - p < 6
    · refine .inr ⟨_, ?_, fin 1 (rest_short (by omega) h6) (.inr (.inl h6))⟩
      rw [bif_dt (by omega), Option.bind_some]
      dsimp only [selim, cond_true, Sum.elim_inl, Sum.elim_inr, Option.bind_some]
      rw [bif_dt (by omega)]
    · rw [bif_df (by omega)]
      by_cases hh : isHead b p
      · have hsn := saysN_head hh
        rw [Int.toNat_natCast] at hsn
        have hh2 := hh
        unfold isHead at hh2
        rw [Int.toNat_natCast] at hh2
        rw [decide_eq_true hh, hsn]
        simp only [cond_true]
        rw [bif_64 (by omega) (by omega), F22_eq, Option.bind_some, sizeP_in (by omega) (by omega)]
        by_cases hl : b.length - p < hdN b p + 26
        · refine .inr ⟨_, ?_, fin 1 (rest_torn (by omega) h6 hh) (.inr (.inr (.inr hl)))⟩
          rw [Option.bind_some, bif_dt (by omega), Option.bind_some]
          dsimp only [selim, Sum.elim_inl, Sum.elim_inr, Option.bind_some]
          rw [bif_dt (by omega)]
        · rw [Option.bind_some, bif_df (by omega), F73_eq b p (hdN b p) hb (by omega) (by omega) (by omega), Option.bind_some]
          dsimp only
          have hX : 20 ≤ (bodyS b (p + 6) (hdN b p)).length := by rw [bodyS_length (by omega)]; omega
          by_cases hk : okB (bodyS b (p + 6) (hdN b p))
          · rw [bif_dt hk, bif_room (by simp; omega) (by simp; omega), Option.bind_some, Option.bind_some, bif_64 (by omega) (by omega), Option.bind_some]
            refine .inl ⟨_, by dsimp only [selim, Sum.elim_inl, Sum.elim_inr, Option.bind_some], ⟨p + (hdN b p + 26), out ++ [⟨idB (bodyS b (p + 6) (hdN b p)), p, hdN b p⟩], bad, ?_, ?_, by simp; omega, by omega, by omega⟩, by dsimp only; omega⟩
            · refine Prod.ext (by dsimp only; omega) (Prod.ext ?_ rfl)
              dsimp only
              rw [List.map_append]; rfl
            · rw [← hs, scanF_good hh (by omega) hk]
          · rw [bif_df hk, bif_64 (by omega) (by omega), Option.bind_some, Option.bind_some, bif_64 (by omega) (by omega), Option.bind_some]
            refine .inl ⟨_, by dsimp only [selim, Sum.elim_inl, Sum.elim_inr, Option.bind_some], ⟨p + (hdN b p + 26), out, bad + 1, ?_, ?_, by omega, by omega, by omega⟩, by dsimp only; omega⟩
            · exact Prod.ext (by dsimp only; omega) (Prod.ext rfl (Prod.ext (by dsimp only; omega) rfl))
            · rw [← hs, scanF_bad hh (by omega) hk]
      · refine .inr ⟨_, ?_, fin 2 (rest_bad (by omega) h6 hh) (.inr (.inr (.inl hh)))⟩
        rw [decide_eq_false hh]
        dsimp only [selim, cond_false, Sum.elim_inl, Sum.elim_inr, Option.bind_some]
        rw [bif_dt (by omega)]
end Go.Sat
end
section
namespace Go.Sat
open Go

theorem F27_eq (b : List Int) (hB : Bytes b) (hb : b.length < 1099511627776) : F27 b = some (scanR (scanB b)) := by
  unfold F27
  dsimp only [St, Item.den, Pat.den, Ty.den]
  dsimp only [zi]
  refine loop_then (S := List (Arr 16 × Int × Int) × Int × Int) (O := List (Arr 16 × Int × Int) × Int × Int × Int) (fun r => r = some (scanR (scanB b)))
    (fun s => ∃ p out bad, s = (out.map helE, ((p : Nat) : Int), ((bad : Nat) : Int)) ∧ scanF b p out bad = scanB b ∧ out.length ≤ p ∧ bad ≤ p ∧ p ≤ b.length)
    (fun s => ((b.length : Int) - s.2.1).toNat) (fun o => o = scanR (scanB b)) ⟨0, [], 0, rfl, rfl, by simp, by simp, by simp⟩ ?_ fun o ho => by rw [ho]
  rintro _ ⟨p, out, bad, rfl, hs, h1, h2, h3⟩
  dsimp only
  have fin : ∀ r : Int, restAt b p = r → (b.length ≤ p ∨ b.length - p < 6 ∨ ¬ isHead b p ∨ b.length - p < hdN b p + 26) → ((out.map helE, ((p : Nat) : Int), ((bad : Nat) : Int), r) : List (Arr 16 × Int × Int) × Int × Int × Int) = scanR (scanB b) := by
    intro r hr hc
    rw [← hs, scanF_end hc, hr]; rfl
  by_cases he : p = b.length
  · refine .inr ⟨_, ?_, fin 0 (rest_whole (by omega)) (.inl (by omega))⟩
    rw [bif_dt (by omega)]
  · rw [bif_df (by omega), bif_64 (by omega) (by omega)]
    by_cases h6 : b.length - p < 6
    · refine .inr ⟨_, ?_, fin 1 (rest_short (by omega) h6) (.inr (.inl h6))⟩
      rw [bif_dt (by omega)]
    · rw [bif_df (by omega), F70_eq b p hB hb, Option.bind_some]
      dsimp only
      by_cases hh : isHead b p
      · have hsn := headN_head hh
        rw [Int.toNat_natCast] at hsn
        have hh2 := hh
        unfold isHead at hh2
        rw [Int.toNat_natCast] at hh2
        rw [decide_eq_true hh, hsn]
        simp only [Bool.not_true, cond_false]
        rw [bif_64 (by omega) (by omega), F23_eq, Option.bind_some, sizeP_in (by omega) (by omega)]
        by_cases hl : b.length - p < hdN b p + 26
        · refine .inr ⟨_, ?_, fin 1 (rest_torn (by omega) h6 hh) (.inr (.inr (.inr hl)))⟩
          rw [bif_dt (by omega)]
        · rw [bif_df (by omega), bif_64 (by omega) (by omega), F71_eq b p (hdN b p) hB hb (by omega) (by omega) (by omega), Option.bind_some]
          dsimp only
          by_cases hk : okB (bodyS b (p + 6) (hdN b p))
          · rw [bif_dt hk, bif_room (by simp; omega) (by simp; omega), Option.bind_some, Option.bind_some, bif_64 (by omega) (by omega)]
            refine .inl ⟨_, rfl, ⟨p + (hdN b p + 26), out ++ [⟨idB (bodyS b (p + 6) (hdN b p)), p, hdN b p⟩], bad, ?_, ?_, by simp; omega, by omega, by omega⟩, by dsimp only; omega⟩
            · refine Prod.ext ?_ (Prod.ext (by dsimp only; omega) rfl)
              dsimp only
              rw [List.map_append]; rfl
            · rw [← hs, scanF_good hh (by omega) hk]
          · rw [bif_df hk, bif_64 (by omega) (by omega), Option.bind_some, Option.bind_some, bif_64 (by omega) (by omega)]
            refine .inl ⟨_, rfl, ⟨p + (hdN b p + 26), out, bad + 1, ?_, ?_, by omega, by omega, by omega⟩, by dsimp only; omega⟩
            · exact Prod.ext rfl (Prod.ext (by dsimp only; omega) (by dsimp only; omega))
            · rw [← hs, scanF_bad hh (by omega) hk]
      · refine .inr ⟨_, ?_, fin 2 (rest_bad (by omega) h6 hh) (.inr (.inr (.inl hh)))⟩
        rw [decide_eq_false hh]
        rfl
abbrev El := Arr 16 × Int × Int
theorem gbE {β : Type} {l : List El} {i : Int} {f : El → Option β} (h1 : 0 ≤ i) (h2 : i.toNat < l.length) : (l[i.toNat]?.bind f) = f (l[i.toNat]'h2) := by
  rw [List.getElem?_eq_getElem h2]; rfl
theorem F28_eq (l m : List El) (hl : l.length < 1099511627776) : F28 ((l, m) : List El × List El) = some (decide (l = m)) := by
  unfold F28
  dsimp only [St, Item.den, Pat.den, Ty.den]
  dsimp only [zi]
  by_cases hlm : l.length = m.length
  · rw [bif_nt (by omega)]
    refine loop_then (S := Int) (O := Bool ⊕ Unit) (fun r => r = some (decide (l = m))) (fun i => 0 ≤ i ∧ i ≤ l.length ∧ l.take i.toNat = m.take i.toNat) (fun i => (l.length - i).toNat) (fun o => (o = .inl false ∧ l ≠ m) ∨ (o = .inr () ∧ l = m)) ⟨by omega, by omega, rfl⟩ ?_ ?_
    · rintro i ⟨h1, h2, h3⟩
      by_cases hi : i < l.length
      · obtain ⟨a, ha⟩ : ∃ a, l[i.toNat]'(by omega) = a := ⟨_, rfl⟩
        obtain ⟨c, hc⟩ : ∃ c, m[i.toNat]'(by omega) = c := ⟨_, rfl⟩
        rw [bif_dt hi, bif_in (by omega) (by omega), gbE (by omega) (by omega), bif_in (by omega) (by omega), gbE (by omega) (by omega), ha, hc]
        by_cases e : a = c
        · refine .inl ⟨i + 1, ?_, ⟨by omega, by omega, ?_⟩, by omega⟩
          · rw [(eqT_iff (t := (Ty.arr IntKind.u8 16).pr ((Ty.int IntKind.i64).pr (Ty.int IntKind.i64))) rfl _ _).2 (by rw [e]), Bool.not_true, cond_false, bif_64 (by omega) (by omega)]
          · rw [show (i + 1).toNat = i.toNat + 1 by omega, List.take_add_one, List.take_add_one, h3, List.getElem?_eq_getElem (by omega), List.getElem?_eq_getElem (by omega), ha, hc, e]
        · refine .inr ⟨.inl false, ?_, .inl ⟨rfl, ?_⟩⟩
          · have : eqT ((Ty.arr IntKind.u8 16).pr ((Ty.int IntKind.i64).pr (Ty.int IntKind.i64))) (a.1, a.2.1, a.2.2) (c.1, c.2.1, c.2.2) = false := by
              cases hq : eqT ((Ty.arr IntKind.u8 16).pr ((Ty.int IntKind.i64).pr (Ty.int IntKind.i64))) (a.1, a.2.1, a.2.2) (c.1, c.2.1, c.2.2) with
              | false => rfl
              | true => exact absurd ((eqT_iff rfl _ _).1 hq) e
            rw [this]; rfl
          · intro he
            subst he
            exact e (ha.symm.trans hc)
      · refine .inr ⟨.inr (), by rw [bif_df hi], .inr ⟨rfl, ?_⟩⟩
        rw [show i.toNat = l.length by omega, List.take_length, List.take_of_length_le (by omega)] at h3
        exact h3
    · rintro o (⟨rfl, hne⟩ | ⟨rfl, rfl⟩)
      · rw [decide_eq_false hne]; rfl
      · rw [decide_eq_true rfl]; rfl
  · rw [bif_nf (by omega), decide_eq_false fun e => hlm (by rw [e])]
/-! ### what is got -/
def helO (e : El) : Hel := ⟨e.1.l, e.2.1, e.2.2⟩
def getW (b : List Int) (h : Hel) : List Int × List Int × List Int := if getErr b h = 0 then ((gBody (getX b h)).take 16, getB b h, []) else ([], [], [])
theorem eqT_id {X : List Int} (h : 20 ≤ X.length) (a : Arr 16) : eqT (.arr .u8 16) (idX X) a = decide (idB X = a.l) := by
  rw [eqT_arr]
  refine decide_eq_decide.2 ?_
  rw [arr_eq_iff, idX_l h]
theorem F29_eq (b : List Int) (e : El) (hB : Bytes b) (hb : b.length < 1099511627776) : F29 ((b, e) : List Int × El) = some ((getW b (helO e), getErr b (helO e)) : (List Int × List Int × List Int) × Int) := by
  obtain ⟨a, p, n⟩ := e
  unfold F29
  dsimp only [St, Item.den, Pat.den, Ty.den]
  dsimp only [zi]
  rw [F72_eq b p hB hb, Option.bind_some]
  dsimp only
  have miss : ¬ getOk b (helO (a, p, n)) → ((([], [], []), 6) : (List Int × List Int × List Int) × Int) = (getW b (helO (a, p, n)), getErr b (helO (a, p, n))) := fun h => by
    rw [getW, getErr_miss h, if_neg (by decide)]
  by_cases hh : isHead b p
  · have hsn := saysN_head hh
    have hh2 := hh
    unfold isHead at hh2
    obtain ⟨q, rfl⟩ := Int.eq_ofNat_of_zero_le hh2.1
    rw [Int.toNat_natCast] at hsn hh2
    rw [decide_eq_true hh, hsn]
    simp only [Bool.not_true, Bool.not_false, cond_true]
    rw [bif_nn]
    by_cases hn : (hdN b q : Int) = n
    · subst hn
      rw [bif_dt rfl, bif_64 (by omega) (by omega), F22_eq, Option.bind_some, sizeP_in (by omega) (by omega)]
      by_cases hl : b.length - q < hdN b q + 26
      · rw [bif_dt (by omega)]
        exact congrArg some (miss fun h => by have := h.2.2; simp only [helO] at this; omega)
      · have hX : (bodyS b (q + 6) (hdN b q)).length = hdN b q + 20 := bodyS_length (by omega)
        have hok : getOk b (helO (a, ((q : Nat) : Int), ((hdN b q : Nat) : Int))) := ⟨hh, rfl, by simp only [helO]; omega⟩
        have hgx : getX b (helO (a, ((q : Nat) : Int), ((hdN b q : Nat) : Int))) = bodyS b (q + 6) (hdN b q) := rfl
        rw [bif_df (by omega), F73_eq b q (hdN b q) hb (by omega) (by omega) (by omega), Option.bind_some]
        dsimp only
        rw [bif_nn, eqT_id (by omega)]
        by_cases hk : okB (bodyS b (q + 6) (hdN b q))
        · rw [bif_dt hk]
          by_cases hi : idB (bodyS b (q + 6) (hdN b q)) = a.l
          · have he := getErr_ok hok (by rw [hgx]; exact ⟨hk, hi⟩)
            rw [bif_nt hi, getW, he, if_pos rfl, getB_ok he, hgx]
            unfold winX
            rw [if_pos hk.1]
            refine congrArg some (Prod.ext (Prod.ext ?_ (Prod.ext ?_ ?_)) rfl)
            · dsimp only; rw [List.take_left' rfl]
            · dsimp only; rw [List.drop_left' rfl, List.take_left' rfl]; rfl
            · dsimp only; rw [List.append_nil, List.drop_eq_nil_of_le (by rw [List.length_append]; omega)]
          · have he := getErr_dam hok (by rw [hgx]; exact fun h => hi h.2)
            rw [bif_nf hi, getW, he, if_neg (by decide)]
        · have he := getErr_dam hok (by rw [hgx]; exact fun h => hk h.1)
          rw [bif_df hk, getW, he, if_neg (by decide)]
    · rw [bif_df hn]
      exact congrArg some (miss fun h => hn h.2.1)
  · rw [decide_eq_false hh]
    simp only [Bool.not_false, Bool.not_true, cond_false]
    exact congrArg some (miss fun h => hh h.1)
theorem F30_eq (b : List Int) (e : El) (hB : Bytes b) (hb : b.length < 1099511627776) : F30 ((b, e) : List Int × El) = some ((getB b (helO e), getErr b (helO e)) : List Int × Int) := by
  obtain ⟨a, p, n⟩ := e
  unfold F30
  dsimp only [St, Item.den, Pat.den, Ty.den]
  dsimp only [zi]
  rw [F70_eq b p hB hb, Option.bind_some]
  dsimp only
  have miss : ¬ getOk b (helO (a, p, n)) → (([], 6) : List Int × Int) = (getB b (helO (a, p, n)), getErr b (helO (a, p, n))) := fun h => by
    rw [getB, getErr_miss h, if_neg (by decide)]
  by_cases hh : isHead b p
  · have hsn := headN_head hh
    have hh2 := hh
    unfold isHead at hh2
    obtain ⟨q, rfl⟩ := Int.eq_ofNat_of_zero_le hh2.1
    rw [Int.toNat_natCast] at hsn hh2
    rw [decide_eq_true hh, hsn]
    simp only [Bool.not_true, Bool.not_false, cond_true]
    rw [bif_nn]
    by_cases hn : (hdN b q : Int) = n
    · subst hn
      rw [bif_dt rfl, bif_64 (by omega) (by omega), F23_eq, Option.bind_some, sizeP_in (by omega) (by omega)]
      by_cases hl : b.length - q < hdN b q + 26
      · rw [bif_dt (by omega)]
        exact congrArg some (miss fun h => by have := h.2.2; simp only [helO] at this; omega)
      · have hX : (bodyS b (q + 6) (hdN b q)).length = hdN b q + 20 := bodyS_length (by omega)
        have hok : getOk b (helO (a, ((q : Nat) : Int), ((hdN b q : Nat) : Int))) := ⟨hh, rfl, by simp only [helO]; omega⟩
        have hgx : getX b (helO (a, ((q : Nat) : Int), ((hdN b q : Nat) : Int))) = bodyS b (q + 6) (hdN b q) := rfl
        rw [bif_df (by omega), bif_64 (by omega) (by omega), F71_eq b q (hdN b q) hB hb (by omega) (by omega) (by omega), Option.bind_some]
        dsimp only
        rw [bif_nn, eqT_id (by omega)]
        by_cases hk : okB (bodyS b (q + 6) (hdN b q))
        · rw [bif_dt hk]
          by_cases hi : idB (bodyS b (q + 6) (hdN b q)) = a.l
          · have he := getErr_ok hok (by rw [hgx]; exact ⟨hk, hi⟩)
            rw [bif_nt hi, he, getB_ok he, hgx]
            unfold winX
            rw [if_pos hk.1]; rfl
          · have he := getErr_dam hok (by rw [hgx]; exact fun h => hi h.2)
            rw [bif_nf hi, he, getB_no (by rw [he]; decide)]
        · have he := getErr_dam hok (by rw [hgx]; exact fun h => hk h.1)
          rw [bif_df hk, he, getB_no (by rw [he]; decide)]
    · rw [bif_df hn]
      exact congrArg some (miss fun h => hn h.2.1)
  · rw [decide_eq_false hh]
    simp only [Bool.not_false, Bool.not_true, cond_false]
    exact congrArg some (miss fun h => hh h.1)
end Go.Sat
end
section
namespace Go.Sat
open Go

theorem bytes7 : Bytes [7] := fun x hx => by rw [List.mem_singleton.1 hx]; omega
def rec7 : List Int := recB [7]
theorem rec7_length : rec7.length = 27 := by rw [rec7, recB_length]; rfl
theorem ok7 : okLen [7] := by decide
theorem rec7_bytes : Bytes rec7 := recB_bytes bytes7 (by decide)
theorem rec7_start : List.take 4 (List.drop 0 rec7) = [0, 1, 255, 254] := rfl
theorem rec7_def : rec7 = recB [7] := rfl
def id7 : Arr 16 := idA [7]
theorem F31_eq : F31 () = some rec7 := by
  unfold F31
  dsimp only [St, Item.den, Pat.den, Ty.den]
  dsimp only [zi]
  rw [F19_eq _ (by decide), Option.bind_some]
  dsimp only
  rw [errOf_ok ok7, recOf_ok ok7]
  have := rec7_length
  unfold rec7 at this
  rw [bif_nn, bif_dt rfl, this, bif_nt (by rfl)]
  rfl
theorem F33_eq (n : Int) : F33 n = some ((id7, n, 1) : El) := by
  unfold F33
  rw [F36_eq _ (by decide)]; rfl
/-- every record that is found moves on -/
theorem scanF_le (b : List Int) : ∀ (k p : Nat) (out : List Hel) (bad : Nat), b.length - p ≤ k → (scanF b p out bad).1.length ≤ out.length + (b.length - p) := by
  intro k
  induction k with
  | zero =>
    intro p out bad h
    rw [scanF_end (.inl (by omega))]
    exact Nat.le_add_right _ _
  | succ k ih =>
    intro p out bad h
    by_cases he : b.length ≤ p ∨ b.length - p < 6 ∨ ¬ isHead b p ∨ b.length - p < hdN b p + 26
    · rw [scanF_end he]; exact Nat.le_add_right _ _
    · simp only [not_or, Classical.not_not] at he
      obtain ⟨h1, h2, h3, h4⟩ := he
      by_cases hk : okB (bodyS b (p + 6) (hdN b p))
      · rw [scanF_good h3 (by omega) hk]
        have := ih (p + (hdN b p + 26)) (out ++ [⟨idB (bodyS b (p + 6) (hdN b p)), p, hdN b p⟩]) bad (by omega)
        rw [List.length_append, List.length_singleton] at this
        omega
      · rw [scanF_bad h3 (by omega) hk]
        have := ih (p + (hdN b p + 26)) out (bad + 1) (by omega)
        omega
theorem scanB_le (b : List Int) : (scanB b).1.length ≤ b.length := by
  have := scanF_le b b.length 0 [] 0 (by omega)
  rw [List.length_nil, Nat.zero_add, Nat.sub_zero] at this
  exact this
theorem F34_eq (b : List Int) (hB : Bytes b) (hb : b.length < 1099511627776) (p n r : Int) (l : List El) : F34 ((b, p, n, r, l) : List Int × Int × Int × Int × List El) = some (decide (scanR (scanB b) = (l, p, n, r))) := by
  have hn : (scanB b).1.length < 1099511627776 := Nat.lt_of_le_of_lt (scanB_le b) hb
  unfold F34
  dsimp only [St, Item.den, Pat.den, Ty.den]
  rw [F26_eq b hB hb, Option.bind_some]
  obtain ⟨s, hs⟩ : ∃ s, scanB b = s := ⟨_, rfl⟩
  rw [hs] at hn ⊢
  rw [F28_eq _ _ (by show (s.1.map helE).length < _; rw [List.length_map]; exact hn), Option.bind_some]
  by_cases h1 : (scanR s).1 = l
  · by_cases h2 : (scanR s).2.1 = p
    · by_cases h3 : (scanR s).2.2.1 = n
      · rw [bif_dt h1, bif_dt h2, bif_dt h3]
        refine congrArg some (decide_eq_decide.2 ⟨fun h => ?_, fun h => ?_⟩)
        · rw [← h1, ← h2, ← h3, ← h]
        · rw [h]
      · rw [bif_dt h1, bif_dt h2, bif_df h3, decide_eq_false fun h => h3 (by rw [h])]
    · rw [bif_dt h1, bif_df h2, decide_eq_false fun h => h2 (by rw [h])]
  · rw [bif_df h1, decide_eq_false fun h => h1 (by rw [h])]
theorem F37_eq (x m : Int) (hm : m ≤ 9223372036854775807) : F37 ((x, m) : Int × Int) = some (if m < 1 then 0 else x % m) := by
  unfold F37
  dsimp only [St, Item.den, Pat.den, Ty.den]
  by_cases h : m < 1
  · rw [bif_dt h, if_pos h]
  · rw [bif_df h, bif_nf (by omega), if_neg h]
    have h1 := Int.tmod_lt_of_pos x (show 0 < m by omega)
    have h2 : -m < Int.tmod x m := by
      have := Int.tmod_lt_of_pos (-x) (show 0 < m by omega)
      rw [Int.neg_tmod] at this; omega
    have he : x % m = if Int.tmod x m < 0 then Int.tmod x m + m else Int.tmod x m := by
      have hd := Int.mul_tdiv_add_tmod x m
      obtain ⟨q, hq⟩ : ∃ q, x.tdiv m = q := ⟨_, rfl⟩
      obtain ⟨r, hr⟩ : ∃ r, x.tmod m = r := ⟨_, rfl⟩
      rw [hq, hr] at hd
      rw [hr] at h1 h2 ⊢
      split
      · rw [← hd, show m * q + r = (r + m) + m * (q - 1) by rw [Int.mul_sub]; omega, Int.add_mul_emod_self_left, Int.emod_eq_of_lt (by omega) (by omega)]
      · rw [← hd, Int.add_comm, Int.add_mul_emod_self_left, Int.emod_eq_of_lt (by omega) (by omega)]
    rw [he]
    by_cases h3 : Int.tmod x m < 0
    · rw [bif_dt h3, bif_64 (by omega) (by omega), if_pos h3]; rfl
    · rw [bif_df h3, if_neg h3]; rfl
theorem F25_eq (b : List Int) (hB : Bytes b) (hb : b.length < 1099511627776) : F25 ((([], b, lentT b), b) : (List Int × List Int × List Int) × List Int) = some true := by
  unfold F25
  dsimp only [St, Item.den, Pat.den, Ty.den]
  dsimp only [zi]
  have e0 : ([] : List Int) ++ (b ++ lentT b) = lentL b := rfl
  have hl := lentL_length b
  rw [e0, bif_dt rfl, bif_and2 (by simp only [List.length_nil]; omega) (by simp only [List.length_nil]; omega), F18_eq b hb, Option.bind_some]
  dsimp only
  rw [e0, bif_64 (by omega) (by omega), bif_and2 (by simp only [List.length_nil]; omega) (by omega)]
  have e1 : List.take (subN ((lentL b).length - (([] : List Int).length : Int)).toNat 0) (List.drop (([] : List Int).length + 0) (lentL b)) = lentL b := by
    rw [subN_eq]; simp only [List.length_nil, Nat.add_zero, List.drop_zero]; exact List.take_of_length_le (by omega)
  have e2 : List.take (subN ((b.length : Int) + 3).toNat 0) (List.drop (([] : List Int).length + 0) (lentL b)) = lentL b := by
    rw [subN_eq]; simp only [List.length_nil, Nat.add_zero, List.drop_zero]; exact List.take_of_length_le (by omega)
  rw [e1, e2, F21_eq _ _ (lentL_bytes hB) (lentL_bytes hB), decide_eq_true rfl]; rfl
theorem bifb {α : Type} {c : Bool} {a b : α} (h : c = true) : (bif c then a else b) = a := by rw [h]; rfl
/-- two records and a torn one -/
theorem twoTorn : scanB (rec7 ++ rec7 ++ rec7.take 26) = ([⟨shaID [7], 0, 1⟩, ⟨shaID [7], 27, 1⟩], 54, 0, 1) := by
  have h := scan_recs [[7], [7]] (by intro b hb; have : b = [7] := by simpa using hb
                                     rw [this]; exact ok7) [] (rec7.take 26) [] 0
  have e : ([] : List Int) ++ (encL [[7], [7]] ++ rec7.take 26) = rec7 ++ rec7 ++ rec7.take 26 := by simp [encL, rec7]
  have hl : (([] : List Int) ++ encL [[7], [7]]).length = 54 := by simp [encL, recB_length]
  rw [e] at h
  unfold scanB
  rw [List.length_nil] at h
  rw [h]
  have ht := torn_end (pre := [] ++ encL [[7], [7]]) (c := [7]) (k := 26) ok7 (by rw [recB_length]; decide) (u := rec7 ++ rec7 ++ rec7.take 26) (by simp [encL, rec7]) ([] ++ helsL 0 [[7], [7]]) 0
  rw [ht, hl]; rfl
theorem get7 {pre t : List Int} {p : Int} (hp : p = pre.length) : getErr (pre ++ (rec7 ++ t)) ⟨shaID [7], p, 1⟩ = 0 ∧ getB (pre ++ (rec7 ++ t)) ⟨shaID [7], p, 1⟩ = [7] := by
  subst hp
  exact get_rec ok7 rfl
theorem el7_E (p : Int) : ((id7, p, 1) : El) = helE ⟨shaID [7], p, 1⟩ := Prod.ext (Arr.ext' (by rw [show (helE ⟨shaID [7], p, 1⟩).1 = Arr.of 16 (shaID [7]) from rfl, Arr.of_l (shaID_length _)]; rfl)) rfl
theorem el7_O (p : Int) : helO ((id7, p, 1) : El) = ⟨shaID [7], p, 1⟩ := rfl
attribute [local irreducible] rec7
theorem F17_eq : F17 () = some true := by
  unfold F17
  dsimp only [St, Item.den, Pat.den, Ty.den]
  dsimp only [zi]
  have hl := rec7_length
  have hg := get7 (pre := []) (t := []) (p := 0) rfl
  rw [List.append_nil, List.nil_append] at hg
  obtain ⟨u, hw⟩ : ∃ u, getW rec7 ⟨shaID [7], 0, 1⟩ = (u, [7], []) := ⟨_, by rw [getW, if_pos hg.1, hg.2]⟩
  rw [F31_eq, Option.bind_some, bif_nf (by omega), F33_eq, Option.bind_some]
  dsimp only
  rw [F29_eq rec7 _ rec7_bytes (by omega), Option.bind_some, el7_O, hw, hg.1]
  dsimp only
  rw [bif_andt (by omega), rec7_start, F21_eq _ _ (fun x hx => by simp at hx; omega) (fun x hx => by simp at hx; omega), Option.bind_some, decide_eq_true rfl, cond_true, bif_dt rfl, List.append_nil, List.drop_left' rfl, List.take_length,
    F21_eq _ _ bytes7 bytes7, Option.bind_some, decide_eq_true rfl, cond_true, F32_eq _ (by omega), Option.bind_some, bif_room (by rw [hl]; decide) (by rw [hl]; decide), bif_andt (by omega), List.drop_zero,
    bif_room (by rw [List.length_append, List.length_take]; omega) (by rw [List.length_append, List.length_take]; omega), Option.bind_some, F33_eq, Option.bind_some]
  dsimp only
  rw [F34_eq _ ((rec7_bytes.app rec7_bytes).app (rec7_bytes.take _)) (by simp only [List.length_append, List.length_take]; omega), Option.bind_some, twoTorn]
  refine congrArg some (decide_eq_true ?_)
  rw [el7_E, el7_E]; rfl
theorem F3_eq (b : List Int) (n : Int) (hB : Bytes b) : F3 ((b, n) : List Int × Int) = some true := by
  unfold F3
  dsimp only [St, Item.den, Pat.den, Ty.den]
  dsimp only [zi]
  by_cases h : 1100 < b.length
  · rw [bif_dt (by omega), F17_eq]; rfl
  · have hb : b.length < 1099511627776 := by omega
    have e0 : ([] : List Int) ++ (b ++ lentT b) = lentL b := rfl
    have e1 : List.take b.length (List.drop ([] : List Int).length (lentL b)) = b := by rw [List.length_nil, List.drop_zero, lentL_eq, List.take_left' rfl]
    have e2 : List.drop (([] : List Int).length + b.length) (lentL b) = lentT b := by rw [List.length_nil, Nat.zero_add, lentL_eq, List.drop_left' rfl]
    have hrB := recOf_bytes hB
    rw [bif_df (by omega), F18_eq b hb, Option.bind_some]
    dsimp only
    rw [e0, e1, F19_eq b hb, Option.bind_some, F20_eq b hB hb, Option.bind_some, bif_dt rfl]
    dsimp only
    rw [(eqT_iff (t := .arr .u8 16) rfl _ _).2 rfl, cond_true, F21_eq _ _ hrB hrB, Option.bind_some, decide_eq_true rfl, cond_true, F22_eq, Option.bind_some, F23_eq, Option.bind_some]
    show ((some ()).bind fun _ => _) = _
    rw [Option.bind_some, bif_dt rfl, e2]
    have e3 : List.take ([] : List Int).length (lentL b) = [] := rfl
    rw [e3]
    erw [F25_eq b hB hb]
    rw [Option.bind_some, cond_true, F17_eq]; rfl
end Go.Sat
end
section
namespace Go.Sat
open Go

theorem getW_mid (b : List Int) (h : Hel) : (getW b h).2.1 = getB b h := by
  unfold getW
  by_cases he : getErr b h = 0
  · rw [if_pos he]
  · rw [if_neg he, getB_no he]
theorem win_mid (u v w : List Int) : List.take v.length (List.drop u.length (u ++ (v ++ w))) = v := by rw [List.drop_left' rfl, List.take_left' rfl]
theorem gbEE {β : Type} {l : List El} {i : Int} {f : El → Option β} {e : El} (h1 : 0 ≤ i) (h2 : l[i.toNat]? = some e) : (l[i.toNat]?.bind f) = f e := by rw [h2]; rfl
theorem F4_eq (b : List Int) (x : El) (hB : Bytes b) : F4 ((b, x) : List Int × El) = some true := by
  obtain ⟨xa, xp, xn⟩ := x
  unfold F4
  dsimp only [St, Item.den, Pat.den, Ty.den]
  dsimp only [zi]
  by_cases h : 6000 < b.length
  · rw [bif_dt (by omega), F17_eq]; rfl
  · have hb : b.length < 1099511627776 := by omega
    have e0 : ([] : List Int) ++ (b ++ lentT b) = lentL b := rfl
    have e1 : List.take b.length (List.drop ([] : List Int).length (lentL b)) = b := by rw [List.length_nil, List.drop_zero, lentL_eq, List.take_left' rfl]
    have e2 : List.drop (([] : List Int).length + b.length) (lentL b) = lentT b := by rw [List.length_nil, Nat.zero_add, lentL_eq, List.drop_left' rfl]
    rw [bif_df (by omega), F18_eq b hb, Option.bind_some]
    dsimp only
    rw [e0, e1, e2, F26_eq b hB hb, Option.bind_some, F27_eq b hB hb, Option.bind_some]
    have hsl := scanB_le b
    obtain ⟨s, hs⟩ : ∃ s, scanR (scanB b) = s := ⟨_, rfl⟩
    have hl : s.1.length ≤ b.length := by rw [← hs]; show ((scanB b).1.map helE).length ≤ _; rw [List.length_map]; exact hsl
    rw [hs]
    rw [bif_nn, bif_dt rfl, bif_nn, bif_dt rfl, bif_nn, bif_dt rfl, F28_eq _ _ (by omega), Option.bind_some, decide_eq_true rfl, Bool.not_true, cond_false, bif_room (by omega) (by omega), List.nil_append, bif_room (by simp only [List.length_singleton]; omega) (by simp only [List.length_singleton]; omega)]
    obtain ⟨l, hl2⟩ : ∃ l, s.1 ++ [((xa, xp, xn) : El)] = l := ⟨_, rfl⟩
    have hll : l.length ≤ 6001 := by rw [← hl2, List.length_append, List.length_singleton]; omega
    rw [hl2]
    refine loop_then (S := Int) (O := Bool ⊕ Unit) (fun r => r = some true) (fun i => 0 ≤ i ∧ i ≤ l.length) (fun i => (l.length - i).toNat) (fun o => o = .inr ()) ⟨by omega, by omega⟩ ?_ ?_
    · rintro i ⟨h1, h2⟩
      by_cases hi : i < l.length
      · refine .inl ⟨i + 1, ?_, ⟨by omega, by omega⟩, by omega⟩
        obtain ⟨c, hc⟩ : ∃ c, l[i.toNat]? = some c := ⟨_, List.getElem?_eq_getElem (by omega)⟩
        rw [bif_dt hi, bif_in (by omega) (by omega), gbEE h1 hc]
        rw [F29_eq b _ hB hb, Option.bind_some]
        dsimp only
        rw [bif_in (by omega) (by omega), gbEE h1 hc, F30_eq b _ hB hb, Option.bind_some]
        dsimp only
        rw [bif_nn, bif_dt rfl, win_mid, getW_mid, F21_eq _ _ (getB_bytes hB _) (getB_bytes hB _), Option.bind_some, decide_eq_true rfl, Bool.not_true, cond_false]
        show ((some ()).bind fun _ => _) = _
        rw [Option.bind_some, bif_64 (by omega) (by omega)]
      · exact .inr ⟨.inr (), by rw [bif_df hi], rfl⟩
    · rintro o rfl
      dsimp only [selim, Sum.elim_inr]
      erw [F25_eq b hB hb]
      rw [Option.bind_some, cond_true, F17_eq]; rfl

/-! ### what is found is honest -/
def chain (b : List Int) : Nat → List Hel → Nat → Prop
  | q, [], e => q ≤ e
  | q, h :: l, e => ∃ p n : Nat, h = ⟨idB (bodyS b (p + 6) n), p, n⟩ ∧ q ≤ p ∧ isHead b p ∧ hdN b p = n ∧ okB (bodyS b (p + 6) n) ∧ p + n + 26 ≤ b.length ∧ chain b (p + n + 26) l e
theorem chain_le (b : List Int) : ∀ {l : List Hel} {q q' e : Nat}, q' ≤ q → chain b q l e → chain b q' l e := by
  intro l
  cases l with
  | nil => intro q q' e h hc; exact Nat.le_trans h hc
  | cons h l => intro q q' e hq hc; obtain ⟨p, n, h1, h2, h3⟩ := hc; exact ⟨p, n, h1, Nat.le_trans hq h2, h3⟩
theorem scanF_spec (b : List Int) : ∀ (k p : Nat) (out : List Hel) (bad : Nat), b.length - p ≤ k → p ≤ b.length → ∃ l e bad', scanF b p out bad = (out ++ l, e, bad', restAt b e) ∧ chain b p l e ∧ e ≤ b.length := by
  intro k
  induction k with
  | zero => intro p out bad h hp; exact ⟨[], p, bad, by rw [scanF_end (.inl (by omega)), List.append_nil], Nat.le_refl _, hp⟩
  | succ k ih =>
    intro p out bad h hp
    by_cases he : b.length ≤ p ∨ b.length - p < 6 ∨ ¬ isHead b p ∨ b.length - p < hdN b p + 26
    · exact ⟨[], p, bad, by rw [scanF_end he, List.append_nil], Nat.le_refl _, hp⟩
    · simp only [not_or, Classical.not_not] at he
      obtain ⟨h1, h2, h3, h4⟩ := he
      by_cases hk : okB (bodyS b (p + 6) (hdN b p))
      · obtain ⟨l, e, bad', q1, q2, q3⟩ := ih (p + (hdN b p + 26)) (out ++ [⟨idB (bodyS b (p + 6) (hdN b p)), p, hdN b p⟩]) bad (by omega) (by omega)
        refine ⟨⟨idB (bodyS b (p + 6) (hdN b p)), p, hdN b p⟩ :: l, e, bad', ?_, ⟨p, hdN b p, rfl, Nat.le_refl _, h3, rfl, hk, by omega, ?_⟩, q3⟩
        · rw [scanF_good h3 (by omega) hk, q1, List.append_assoc]; rfl
        · rw [show p + hdN b p + 26 = p + (hdN b p + 26) by omega]; exact q2
      · obtain ⟨l, e, bad', q1, q2, q3⟩ := ih (p + (hdN b p + 26)) out (bad + 1) (by omega) (by omega)
        exact ⟨l, e, bad', by rw [scanF_bad h3 (by omega) hk, q1], chain_le b (by omega) q2, q3⟩
theorem helO_E {h : Hel} (hi : h.id.length = 16) : helO (helE h) = h := by
  unfold helO helE
  rw [Arr.of_l hi]
theorem rest_whole_iff {b : List Int} {e : Nat} (h : e ≤ b.length) : restAt b e = 0 ↔ e = b.length := by
  unfold restAt
  constructor
  · intro hr
    by_cases h0 : b.length ≤ e
    · omega
    · rw [if_neg h0] at hr
      split at hr
      · cases hr
      · split at hr <;> cases hr
  · intro he; rw [if_pos (by omega)]
theorem rest_range (b : List Int) (e : Nat) : 0 ≤ restAt b e ∧ restAt b e ≤ 2 := by
  unfold restAt
  split
  · omega
  · split
    · omega
    · split <;> omega
theorem F9_eq (b : List Int) (hB : Bytes b) : F9 b = some true := by
  unfold F9
  dsimp only [St, Item.den, Pat.den, Ty.den]
  dsimp only [zi]
  rw [F17_eq, Option.bind_some]
  by_cases h : 6000 < b.length
  · rw [bif_dt (by omega)]
  · have hb : b.length < 1099511627776 := by omega
    have hsl := scanB_le b
    obtain ⟨l, e, bad, q1, q2, q3⟩ := scanF_spec b b.length 0 [] 0 (by omega) (by omega)
    have hs : scanB b = (l, e, bad, restAt b e) := q1
    rw [hs] at hsl
    have hsl2 : l.length ≤ b.length := hsl
    have hR : scanR (scanB b) = (l.map helE, (e : Int), (bad : Int), restAt b e) := by rw [hs]; rfl
    rw [bif_df (by omega), F26_eq b hB hb, hR, Option.bind_some]
    dsimp only
    refine loop_then (S := Int × Int) (O := Bool ⊕ Int) (fun r => r = some true) (fun s => ∃ q i : Nat, s = ((q : Int), (i : Int)) ∧ i ≤ l.length ∧ chain b q (l.drop i) e) (fun s => ((l.length : Int) - s.2).toNat) (fun o => ∃ q : Nat, o = .inr (q : Int) ∧ q ≤ e) ⟨0, 0, rfl, by omega, q2⟩ ?_ ?_
    · rintro _ ⟨q, i, rfl, hi, hc⟩
      dsimp only
      rw [List.length_map]
      by_cases hil : i < l.length
      · obtain ⟨hd, hhd⟩ : ∃ hd, l[i]? = some hd := ⟨_, List.getElem?_eq_getElem hil⟩
        have hdr : l.drop i = hd :: l.drop (i + 1) := by rw [List.drop_eq_getElem_cons hil]; rw [List.getElem?_eq_getElem hil] at hhd; cases hhd; rfl
        rw [hdr] at hc
        obtain ⟨p, n, rfl, hqp, hh, hn, hk, hle, hc⟩ := hc
        have hX : (bodyS b (p + 6) n).length = n + 20 := bodyS_length (by omega)
        have hh2 := hh
        unfold isHead at hh2
        rw [Int.toNat_natCast, hn] at hh2
        obtain ⟨A, hA⟩ : ∃ A, Arr.of 16 (idB (bodyS b (p + 6) n)) = A := ⟨_, rfl⟩
        have hAl : A.l = idB (bodyS b (p + 6) n) := by rw [← hA, Arr.of_l (idB_length (by omega))]
        have hel : (l.map helE)[(i : Int).toNat]? = some ((A, (p : Int), (n : Int)) : El) := by rw [Int.toNat_natCast, List.getElem?_map, hhd, ← hA]; rfl
        have hO : helO ((A, (p : Int), (n : Int)) : El) = ⟨idB (bodyS b (p + 6) n), p, n⟩ := by unfold helO; rw [hAl]
        have hgx : getX b ⟨idB (bodyS b (p + 6) n), p, n⟩ = bodyS b (p + 6) n := by unfold getX; rw [Int.toNat_natCast, hn]
        have hok : getOk b ⟨idB (bodyS b (p + 6) n), p, n⟩ := ⟨hh, by rw [Int.toNat_natCast, hn], by show (p : Int) + (n : Int) + 26 ≤ _; omega⟩
        have he := getErr_ok hok (by rw [hgx]; exact ⟨hk, rfl⟩)
        have hg := getB_ok he
        rw [hgx] at hg
        have hgl := gBody_length hk.1
        have hdl : (dataB (bodyS b (p + 6) n)).length = n := by unfold dataB; rw [List.length_drop, hgl, hX]; omega
        have hid : idA (dataB (bodyS b (p + 6) n)) = A := Arr.ext' (by
          show shaID (dataB (bodyS b (p + 6) n)) = A.l
          rw [hAl]
          unfold idB dataB
          rw [if_pos hk.1]; exact hk.2)
        refine .inl ⟨(((p + n + 26 : Nat) : Int), ((i + 1 : Nat) : Int)), ?_, ⟨p + n + 26, i + 1, rfl, by omega, hc⟩, by dsimp only; omega⟩
        rw [bif_dt (by omega), bif_in (by omega) (by omega), gbEE (by omega) hel]
        rw [F29_eq b _ hB hb, Option.bind_some, hO, he]
        dsimp only
        rw [bif_nn, bif_dt rfl, bif_in (by omega) (by omega), gbEE (by omega) hel, getW_mid, hg, hdl]
        dsimp only
        rw [bif_nn, bif_dt rfl]
        have hmid : List.take (getW b ⟨idB (bodyS b (p + 6) n), p, n⟩).2.1.length (List.drop (getW b ⟨idB (bodyS b (p + 6) n), p, n⟩).1.length ((getW b ⟨idB (bodyS b (p + 6) n), p, n⟩).1 ++ ((getW b ⟨idB (bodyS b (p + 6) n), p, n⟩).2.1 ++ (getW b ⟨idB (bodyS b (p + 6) n), p, n⟩).2.2))) = dataB (bodyS b (p + 6) n) := by rw [win_mid, getW_mid, hg]
        rw [getW_mid, hg, hdl] at hmid
        rw [hmid, F36_eq _ (by omega), Option.bind_some, bif_in (by omega) (by omega), gbEE (by omega) hel, bif_nn, (eqT_iff (t := .arr .u8 16) rfl _ _).2 hid, cond_true, bif_in (by omega) (by omega), gbEE (by omega) hel]
        dsimp only
        rw [bif_df (by omega), bif_in (by omega) (by omega), gbEE (by omega) hel, bif_in (by omega) (by omega), gbEE (by omega) hel]
        dsimp only
        rw [F22_eq, Option.bind_some, sizeP_in (by omega) (by omega), bif_64 (by omega) (by omega), bif_64 (by omega) (by omega)]
        exact congrArg some (congrArg Sum.inl (Prod.ext (by dsimp only; omega) (by dsimp only; omega)))
      · refine .inr ⟨.inr (q : Int), by rw [bif_df (by omega)], ⟨q, rfl, ?_⟩⟩
        rw [List.drop_eq_nil_of_le (by omega)] at hc
        exact hc
    · rintro o ⟨q, rfl, hq⟩
      dsimp only [selim, Sum.elim_inr, cond_true]
      obtain ⟨r1, r2⟩ := rest_range b e
      have hiff := rest_whole_iff q3
      rw [bif_dt (by omega), bif_dt (by omega), bif_dt (by omega)]
      have : (decide (restAt b e = 0) == decide ((e : Int) = (b.length : Int))) = true := by
        rw [beq_iff_eq, decide_eq_decide, hiff]; omega
      rw [this, cond_true, bif_dt r1, decide_eq_true r2]
end Go.Sat
end
section
namespace Go.Sat
open Go
set_option maxRecDepth 100000
theorem sha7 : (shaID [7]).take 1 = [202] := by kernel_rfl
theorem sha7_no : shaID [7] ≠ zer 16 := fun h => by
  have := sha7
  rw [h] at this
  cases this
theorem xor_all : ((List.range 256).all fun c => !decide (bXor .u8 (c : Int) 1 = (c : Int)) && (decide (0 ≤ bXor .u8 (c : Int) 1) && decide (bXor .u8 (c : Int) 1 < 256))) = true := by kernel_rfl
theorem xor_one {c : Int} (h : 0 ≤ c ∧ c < 256) : bXor .u8 c 1 ≠ c ∧ 0 ≤ bXor .u8 c 1 ∧ bXor .u8 c 1 < 256 := by
  obtain ⟨n, rfl⟩ := Int.eq_ofNat_of_zero_le h.1
  have := List.all_eq_true.1 xor_all n (List.mem_range.2 (by omega))
  simp only [Bool.and_eq_true, Bool.not_eq_true', decide_eq_false_iff_not, decide_eq_true_eq] at this
  exact this
theorem zero_bytes (n : Nat) : Bytes (zer n) := fun x hx => by rw [(List.mem_replicate.1 hx).2]; omega
theorem set_bytes {l : List Int} (h : Bytes l) {i : Nat} {v : Int} (hv : 0 ≤ v ∧ v < 256) : Bytes (l.set i v) := fun x hx => by
  rcases List.mem_or_eq_of_mem_set hx with h1 | rfl
  · exact h x h1
  · exact hv
theorem headL1 : headL 1 = [0, 1, 255, 254, rd (headL 1) 4, rd (headL 1) 5] := rfl
theorem rec7_cut : rec7 = headL 1 ++ gPut (shaID [7] ++ [7]) := rfl
theorem body7_length : (gPut (shaID [7] ++ [7])).length = 21 := by rw [gPut_length, List.length_append, shaID_length]; rfl
attribute [local irreducible] rec7
/-- a record whose last byte was changed -/
theorem hurt7 {v : Int} (hv : v ≠ rd rec7 26) : scanB (rec7.set 26 v ++ rec7) = ([⟨shaID [7], 27, 1⟩], 54, 1, 0) := by
  obtain ⟨X, hX⟩ : ∃ X, gPut (shaID [7] ++ [7]) = X := ⟨_, rfl⟩
  have hXl : X.length = 21 := by rw [← hX]; exact body7_length
  have hcut : rec7 = headL 1 ++ X := by rw [rec7_cut, hX]
  have hset : rec7.set 26 v = headL 1 ++ X.set 20 v := by rw [hcut, List.set_append_right _ _ (by rw [headL_length]; omega), headL_length]
  have hl7 := rec7_length
  obtain ⟨b, hb⟩ : ∃ b, rec7.set 26 v ++ rec7 = b := ⟨_, rfl⟩
  have hbl : b.length = 54 := by rw [← hb, List.length_append, List.length_set, hl7]
  have hbc : b = headL 1 ++ (X.set 20 v ++ rec7) := by rw [← hb, hset, List.append_assoc]
  have hn : hdN b 0 = 1 := by rw [hbc]; rfl
  have hh : isHead b ((0 : Nat) : Int) := by
    refine ⟨by omega, by omega, by rw [Int.toNat_natCast, hn]; omega, by rw [Int.toNat_natCast, hn]; omega, ?_⟩
    rw [Int.toNat_natCast, hn, List.drop_zero, hbc, List.take_left' (headL_length _)]
  have hbody : bodyS b (0 + 6) 1 = X.set 20 v := by
    unfold bodyS
    rw [hbc, Nat.zero_add, List.drop_left' (headL_length _), List.take_left' (by rw [List.length_set, hXl])]
  have hno : ¬ okB (X.set 20 v) := by
    rintro ⟨⟨_, hg⟩, _⟩
    rw [List.length_set, hXl, List.take_set_of_le (by omega)] at hg
    have ht : X.take (21 - 4) = shaID [7] ++ [7] := by
      rw [← hX]; unfold gPut
      rw [List.take_left' (by rw [List.length_append, shaID_length]; rfl)]
    rw [ht, hX] at hg
    apply hv
    have h20 : X.getD 20 0 = (X.set 20 v).getD 20 0 := congrArg (fun l => l.getD 20 0) hg
    have e1 : (X.set 20 v).getD 20 0 = v := by rw [List.getD_eq_getElem?_getD, List.getElem?_set_self (by omega)]; rfl
    rw [e1] at h20
    rw [← h20]
    unfold rd
    rw [hcut, List.getD_eq_getElem?_getD, List.getD_eq_getElem?_getD, List.getElem?_append_right (by rw [headL_length]; decide), headL_length]
    rfl
  unfold scanB
  rw [hb, scanF_bad (p := 0) hh (by rw [hn]; omega) (by rw [hn, hbody]; exact hno), hn]
  have h := scan_recs [[7]] (by intro c hc; have : c = [7] := by simpa using hc
                                rw [this]; exact ok7) (rec7.set 26 v) [] [] 1
  have e : rec7.set 26 v ++ (encL [[7]] ++ []) = b := by rw [← hb]; simp [encL, rec7_def]
  rw [e, List.length_set, hl7] at h
  rw [show 0 + (1 + 26) = 27 from rfl, h]
  have hl : (rec7.set 26 v ++ encL [[7]]).length = 54 := by simp [encL, recB_length, hl7]
  rw [hl, scanF_end (.inl (by omega)), rest_whole (by omega)]
  rfl
theorem nohead7 : scanB (rec7.set 1 0 ++ rec7) = ([], 0, 0, 2) := by
  obtain ⟨b, hb⟩ : ∃ b, rec7.set 1 0 ++ rec7 = b := ⟨_, rfl⟩
  have hbl : b.length = 54 := by rw [← hb, List.length_append, List.length_set, rec7_length]
  have hn : hdN b 0 = 0 := by
    rw [← hb, rec7_cut, headL1]; rfl
  have hh : ¬ isHead b ((0 : Nat) : Int) := fun h => by have := h.2.2.1; rw [Int.toNat_natCast, hn] at this; omega
  unfold scanB
  rw [hb, scanF_end (.inr (.inr (.inl hh))), rest_bad (by omega) (by omega) hh]
theorem hdN7_0 : hdN rec7 0 = 1 := by rw [rec7_cut, headL1]; rfl
theorem hdN7_1 : hdN rec7 1 = 511 := by rw [rec7_cut, headL1]; rfl
theorem miss7_1 : getErr rec7 ⟨shaID [7], 1, 1⟩ = 6 := getErr_miss fun h => by
  have := h.2.1
  rw [show ((1 : Int).toNat) = 1 from rfl, hdN7_1] at this
  have : ((511 : Nat) : Int) = 1 := this
  omega
theorem miss7_2 : getErr rec7 ⟨shaID [7], 0, 2⟩ = 6 := getErr_miss fun h => by
  have := h.2.1
  rw [show ((0 : Int).toNat) = 0 from rfl, hdN7_0] at this
  have : ((1 : Nat) : Int) = 2 := this
  omega
theorem other7 : getErr rec7 ⟨zer 16, 0, 1⟩ = 11 := by
  have hg := get7 (pre := []) (t := []) (p := 0) rfl
  rw [List.append_nil, List.nil_append] at hg
  have h1 : getOk rec7 ⟨shaID [7], 0, 1⟩ := Classical.byContradiction fun hn => by
    rw [getErr_miss hn] at hg; exact absurd hg.1 (by decide)
  have hd : okB (getX rec7 ⟨shaID [7], 0, 1⟩) ∧ idB (getX rec7 ⟨shaID [7], 0, 1⟩) = shaID [7] := Classical.byContradiction fun hn => by
    rw [getErr_dam h1 hn] at hg; exact absurd hg.1 (by decide)
  have h2 : getOk rec7 ⟨zer 16, 0, 1⟩ := by dsimp only [getOk] at h1 ⊢; exact h1
  refine getErr_dam h2 fun h => sha7_no ?_
  have h3 := h.2
  have h4 := hd.2
  dsimp only [getX] at h3 h4
  exact h4.symm.trans h3
theorem gbI {β : Type} {l : List Int} {k : Nat} {f : Int → Option β} (h : k < l.length) : (l[k]?.bind f) = f (rd l (k : Int)) := gbN h
theorem F5_eq : F5 () = some true := by
  unfold F5
  dsimp only [St, Item.den, Pat.den, Ty.den]
  have hl := rec7_length
  have hll : (rec7 ++ rec7).length = 54 := by rw [List.length_append, hl]
  rw [F31_eq, Option.bind_some, bif_nf (by omega), F32_eq _ (by omega), Option.bind_some, bif_room (by rw [hl]; decide) (by rw [hl]; decide), Option.bind_some, bif_room (by rw [hl]; decide) (by rw [hl]; decide),
    hll, bif_in (by decide) (by decide), gbI (by omega), bif_in (by decide) (by decide), gbI (by omega), bif_in (by decide) (by decide), gbI (by omega), bif_in (by decide) (by decide), gbI (by omega)]
  rw [F19_eq _ (by decide), Option.bind_some, F19_eq _ (by rw [zer_length]; decide), Option.bind_some, F33_eq, Option.bind_some]
  dsimp only
  rw [F29_eq rec7 _ rec7_bytes (by omega), Option.bind_some, F33_eq, Option.bind_some]
  dsimp only
  rw [F29_eq rec7 _ rec7_bytes (by omega), Option.bind_some, F29_eq rec7 _ rec7_bytes (by omega), Option.bind_some]
  have o1 : helO ((id7, 1, 1) : El) = ⟨shaID [7], 1, 1⟩ := rfl
  have o2 : helO ((id7, 0, 2) : El) = ⟨shaID [7], 0, 2⟩ := rfl
  have o3 : helO ((Arr.zero 16, 0, 1) : El) = ⟨zer 16, 0, 1⟩ := rfl
  have hE0 : errOf [] = 2 := rfl
  have hE1 : errOf (zer 1025) = 3 := errOf_long (by rw [zer_length]; decide)
  rw [o1, o2, o3, miss7_1, miss7_2, other7, F22_eq, Option.bind_some, bif_dt (by decide), F22_eq, Option.bind_some, bif_dt (by decide), F22_eq, Option.bind_some, bif_dt (by decide), hE0, hE1]
  dsimp only
  have r26 : rd (rec7 ++ rec7) ((26 : Nat) : Int) = rd rec7 26 := by
    unfold rd
    rw [List.getD_eq_getElem?_getD, List.getD_eq_getElem?_getD, List.getElem?_append_left (by rw [hl]; decide)]; rfl
  have r1 : rd (rec7 ++ rec7) ((1 : Nat) : Int) = 1 := by
    rw [rec7_cut, headL1]; rfl
  have hby : 0 ≤ rd rec7 26 ∧ rd rec7 26 < 256 := rec7_bytes.rd (i := 26) (by omega)
  obtain ⟨x1, x2⟩ := xor_one hby
  have s26 : ∀ v, (rec7 ++ rec7).set 26 v = rec7.set 26 v ++ rec7 := fun v => List.set_append_left _ _ (by omega)
  have s1 : ∀ v, (rec7 ++ rec7).set 1 v = rec7.set 1 v ++ rec7 := fun v => List.set_append_left _ _ (by omega)
  rw [bif_dt rfl, F17_eq, Option.bind_some, cond_true, bif_dt rfl, F33_eq, Option.bind_some]
  dsimp only
  rw [r26, r1, s26, s1]
  rw [F34_eq _ ((set_bytes rec7_bytes x2).app rec7_bytes) (by rw [List.length_append, List.length_set]; omega), Option.bind_some, hurt7 x1]
  rw [decide_eq_true (by rw [el7_E]; rfl), cond_true]
  rw [F34_eq _ ((set_bytes rec7_bytes (by decide)).app rec7_bytes) (by rw [List.length_append, List.length_set]; omega), Option.bind_some]
  rw [show bXor IntKind.u8 1 1 = 0 from by kernel_rfl, nohead7]
  rw [decide_eq_true (by rfl), cond_true, bif_dt rfl, bif_dt rfl, decide_eq_true rfl]
end Go.Sat
end
section
namespace Go.Sat
open Go Go.Proofs
set_option maxRecDepth 100000
theorem T3 (b : List Int) (n : Int) (hb : Fits (.sl (.int .u8)) b) (_ : Fits (.int .i64) n) : F3 ((b, n) : List Int × Int) = some true := F3_eq b n hb.bytes
noncomputable def S4T : FnSpec := spec Try.f4 [.slot 0 (.ty (.sl (.int .u8))), .agg 1 (.ty (.pr (.arr .u8 16) (.pr (.int .i64) (.int .i64))))] [.slot 0 (.ty .bool)] F4
theorem K4T : FnOk Try.prog 4 S4T := fn_known (tbl := [(17, S17), (18, S18), (26, S26), (27, S27), (28, S28), (29, S29), (30, S30), (21, S21), (24, S24), (25, S25)]) mixedTry (.cons K17 (.cons K18 (.cons K26 (.cons K27 (.cons K28 (.cons K29 (.cons K30 (.cons K21 (.cons K24 (.cons K25 .nil)))))))))) (.node .nil (.node .nil (.node .nil (.node .nil (.node .nil (.node .nil (.node .nil (.node (.node .nil (.node (.loop [.slot 15 (.ty (.int .i64))] [(.ret, [.slot 4 (.ty .bool)]), (.ext 0, [])] [] .nil) .nil)) .nil)))))))) Try.func4 rfl rfl (by kernel_rfl)
theorem T4 (b : List Int) (x : El) (hb : Fits (.sl (.int .u8)) b) (_ : Fits (.pr (.arr .u8 16) (.pr (.int .i64) (.int .i64))) x) : F4 ((b, x) : List Int × El) = some true := F4_eq b x hb.bytes
theorem T5 : F5 () = some true := F5_eq
theorem T9 (b : List Int) (hb : Fits (.sl (.int .u8)) b) : F9 b = some true := F9_eq b hb.bytes
end Go.Sat
end
section
namespace Go.Sat
open Go

def endsL : Nat → List (List Int) → List Int
  | _, [] => []
  | p, b :: l => ((p + (b.length + 26) : Nat) : Int) :: endsL (p + (b.length + 26)) l
def okAll (x : List (List Int)) : Prop := ¬ 20 < x.length ∧ ¬ 4000 < x.flatten.length ∧ ∀ b ∈ x, okLen b
instance (x : List (List Int)) : Decidable (okAll x) := by unfold okAll; infer_instance
abbrev AllR := List Int × List Int × List El × Bool
def allR (x : List (List Int)) : AllR := if okAll x then (encL x, endsL 0 x, (helsL 0 x).map helE, true) else ([], [], [], false)
theorem encL_app (l m : List (List Int)) : encL (l ++ m) = encL l ++ encL m := by simp [encL]
theorem encL_one (b : List Int) : encL [b] = recB b := by simp [encL]
theorem endsL_snoc : ∀ (l : List (List Int)) (p : Nat) (b : List Int), endsL p (l ++ [b]) = endsL p l ++ [((p + (encL (l ++ [b])).length : Nat) : Int)] := by
  intro l
  induction l with
  | nil => intro p b; simp [endsL, encL, recB_length]
  | cons c l ih =>
    intro p b
    have e : (encL (c :: (l ++ [b]))).length = (c.length + 26) + (encL (l ++ [b])).length := by simp [encL, recB_length]
    rw [List.cons_append, endsL, endsL, ih, List.cons_append, e, show p + (c.length + 26) + (encL (l ++ [b])).length = p + (c.length + 26 + (encL (l ++ [b])).length) by omega]
theorem helsL_snoc : ∀ (l : List (List Int)) (p : Nat) (b : List Int), helsL p (l ++ [b]) = helsL p l ++ [⟨shaID b, ((p + (encL l).length : Nat) : Int), b.length⟩] := by
  intro l
  induction l with
  | nil => intro p b; simp [helsL, encL]
  | cons c l ih =>
    intro p b
    have e : (encL (c :: l)).length = (c.length + 26) + (encL l).length := by simp [encL, recB_length]
    rw [List.cons_append, helsL, helsL, ih, List.cons_append, e, show p + (c.length + 26) + (encL l).length = p + (c.length + 26 + (encL l).length) by omega]
theorem endsL_length : ∀ (l : List (List Int)) (p : Nat), (endsL p l).length = l.length := by
  intro l
  induction l with
  | nil => intro p; rfl
  | cons b l ih => intro p; simp [endsL, ih]
theorem helsL_length : ∀ (l : List (List Int)) (p : Nat), (helsL p l).length = l.length := by
  intro l
  induction l with
  | nil => intro p; rfl
  | cons b l ih => intro p; simp [helsL, ih]
theorem encL_length : ∀ (l : List (List Int)), (encL l).length = l.flatten.length + 26 * l.length := by
  intro l
  induction l with
  | nil => rfl
  | cons b l ih =>
    have : (encL (b :: l)).length = (b.length + 26) + (encL l).length := by simp [encL, recB_length]
    rw [this, ih, List.flatten_cons, List.length_append, List.length_cons]; omega
theorem flat_mul {M : Nat} {x : List (List Int)} (h : ∀ b ∈ x, b.length ≤ M) : ∀ k, (x.take k).flatten.length ≤ k * M := by
  induction x with
  | nil => intro k; simp
  | cons b x ih =>
    intro k
    cases k with
    | zero => simp
    | succ k =>
      have h1 := ih (fun c hc => h c (List.mem_cons_of_mem _ hc)) k
      have h2 := h b (List.mem_cons_self ..)
      rw [List.take_succ_cons, List.flatten_cons, List.length_append, Nat.succ_mul]; omega
abbrev Short (x : List (List Int)) : Prop := ∀ b ∈ x, b.length ≤ 140737488355327
theorem F35_eq (x : List (List Int)) (hx : Short x) : F35 x = some (allR x) := by
  unfold F35
  dsimp only [St, Item.den, Pat.den, Ty.den]
  dsimp only [zi]
  obtain ⟨n, hn⟩ : ∃ n, Nat.min x.length 21 = n := ⟨_, rfl⟩
  have hn1 : n ≤ x.length := by rw [← hn]; exact Nat.min_le_left _ _
  have hn2 : n ≤ 21 := by rw [← hn]; exact Nat.min_le_right _ _
  have hn3 : n = x.length ∨ n = 21 := by rw [← hn]; show Nat.min _ _ = _ ∨ Nat.min _ _ = _; have : Nat.min x.length 21 = min x.length 21 := rfl; omega
  rw [loop_count (o := ((x.take n).flatten.length : Int)) (fun k => (((x.take k).flatten.length : Int), (k : Int))) n ?h0 ?hs ?he]
  case h0 => rfl
  case he =>
    dsimp only
    by_cases h : n < x.length
    · rw [bif_dt (by omega), bif_df (by omega)]
    · rw [bif_df (by omega)]
  case hs =>
    intro k hk
    have h1 := flat_mul hx (k + 1)
    have h2 := flat_take (l := x) (show k < x.length by omega)
    have h3 := congrArg List.length h2
    rw [List.length_append] at h3
    dsimp only
    rw [bif_dt (by omega), bif_dt (by omega), bif_in (by omega) (by omega), gbL (by omega), bif_64 (by omega) (by omega), bif_64 (by omega) (by omega)]
    exact congrArg some (congrArg Sum.inl (Prod.ext (by dsimp only; omega) (by dsimp only; omega)))
  rw [Option.bind_some]
  by_cases h20 : 20 < x.length
  · rw [bif_nt (by omega), allR, if_neg fun h => h.1 h20]
  · rw [bif_nf (by omega)]
    have hnx : n = x.length := by omega
    rw [hnx, List.take_length]
    by_cases h4 : 4000 < x.flatten.length
    · rw [bif_dt (by omega), allR, if_neg fun h => h.2.1 h4]
    · rw [bif_df (by omega)]
      refine loop_then (S := List Int × List Int × List El × Int) (O := (Unit × Unit × Unit × Bool) ⊕ (List Int × List Int × List El)) (fun r => r = some (allR x))
        (fun s => ∃ i : Nat, s = (encL (x.take i), endsL 0 (x.take i), (helsL 0 (x.take i)).map helE, (i : Int)) ∧ i ≤ x.length ∧ ∀ b ∈ x.take i, okLen b) (fun s => ((x.length : Int) - s.2.2.2).toNat)
        (fun o => (o = .inl ((), (), (), false) ∧ ¬ okAll x) ∨ (o = .inr (encL x, endsL 0 x, (helsL 0 x).map helE) ∧ okAll x)) ⟨0, rfl, by omega, fun b hb => by cases hb⟩ ?_ ?_
      · rintro _ ⟨i, rfl, hi, hall⟩
        dsimp only
        by_cases hil : i < x.length
        · obtain ⟨c, hc⟩ : ∃ c, x[i]'hil = c := ⟨_, rfl⟩
          have hcm : c ∈ x := by rw [← hc]; exact List.getElem_mem hil
          have hcl : c.length ≤ x.flatten.length := by
            have := (List.sublist_flatten_of_mem hcm).length_le
            exact this
          have htk : x.take (i + 1) = x.take i ++ [c] := by rw [List.take_add_one, List.getElem?_eq_getElem hil, hc]; rfl
          have hgb : ∀ {β : Type} {f : List Int → Option β}, (x[(i : Int).toNat]?.bind f) = f c := by
            intro β f; rw [Int.toNat_natCast, List.getElem?_eq_getElem hil, hc]; rfl
          rw [bif_dt (by omega), bif_in (by omega) (by omega), hgb, F19_eq c (by omega), Option.bind_some]
          dsimp only
          by_cases hok : okLen c
          · have hok2 := hok
            unfold okLen at hok2
            have hrl := recB_length c
            have el := encL_length (x.take i)
            have fl := flat_le (l := x) i
            have tl : (x.take i).length = i := by rw [List.length_take]; omega
            refine .inl ⟨(encL (x.take (i + 1)), endsL 0 (x.take (i + 1)), (helsL 0 (x.take (i + 1))).map helE, ((i + 1 : Nat) : Int)), ?_, ⟨i + 1, rfl, by omega, fun b hb => ?_⟩, by dsimp only; omega⟩
            · rw [errOf_ok hok, recOf_ok hok, idR_ok hok, bif_nn, bif_dt rfl, bif_in (by omega) (by omega), hgb, F22_eq, Option.bind_some, sizeP_in (by omega) (by omega), bif_nn, bif_dt (by omega), bif_df (by omega), bif_in (by omega) (by omega), hgb,
                bif_room (by simp only [List.length_map, List.length_singleton, helsL_length]; omega) (by simp only [List.length_map, List.length_singleton, helsL_length]; omega), bif_room (by omega) (by omega),
                bif_room (by simp only [List.length_singleton, endsL_length]; omega) (by simp only [List.length_singleton, endsL_length]; omega), bif_64 (by omega) (by omega)]
              refine congrArg some (congrArg Sum.inl (Prod.ext ?_ (Prod.ext ?_ (Prod.ext ?_ rfl))))
              · dsimp only; rw [htk, encL_app, encL_one]
              · dsimp only; rw [htk, endsL_snoc, encL_app, encL_one, Nat.zero_add]
              · dsimp only
                rw [htk, helsL_snoc, List.map_append, Nat.zero_add]
                refine congrArg (_ ++ ·) (congrArg (· :: []) (Prod.ext (Arr.ext' ?_) rfl))
                show shaID c = (Arr.of 16 (shaID c)).l
                rw [Arr.of_l (shaID_length c)]
            · rw [htk] at hb
              rcases List.mem_append.1 hb with hb | hb
              · exact hall b hb
              · rw [List.mem_singleton.1 hb]; exact hok
          · have hno : ¬ okAll x := fun h => hok (h.2.2 c hcm)
            refine .inr ⟨.inl ((), (), (), false), ?_, .inl ⟨rfl, hno⟩⟩
            have : errOf c ≠ 0 := by unfold errOf; rw [if_neg hok]; split <;> decide
            rw [bif_nn, bif_df this]
        · refine .inr ⟨.inr (encL x, endsL 0 x, (helsL 0 x).map helE), ?_, .inr ⟨rfl, h20, h4, ?_⟩⟩
          · rw [bif_df (by omega), List.take_of_length_le (by omega)]
          · rw [List.take_of_length_le (by omega)] at hall; exact hall
      · rintro o (⟨rfl, hno⟩ | ⟨rfl, hok⟩)
        · dsimp only [selim, Sum.elim_inl]
          rw [allR, if_neg hno]
        · dsimp only [selim, Sum.elim_inr]
          rw [allR, if_pos hok]
end Go.Sat
end
section
namespace Go.Sat
open Go

theorem endsL_app : ∀ (l m : List (List Int)) (p : Nat), endsL p (l ++ m) = endsL p l ++ endsL (p + (encL l).length) m := by
  intro l
  induction l with
  | nil => intro m p; simp [endsL, encL]
  | cons b l ih =>
    intro m p
    have e : (encL (b :: l)).length = (b.length + 26) + (encL l).length := by simp [encL, recB_length]
    rw [List.cons_append, endsL, endsL, ih, List.cons_append, e, Nat.add_assoc]
theorem helsL_app : ∀ (l m : List (List Int)) (p : Nat), helsL p (l ++ m) = helsL p l ++ helsL (p + (encL l).length) m := by
  intro l
  induction l with
  | nil => intro m p; simp [helsL, encL]
  | cons b l ih =>
    intro m p
    have e : (encL (b :: l)).length = (b.length + 26) + (encL l).length := by simp [encL, recB_length]
    rw [List.cons_append, helsL, helsL, ih, List.cons_append, e, Nat.add_assoc]
theorem cut_at {α : Type} {x : List α} {i : Nat} {b : α} (h : x[i]? = some b) : x = x.take i ++ b :: x.drop (i + 1) := by
  have hi := (List.getElem?_eq_some_iff.1 h).1
  have hb := (List.getElem?_eq_some_iff.1 h).2
  rw [← hb, ← List.drop_eq_getElem_cons hi, List.take_append_drop]
theorem take_lt {α : Type} {x : List α} {i : Nat} {b : α} (h : x[i]? = some b) : (x.take i).length = i := by
  have hi := (List.getElem?_eq_some_iff.1 h).1
  rw [List.length_take]; omega
theorem endsL_get {x : List (List Int)} {i : Nat} {b : List Int} (h : x[i]? = some b) : (endsL 0 x)[i]? = some (((encL (x.take i)).length + (b.length + 26) : Nat) : Int) := by
  rw [cut_at h, endsL_app, List.getElem?_append_right (by rw [endsL_length, take_lt h]; omega), endsL_length, take_lt h, Nat.sub_self, Nat.zero_add]
  have hc := cut_at h
  rw [← hc]; rfl
theorem helsL_get {x : List (List Int)} {i : Nat} {b : List Int} (h : x[i]? = some b) : (helsL 0 x)[i]? = some ⟨shaID b, ((encL (x.take i)).length : Nat), b.length⟩ := by
  rw [cut_at h, helsL_app, List.getElem?_append_right (by rw [helsL_length, take_lt h]; omega), helsL_length, take_lt h, Nat.sub_self, Nat.zero_add]
  have hc := cut_at h
  rw [← hc]; rfl
theorem helsL_take (x : List (List Int)) (c : Nat) : (helsL 0 x).take c = helsL 0 (x.take c) := by
  by_cases h : c ≤ x.length
  · conv => lhs; rw [← List.take_append_drop c x, helsL_app]
    rw [List.take_left' (by rw [helsL_length, List.length_take]; omega)]
  · rw [List.take_of_length_le (by rw [helsL_length]; omega), List.take_of_length_le (by omega)]
theorem encL_cut {x : List (List Int)} {i : Nat} {b : List Int} (h : x[i]? = some b) : encL x = encL (x.take i) ++ (recB b ++ encL (x.drop (i + 1))) := by
  conv => lhs; rw [cut_at h]
  simp [encL]
theorem encL_take_le (x : List (List Int)) (i : Nat) : (encL (x.take i)).length ≤ (encL x).length := by
  conv => rhs; rw [← List.take_append_drop i x]
  rw [encL_app, List.length_append]; omega
theorem encL_bytes {x : List (List Int)} (h : ∀ b ∈ x, Bytes b) (hl : ∀ b ∈ x, okLen b) : Bytes (encL x) := fun z hz => by
  obtain ⟨b, hb, hzb⟩ := List.mem_flatMap.1 hz
  exact recB_bytes (h b hb) (by have := hl b hb; unfold okLen at this; omega) z hzb
/-- a pack, cut short -/
theorem cut_scan {x : List (List Int)} (hl : ∀ b ∈ x, okLen b) {m c : Nat} (hc : c ≤ x.length) (hq : (encL (x.take c)).length ≤ m) (hm : m ≤ (encL x).length) (hn : ∀ b, x[c]? = some b → m < (encL (x.take c)).length + (b.length + 26)) :
    scanB ((encL x).take m) = (helsL 0 (x.take c), (encL (x.take c)).length, 0, if (encL (x.take c)).length = m then 0 else 1) := by
  have hlt : ∀ b ∈ x.take c, okLen b := fun b hb => hl b (List.mem_of_mem_take hb)
  cases hx : x[c]? with
  | none =>
    have hcx : x.length ≤ c := List.getElem?_eq_none_iff.1 hx
    have ex : x.take c = x := List.take_of_length_le hcx
    rw [ex] at hq ⊢
    have hme : m = (encL x).length := by omega
    rw [hme, List.take_length, if_pos rfl, scan_whole x hl]
  | some b =>
    have h1 := hn b hx
    have hb := hl b (List.mem_of_getElem? hx)
    obtain ⟨k, rfl⟩ : ∃ k, m = (encL (x.take c)).length + k := ⟨m - (encL (x.take c)).length, by omega⟩
    have hrl := recB_length b
    have hcut : (encL x).take ((encL (x.take c)).length + k) = encL (x.take c) ++ (recB b).take k := by
      rw [encL_cut hx, List.take_append, List.take_of_length_le (by omega), Nat.add_sub_cancel_left, List.take_append_of_le_length (by omega)]
    have hs := scan_recs (x.take c) hlt [] ((recB b).take k) [] 0
    simp only [List.nil_append, List.length_nil] at hs
    unfold scanB
    rw [hcut, hs, torn_end hb (by omega) rfl]
    refine Prod.ext rfl (Prod.ext rfl (Prod.ext rfl ?_))
    dsimp only
    by_cases hk : k = 0
    · rw [if_pos hk, if_pos (by omega)]
    · rw [if_neg hk, if_neg (by omega)]
theorem F6_eq (x : List (List Int)) (k : Int) (hB : ∀ b ∈ x, Bytes b) (hx : Short x) : F6 ((x, k) : List (List Int) × Int) = some true := by
  unfold F6
  dsimp only [St, Item.den, Pat.den, Ty.den]
  dsimp only [zi]
  rw [F5_eq, Option.bind_some, F35_eq x hx, Option.bind_some]
  by_cases hok : okAll x
  · rw [allR, if_pos hok]
    obtain ⟨h20, h4, hl⟩ := hok
    have hEB := encL_bytes hB hl
    have hEl := encL_length x
    obtain ⟨E, hE⟩ : ∃ E, encL x = E := ⟨_, rfl⟩
    rw [hE] at hEB hEl ⊢
    dsimp only
    rw [Bool.not_true, cond_false, F34_eq E hEB (by omega), Option.bind_some]
    have hsc := scan_whole x hl
    rw [hE] at hsc
    rw [hsc, show scanR (helsL 0 x, E.length, 0, 0) = ((helsL 0 x).map helE, (E.length : Int), 0, 0) from rfl, decide_eq_true rfl, Bool.not_true, cond_false]
    refine loop_then (S := Int) (O := Bool ⊕ Unit) (fun r => r = some true) (fun i => ∃ n : Nat, i = n ∧ n ≤ x.length) (fun i => ((x.length : Int) - i).toNat) (fun o => o = .inr ()) ⟨0, rfl, by omega⟩ ?_ ?_
    · rintro _ ⟨i, rfl, hi⟩
      by_cases hil : i < x.length
      · obtain ⟨b, hb⟩ : ∃ b, x[i]? = some b := ⟨_, List.getElem?_eq_getElem hil⟩
        have hbm := List.mem_of_getElem? hb
        have hbl := hl b hbm
        have hbB := hB b hbm
        have hbl2 := hbl
        unfold okLen at hbl2
        obtain ⟨A, hA⟩ : ∃ A, Arr.of 16 (shaID b) = A := ⟨_, rfl⟩
        have hAl : A.l = shaID b := by rw [← hA, Arr.of_l (shaID_length b)]
        have hel : ((helsL 0 x).map helE)[(i : Int).toNat]? = some ((A, (((encL (x.take i)).length : Nat) : Int), (b.length : Int)) : El) := by rw [Int.toNat_natCast, List.getElem?_map, helsL_get hb, ← hA]; rfl
        have hO : helO ((A, (((encL (x.take i)).length : Nat) : Int), (b.length : Int)) : El) = ⟨shaID b, ((encL (x.take i)).length : Nat), b.length⟩ := by unfold helO; rw [hAl]
        have hg := get_rec (pre := encL (x.take i)) (b := b) (t := encL (x.drop (i + 1))) hbl rfl
        rw [← encL_cut hb, hE] at hg
        have hml : ((helsL 0 x).map helE).length = x.length := by rw [List.length_map, helsL_length]
        have hgb : ∀ {β : Type} {f : List Int → Option β}, (x[(i : Int).toNat]?.bind f) = f b := by
          intro β f; rw [Int.toNat_natCast, hb]; rfl
        refine .inl ⟨((i + 1 : Nat) : Int), ?_, ⟨i + 1, rfl, by omega⟩, by omega⟩
        rw [bif_dt (by omega), bif_in (by omega) (by omega), gbEE (by omega) hel, F29_eq E _ hEB (by omega), Option.bind_some, hO, hg.1]
        dsimp only
        rw [bif_nn, bif_dt rfl, bif_in (by omega) (by omega), hgb, win_mid, getW_mid, hg.2, F21_eq _ _ hbB hbB, Option.bind_some, decide_eq_true rfl, bif_nn, cond_true, bif_in (by omega) (by omega), gbEE (by omega) hel, bif_in (by omega) (by omega), hgb,
          F36_eq b (by omega), Option.bind_some]
        have heq : eqT (Ty.arr IntKind.u8 16) A (idA b) = true := (eqT_iff (t := .arr .u8 16) rfl _ _).2 (Arr.ext' hAl)
        rw [heq, Bool.not_true, cond_false, bif_64 (by omega) (by omega)]
        exact congrArg some (congrArg Sum.inl (by omega))
      · exact .inr ⟨.inr (), by rw [bif_df (by omega)], rfl⟩
    · rintro o rfl
      dsimp only [selim, Sum.elim_inr]
      rw [bif_64 (by omega) (by omega), F37_eq _ _ (by omega), Option.bind_some, if_neg (by omega)]
      obtain ⟨m, hm⟩ := Int.eq_ofNat_of_zero_le (Int.emod_nonneg k (show (E.length : Int) + 1 ≠ 0 by omega))
      have hm2 := Int.emod_lt_of_pos k (show (0 : Int) < (E.length : Int) + 1 by omega)
      rw [hm] at hm2 ⊢
      have hml : ((helsL 0 x).map helE).length = x.length := by rw [List.length_map, helsL_length]
      refine loop_then (S := Int × Int) (O := Int × Int) (fun r => r = some true) (fun s => ∃ c : Nat, s = ((c : Int), (((encL (x.take c)).length : Nat) : Int)) ∧ c ≤ x.length ∧ (encL (x.take c)).length ≤ m) (fun s => ((x.length : Int) - s.1).toNat)
        (fun o => ∃ c : Nat, o = ((c : Int), (((encL (x.take c)).length : Nat) : Int)) ∧ c ≤ x.length ∧ (encL (x.take c)).length ≤ m ∧ ∀ b, x[c]? = some b → m < (encL (x.take c)).length + (b.length + 26)) ⟨0, rfl, by omega, by simp [encL]⟩ ?_ ?_
      · rintro _ ⟨c, rfl, hc, hq⟩
        dsimp only
        rw [endsL_length]
        by_cases hcl : c < x.length
        · obtain ⟨b, hb⟩ : ∃ b, x[c]? = some b := ⟨_, List.getElem?_eq_getElem hcl⟩
          have hen := endsL_get hb
          have hgb : ∀ {β : Type} {f : Int → Option β}, ((endsL 0 x)[(c : Int).toNat]?.bind f) = f (((encL (x.take c)).length + (b.length + 26) : Nat) : Int) := by
            intro β f; rw [Int.toNat_natCast, hen]; rfl
          have hnx : (encL (x.take (c + 1))).length = (encL (x.take c)).length + (b.length + 26) := by
            rw [List.take_add_one, hb]
            show (encL (x.take c ++ [b])).length = _
            rw [encL_app, encL_one, List.length_append, recB_length]
          rw [bif_dt (by omega), bif_in (by omega) (by omega), hgb]
          by_cases hle : (encL (x.take c)).length + (b.length + 26) ≤ m
          · refine .inl ⟨(((c + 1 : Nat) : Int), (((encL (x.take (c + 1))).length : Nat) : Int)), ?_, ⟨c + 1, rfl, by omega, by omega⟩, by dsimp only; omega⟩
            rw [bif_dt (by omega), bif_in (by omega) (by omega), hgb, bif_64 (by omega) (by omega)]
            exact congrArg some (congrArg Sum.inl (Prod.ext (by dsimp only; omega) (by dsimp only; omega)))
          · refine .inr ⟨_, by rw [bif_df (by omega)], ⟨c, rfl, hc, hq, fun b' hb' => ?_⟩⟩
            rw [hb] at hb'; cases hb'; omega
        · refine .inr ⟨_, by rw [bif_df (by omega)], ⟨c, rfl, hc, hq, fun b' hb' => ?_⟩⟩
          rw [List.getElem?_eq_none_iff.2 (by omega)] at hb'; cases hb'
      · rintro _ ⟨c, rfl, hc, hq, hn⟩
        dsimp only
        have hcs := cut_scan hl hc hq (by rw [hE]; omega) hn
        rw [hE] at hcs
        rw [subN_eq, Nat.sub_zero, subN_eq, Nat.sub_zero, List.drop_zero, List.drop_zero, Int.toNat_natCast, Int.toNat_natCast]
        by_cases hqm : (encL (x.take c)).length = m
        · rw [bif_dt (by omega), Option.bind_some, cond_true, bif_and2 (by omega) (by omega), bif_and2 (by omega) (by omega), F34_eq _ (hEB.take m) (by rw [List.length_take]; omega), Option.bind_some, hcs, if_pos hqm]
          refine congrArg some (decide_eq_true ?_)
          rw [← helsL_take, ← List.map_take]; rfl
        · rw [bif_df (by omega), Option.bind_some, cond_true, bif_and2 (by omega) (by omega), bif_and2 (by omega) (by omega), F34_eq _ (hEB.take m) (by rw [List.length_take]; omega), Option.bind_some, hcs, if_neg hqm]
          refine congrArg some (decide_eq_true ?_)
          rw [← helsL_take, ← List.map_take]; rfl
  · rw [allR, if_neg hok]; rfl
end Go.Sat
end
section
namespace Go.Sat
open Go
set_option maxRecDepth 100000

theorem bit_all : ((List.range 256).all fun c => (List.range 8).all fun s => !decide (bXor .u8 (c : Int) (sShl .u8 1 (s : Int)) = (c : Int)) && (decide (0 ≤ bXor .u8 (c : Int) (sShl .u8 1 (s : Int))) && decide (bXor .u8 (c : Int) (sShl .u8 1 (s : Int)) < 256))) = true := by kernel_rfl
theorem xor_bit {c s : Int} (h : 0 ≤ c ∧ c < 256) (hs : 0 ≤ s ∧ s < 8) : bXor .u8 c (sShl .u8 1 s) ≠ c ∧ 0 ≤ bXor .u8 c (sShl .u8 1 s) ∧ bXor .u8 c (sShl .u8 1 s) < 256 := by
  obtain ⟨n, rfl⟩ := Int.eq_ofNat_of_zero_le h.1
  obtain ⟨m, rfl⟩ := Int.eq_ofNat_of_zero_le hs.1
  have := List.all_eq_true.1 (List.all_eq_true.1 bit_all n (List.mem_range.2 (by omega))) m (List.mem_range.2 (by omega))
  simp only [Bool.and_eq_true, Bool.not_eq_true', decide_eq_false_iff_not, decide_eq_true_eq] at this
  exact this
theorem headL_cut (n : Nat) : headL n = [((n / 256 : Nat) : Int), ((n % 256 : Nat) : Int), 255 - ((n / 256 : Nat) : Int), 255 - ((n % 256 : Nat) : Int), rd (headL n) 4, rd (headL n) 5] := rfl
/-- two heads that agree but for one byte agree there, too -/
theorem headL_one {n m j : Nat} {v : Int} (h : (headL n).set j v = headL m) (hj : j < 6) : v = rd (headL n) (j : Int) := by
  have hg : ∀ k : Nat, k < 6 → k ≠ j → rd (headL n) (k : Int) = rd (headL m) (k : Int) := by
    intro k hk hkj
    rw [← h]
    unfold rd
    rw [Int.toNat_natCast, List.getD_eq_getElem?_getD, List.getD_eq_getElem?_getD, List.getElem?_set_ne (Ne.symm hkj)]
  have e0 : ∀ n : Nat, rd (headL n) ((0 : Nat) : Int) = ((n / 256 : Nat) : Int) := fun _ => rfl
  have e1 : ∀ n : Nat, rd (headL n) ((1 : Nat) : Int) = ((n % 256 : Nat) : Int) := fun _ => rfl
  have e2 : ∀ n : Nat, rd (headL n) ((2 : Nat) : Int) = 255 - ((n / 256 : Nat) : Int) := fun _ => rfl
  have e3 : ∀ n : Nat, rd (headL n) ((3 : Nat) : Int) = 255 - ((n % 256 : Nat) : Int) := fun _ => rfl
  have hi : n / 256 = m / 256 := by
    by_cases hj0 : 0 = j
    · have := hg 2 (by decide) (by omega)
      rw [e2, e2] at this; omega
    · have := hg 0 (by decide) hj0
      rw [e0, e0] at this; omega
  have lo : n % 256 = m % 256 := by
    by_cases hj1 : 1 = j
    · have := hg 3 (by decide) (by omega)
      rw [e3, e3] at this; omega
    · have := hg 1 (by decide) hj1
      rw [e1, e1] at this; omega
  have hnm : n = m := by omega
  subst hnm
  have h2 : ((headL n).set j v)[j]? = some v := List.getElem?_set_self (by rw [headL_length]; exact hj)
  rw [h] at h2
  unfold rd
  rw [Int.toNat_natCast, List.getD_eq_getElem?_getD, h2]; rfl
/-- a record whose head was hurt in one byte -/
theorem hurt_head {pre b t : List Int} {j : Nat} {v : Int} (hj : j < 6) (hv : v ≠ rd (headL b.length) (j : Int)) : ¬ isHead (pre ++ ((recB b).set j v ++ t)) pre.length := by
  intro h
  have h5 := h.2.2.2.2
  rw [Int.toNat_natCast, List.drop_left' rfl] at h5
  have hc : (recB b).set j v = (headL b.length).set j v ++ gPut (shaID b ++ b) := by
    unfold recB
    rw [List.set_append_left _ _ (by rw [headL_length]; exact hj)]
  rw [hc, List.append_assoc, List.take_left' (by rw [List.length_set, headL_length])] at h5
  exact hv (headL_one h5 hj)
theorem F8_eq (x : List (List Int)) (a k : Int) (hB : ∀ b ∈ x, Bytes b) (hx : Short x) : F8 ((x, a, k) : List (List Int) × Int × Int) = some true := by
  unfold F8
  dsimp only [St, Item.den, Pat.den, Ty.den]
  dsimp only [zi]
  rw [F17_eq, Option.bind_some, F35_eq x hx, Option.bind_some]
  by_cases hok : okAll x
  · rw [allR, if_pos hok]
    obtain ⟨h20, h4, hl⟩ := hok
    have hEB := encL_bytes hB hl
    have hEl := encL_length x
    obtain ⟨E, hE⟩ : ∃ E, encL x = E := ⟨_, rfl⟩
    rw [hE] at hEB hEl ⊢
    dsimp only
    rw [bif_nn, cond_true]
    by_cases h0 : x.length = 0
    · rw [bif_dt (by omega)]
    · rw [bif_df (by omega), F37_eq _ _ (by omega), Option.bind_some, if_neg (by omega), F37_eq _ _ (by omega), Option.bind_some, if_neg (by omega)]
      obtain ⟨i, hi⟩ := Int.eq_ofNat_of_zero_le (Int.emod_nonneg a (show (x.length : Int) ≠ 0 by omega))
      have hi2 := Int.emod_lt_of_pos a (show (0 : Int) < (x.length : Int) by omega)
      obtain ⟨q, hq⟩ := Int.eq_ofNat_of_zero_le (Int.emod_nonneg k (show (48 : Int) ≠ 0 by omega))
      have hq2 := Int.emod_lt_of_pos k (show (0 : Int) < 48 by omega)
      rw [hi] at hi2 ⊢
      rw [hq] at hq2 ⊢
      have hml : ((helsL 0 x).map helE).length = x.length := by rw [List.length_map, helsL_length]
      obtain ⟨b, hb⟩ : ∃ b, x[i]? = some b := ⟨_, List.getElem?_eq_getElem (by omega)⟩
      have hbm := List.mem_of_getElem? hb
      have hbl := hl b hbm
      have hbl2 := hbl
      unfold okLen at hbl2
      obtain ⟨A, hA⟩ : ∃ A, Arr.of 16 (shaID b) = A := ⟨_, rfl⟩
      have hAl : A.l = shaID b := by rw [← hA, Arr.of_l (shaID_length b)]
      obtain ⟨p, hp⟩ : ∃ p, (encL (x.take i)).length = p := ⟨_, rfl⟩
      have hel : ((helsL 0 x).map helE)[(i : Int).toNat]? = some ((A, ((p : Nat) : Int), (b.length : Int)) : El) := by rw [Int.toNat_natCast, List.getElem?_map, helsL_get hb, hp, ← hA]; rfl
      have hEc := encL_cut hb
      rw [hE] at hEc
      have hEc2 := congrArg List.length hEc
      rw [List.length_append, List.length_append, recB_length, hp] at hEc2
      obtain ⟨d, hd⟩ : ∃ d, ((q : Nat) : Int).tdiv 8 = ((d : Nat) : Int) := ⟨q / 8, rfl⟩
      have hd2 : d = q / 8 := by
        have : ((q : Nat) : Int).tdiv 8 = ((q / 8 : Nat) : Int) := rfl
        omega
      obtain ⟨s, hs⟩ : ∃ s, ((q : Nat) : Int).tmod 8 = ((s : Nat) : Int) := ⟨q % 8, rfl⟩
      have hs2 : s = q % 8 := by
        have : ((q : Nat) : Int).tmod 8 = ((q % 8 : Nat) : Int) := rfl
        omega
      rw [bif_in (by omega) (by omega), gbEE (by omega) hel, hd, hs]
      dsimp only
      have hpd : ((p : Nat) : Int) + ((d : Nat) : Int) = ((p + d : Nat) : Int) := by omega
      rw [hpd, bif_64 (by omega) (by omega), bif_64 (by omega) (by omega), bif_64 (by omega) (by omega), bif_64 (by omega) (by omega), bif_in (by omega) (by omega), gb (by omega) (by omega), bif_dt (by omega), bif_in (by omega) (by omega), gb (by omega) (by omega), bif_in (by omega) (by omega), gbEE (by omega) hel, Int.toNat_natCast]
      dsimp only
      obtain ⟨x1, x2⟩ := xor_bit (s := (s : Int)) (hEB.rd (i := p + d) (by omega)) (by omega)
      obtain ⟨v, hv⟩ : ∃ v, bXor IntKind.u8 (rd E ((p + d : Nat) : Int)) (sShl IntKind.u8 1 ((s : Nat) : Int)) = v := ⟨_, rfl⟩
      rw [hv] at x1 x2 ⊢
      have hrd : rd E ((p + d : Nat) : Int) = rd (headL b.length) ((d : Nat) : Int) := by
        unfold rd
        rw [Int.toNat_natCast, Int.toNat_natCast, List.getD_eq_getElem?_getD, List.getD_eq_getElem?_getD, hEc, List.getElem?_append_right (by omega), hp, Nat.add_sub_cancel_left, List.getElem?_append_left (by rw [recB_length]; omega)]
        unfold recB
        rw [List.getElem?_append_left (by rw [headL_length]; omega)]
      rw [hrd] at x1
      obtain ⟨E', hE'⟩ : ∃ E', List.set E (p + d) v = E' := ⟨_, rfl⟩
      have hE'l : E'.length = E.length := by rw [← hE', List.length_set]
      have hE'B : Bytes E' := by rw [← hE']; exact set_bytes hEB x2
      have hE'c : E' = encL (x.take i) ++ ((recB b).set d v ++ encL (x.drop (i + 1))) := by
        rw [← hE', hEc, List.set_append_right _ _ (by omega), hp, Nat.add_sub_cancel_left, List.set_append_left _ _ (by rw [recB_length]; omega)]
      have hno : ¬ isHead E' ((p : Nat) : Int) := by
        rw [hE'c, ← hp]; exact hurt_head (by omega) x1
      rw [hE']
      have hO : helO ((A, ((p : Nat) : Int), (b.length : Int)) : El) = ⟨shaID b, (p : Nat), b.length⟩ := by unfold helO; rw [hAl]
      rw [F29_eq E' _ hE'B (by omega), Option.bind_some, hO, getErr_miss (fun h => hno h.1)]
      have hsc := scan_recs (x.take i) (fun c hc => hl c (List.mem_of_mem_take hc)) [] ((recB b).set d v ++ encL (x.drop (i + 1))) [] 0
      rw [List.nil_append, List.nil_append, ← hE'c, List.length_nil, hp, scanF_end (.inr (.inr (.inl hno))), rest_bad (by omega) (by omega) hno, List.nil_append] at hsc
      dsimp only
      rw [cond_true, bif_dt rfl, bif_and2 (by omega) (by omega), F34_eq E' hE'B (by omega), Option.bind_some]
      rw [show scanB E' = (helsL 0 (x.take i), p, 0, 2) from hsc, subN_eq, Nat.sub_zero, Int.toNat_natCast, List.drop_zero]
      refine congrArg some (decide_eq_true ?_)
      rw [← helsL_take, ← List.map_take]; rfl
  · rw [allR, if_neg hok]; rfl
end Go.Sat
end
section
namespace Go.Sat
open Go Go.Proofs
theorem bytes2 {x : List (List Int)} (h : Fits (.sl (.sl (.int .u8))) x) : ∀ b ∈ x, Bytes b := fun b hb => by
  obtain ⟨j, hj⟩ := List.getElem?_of_mem hb
  exact Fits.bytes (h j b hj)
theorem short2 {x : List (List Int)} (h : Bnd reachBytes (.sl (.sl (.int .u8))) x) : Short x := fun b hb => by
  obtain ⟨j, hj⟩ := List.getElem?_of_mem hb
  have h1 : b.length ≤ reachBytes := (h.2 j b hj).1
  have h2 : reachBytes ≤ 140737488355327 := by decide
  omega
theorem T6 (x : List (List Int)) (k : Int) (f : Fits (.sl (.sl (.int .u8))) x) (_ : Fits (.int .i64) k) (b : Bnd reachBytes (.sl (.sl (.int .u8))) x) (_ : Bnd reachBytes (.int .i64) k) : F6 ((x, k) : List (List Int) × Int) = some true := F6_eq x k (bytes2 f) (short2 b)
theorem T8 (x : List (List Int)) (a k : Int) (f : Fits (.sl (.sl (.int .u8))) x) (_ : Fits (.int .i64) a) (_ : Fits (.int .i64) k) (b : Bnd reachBytes (.sl (.sl (.int .u8))) x) (_ : Bnd reachBytes (.int .i64) a) (_ : Bnd reachBytes (.int .i64) k) : F8 ((x, a, k) : List (List Int) × Int × Int) = some true := F8_eq x a k (bytes2 f) (short2 b)
end Go.Sat
end
