/- The Lean functions printed of both sides say the same word of the way back, for all texts. No condition beyond the printed bounds. -/
import Derived.Test.YteclefeppgoobaaPFnExactBackWayx1
import Derived.Test.YteclefeppgoobaaKit
namespace Go.Proofs.Yteclefeppgoobaa.Pure
open Go.RowKit Go.Proofs.YteclefeppgoobaaW.PrintWords Go.Proofs.YteclefeppgoobaaW.PrintLast Go.Proofs.YteclefeppgoobaaW.PrintMore Go.Proofs.YteclefeppgoobaaKit
open Go.Proofs.Yteclefeppgoobaa.PFnExactBackWay
namespace BackWay
def opp (b : UInt8) : Option UInt8 := if b = 101 then some 119 else if b = 119 then some 101 else if b = 110 then some 115 else if b = 115 then some 110 else none
def back : List UInt8 → Option (List UInt8)
  | [] => some []
  | b :: l => (opp b).bind fun c => (back l).bind fun r => some (r ++ [c])
theorem back_snoc : ∀ (l : List UInt8) (b : UInt8), back (l ++ [b]) = (opp b).bind fun c => (back l).bind fun r => some (c :: r)
  | [], b => by simp [back]
  | a :: l, b => by
    simp only [List.cons_append, back, back_snoc l b]
    cases opp a <;> cases opp b <;> cases back l <;> simp
theorem back_length : ∀ (l r : List UInt8), back l = some r → r.length = l.length
  | [], r, h => by cases h; rfl
  | a :: l, r, h => by
    simp only [back] at h
    cases h1 : opp a with
    | none => rw [h1] at h; cases h
    | some c =>
      cases h2 : back l with
      | none => rw [h1, h2] at h; cases h
      | some q =>
        rw [h1, h2] at h
        cases h
        simp [back_length l q h2]
def str (l : List UInt8) : ByteArray := ⟨l.toArray⟩
theorem str_push (l : List UInt8) (b : UInt8) : str l ++ (⟨#[b]⟩ : ByteArray) = str (l ++ [b]) := by
  apply ba_ext
  simp [str]
theorem str_size (l : List UInt8) : (str l).size = l.length := rfl
theorem eq101 (b : UInt8) : ((b.toNat : Int) = 101) ↔ b = 101 := byte_eq b 101 (by decide)
theorem eq119 (b : UInt8) : ((b.toNat : Int) = 119) ↔ b = 119 := byte_eq b 119 (by decide)
theorem eq110 (b : UInt8) : ((b.toNat : Int) = 110) ↔ b = 110 := byte_eq b 110 (by decide)
theorem eq115 (b : UInt8) : ((b.toNat : Int) = 115) ↔ b = 115 := byte_eq b 115 (by decide)
def res (l : List UInt8) : ByteArray × Bool := match back l with
  | some r => (str r, true)
  | none => (⟨#[]⟩, false)
theorem spec_l0 (s : ByteArray) (hs : s.size ≤ 1048576) : ∀ (i : Nat) (acc : List UInt8), i ≤ s.data.toList.length → i + acc.length ≤ 1048576 → Ev (fun k => spec_BackWay.l0 k s (str acc) ((i : Int) - 1)) (match back (s.data.toList.take i) with | some r => (str (acc ++ r), true) | none => (⟨#[]⟩, false)) := by
  intro i
  induction i with
  | zero =>
    intro acc _ _
    refine Ev.stop fun k => ?_
    simp only [spec_BackWay.l0]
    rw [if_neg (by omega)]
    simp [back]
  | succ i ih =>
    intro acc hi ha
    have hlt : i < s.data.toList.length := by omega
    have hi' : i < s.size := by rw [← len_data]; exact hlt
    have e : ((i + 1 : Nat) : Int) - 1 = (i : Int) := by omega
    have key : ∀ k, spec_BackWay.l0 (k + 1) s (str acc) (i : Int) = match opp s.data.toList[i] with | some c => spec_BackWay.l0 k s (str (acc ++ [c])) ((i : Int) - 1) | none => some (⟨#[]⟩, false) := by
      intro k
      simp only [spec_BackWay.l0]
      rw [if_pos (by omega), if_pos (by omega), if_pos (by omega), bt_get s i hlt, w64 (x := (i : Int) - 1) (by omega) (by omega)]
      simp only [eq101, eq119, eq110, eq115, str_push, str_size, opp]
      have hb : acc.length + 1 ≤ 9223372036854775807 := by omega
      by_cases h1 : s.data.toList[i] = 101
      · rw [if_pos h1, if_pos h1, if_pos hb]
      rw [if_neg h1, if_neg h1]
      by_cases h2 : s.data.toList[i] = 119
      · rw [if_pos h2, if_pos h2, if_pos hb]
      rw [if_neg h2, if_neg h2]
      by_cases h3 : s.data.toList[i] = 110
      · rw [if_pos h3, if_pos h3, if_pos hb]
      rw [if_neg h3, if_neg h3]
      by_cases h4 : s.data.toList[i] = 115
      · rw [if_pos h4, if_pos h4, if_pos hb]
      rw [if_neg h4, if_neg h4]
    rw [e, List.take_succ_eq_append_getElem hlt, back_snoc]
    cases hc : opp s.data.toList[i] with
    | none => exact Ev.stop fun k => by rw [key, hc]; rfl
    | some c =>
      have := ih (acc ++ [c]) (by omega) (by simp; omega)
      refine Ev.to _ (fun k => by rw [key, hc]) ?_
      cases hr : back (s.data.toList.take i) with
      | none => simpa [hr] using this
      | some r => simpa [hr] using this
theorem spec_ev (s : ByteArray) (hs : s.size ≤ 200) : Ev (fun k => spec_BackWay.f k s) (res s.data.toList) := by
  unfold spec_BackWay.f
  refine Ev.itef (by omega) ?_
  have := spec_l0 s (by omega) s.data.toList.length [] (Nat.le_refl _) (by rw [len_data]; simp; omega)
  rw [List.take_length, len_data] at this
  rw [w64 (by omega) (by omega)]
  unfold res
  cases hb : back s.data.toList with
  | none => rw [hb] at this; exact this
  | some r =>
    rw [hb, show str [] = (⟨#[]⟩ : ByteArray) from rfl] at this
    simpa using this
theorem idx (b : UInt8) : match opp b with | some c => ∃ t : Nat, t ≤ 3 ∧ Lib.indexByte [101, 110, 115, 119] b = (t : Int) ∧ bt (⟨#[101, 110, 115, 119]⟩ : ByteArray) (3 - (t : Int)) = ((c.toNat : Int)) | none => Lib.indexByte [101, 110, 115, 119] b < 0 := by
  by_cases e1 : b = 101
  · subst e1; exact ⟨0, by omega, by decide, by decide⟩
  by_cases e2 : b = 119
  · subst e2; exact ⟨3, by omega, by decide, by decide⟩
  by_cases e3 : b = 110
  · subst e3; exact ⟨1, by omega, by decide, by decide⟩
  by_cases e4 : b = 115
  · subst e4; exact ⟨2, by omega, by decide, by decide⟩
  · have : opp b = none := by simp [opp, e1, e2, e3, e4]
    rw [this]
    simp [Lib.indexByte, Ne.symm e1, Ne.symm e2, Ne.symm e3, Ne.symm e4]
def toI (l : List UInt8) : List Int := l.map fun b => (b.toNat : Int)
theorem strOf_toI (l : List UInt8) : strOfNums (toI l) = str l := by
  apply ba_ext
  simp only [strOfNums, toI, str, List.map_map]
  have e : ∀ l : List UInt8, List.map ((fun n : Int => UInt8.ofNat n.toNat) ∘ fun b : UInt8 => (b.toNat : Int)) l = l := by
    intro l
    induction l with
    | nil => rfl
    | cons b l ih => rw [List.map_cons, ih]; simp
  exact e l
theorem impl_l0 (s : ByteArray) (hs : s.size ≤ 200) : ∀ (d i : Nat) (acc : List UInt8), i + d = s.data.toList.length → back (s.data.toList.take i) = some acc → Ev (fun k => impl_BackWay.l0 k s (List.replicate d 0 ++ toI acc) (s.size : Int) (i : Int)) (res s.data.toList) := by
  intro d
  induction d with
  | zero =>
    intro i acc hi hb
    rw [List.take_of_length_le (by omega)] at hb
    have hi' : i = s.size := by rw [← len_data]; omega
    refine Ev.stop fun k => ?_
    simp only [impl_BackWay.l0]
    rw [if_neg (by omega)]
    simp [res, hb, strOf_toI]
  | succ d ih =>
    intro i acc hi hb
    have hlt : i < s.data.toList.length := by omega
    have hi' : i < s.size := by rw [← len_data]; exact hlt
    have hd : i + (d + 1) = s.size := by rw [← len_data]; exact hi
    have hal := back_length _ _ hb
    rw [List.length_take, Nat.min_eq_left (by omega)] at hal
    have hx := idx s.data.toList[i]
    cases hc : opp s.data.toList[i] with
    | none =>
      rw [hc] at hx
      have hn : back s.data.toList = none := by
        have gen : ∀ (l : List UInt8) (j : Nat) (h : j < l.length), opp l[j] = none → back l = none := by
          intro l
          induction l with
          | nil => intro j h; simp at h
          | cons a l ih =>
            intro j h h'
            simp only [back]
            cases j with
            | zero => rw [show opp a = none from h']; rfl
            | succ j => rw [ih j (by simpa using h) h']; cases opp a <;> rfl
        exact gen _ i hlt hc
      refine Ev.stop fun k => ?_
      simp only [impl_BackWay.l0, strings_IndexByte.f, Option.bind_some]
      rw [if_pos (by omega), if_pos (by omega), if_pos (by omega), bt_get s i hlt, byte_back, if_pos hx]
      simp [res, hn]
    | some c =>
      rw [hc] at hx
      obtain ⟨t, ht, h1, h2⟩ := hx
      have hb' : back (s.data.toList.take (i + 1)) = some (c :: acc) := by
        rw [List.take_succ_eq_append_getElem hlt, back_snoc, hc, hb]; rfl
      refine Ev.to _ (fun k => ?_) (ih (i + 1) (c :: acc) (by omega) hb')
      simp only [impl_BackWay.l0, strings_IndexByte.f, Option.bind_some]
      have hlen : ((List.replicate (d + 1) (0 : Int) ++ toI acc).length : Int) = (s.size : Int) := by simp [toI, hal]; omega
      rw [if_pos (by omega), if_pos (by omega), if_pos (by omega), bt_get s i hlt, byte_back, h1, if_neg (by omega), w64 (x := 3 - (t : Int)) (by omega) (by omega), h2, if_pos (by omega), if_pos (by omega), w64 (x := (s.size : Int) - 1) (by omega) (by omega), w64 (x := (s.size : Int) - 1 - (i : Int)) (by omega) (by omega), hlen, if_pos (by omega), if_pos (by omega), w64 (x := (i : Int) + 1) (by omega) (by omega)]
      have e : (List.replicate (d + 1) (0 : Int) ++ toI acc).set ((s.size : Int) - 1 - (i : Int)).toNat (c.toNat : Int) = List.replicate d 0 ++ toI (c :: acc) := by
        have e1 : ((s.size : Int) - 1 - (i : Int)).toNat = d := by omega
        rw [e1, List.replicate_succ', List.append_assoc, List.set_append_right _ _ (by simp)]
        simp [toI]
      rw [e]
      rfl
theorem impl_ev (s : ByteArray) (hs : s.size ≤ 200) : Ev (fun k => impl_BackWay.f k s) (res s.data.toList) := by
  unfold impl_BackWay.f
  refine Ev.itef (by omega) (Ev.itet (by omega) (Ev.itet (by omega) ?_))
  have := impl_l0 s hs s.data.toList.length 0 [] (by omega) rfl
  rw [len_data] at this
  simpa [toI] using this
theorem main : laws_FnExactBackWay.Pure := by
  intro s _
  refine Ev.rounds ?_
  unfold laws_FnExactBackWay.f
  by_cases h : (s.size : Int) > 1048576
  · exact Ev.itet h (Ev.now _)
  by_cases h2 : s.size ≤ 200
  · exact Ev.itef h (Ev.bind (spec_ev s h2) (Ev.bind (impl_ev s h2) (Ev.itet rfl (Ev.itef (by simp) (Ev.now _)))))
  · refine Ev.itef h (Ev.bind (a := ((⟨#[]⟩ : ByteArray), false)) ?_ (Ev.bind (a := ((⟨#[]⟩ : ByteArray), false)) ?_ (Ev.itet rfl (Ev.itef (by simp) (Ev.now _)))))
    · unfold spec_BackWay.f; exact Ev.itet (by omega) (Ev.now _)
    · unfold impl_BackWay.f; exact Ev.itet (by omega) (Ev.now _)
end BackWay
theorem FnExactBackWay : laws_FnExactBackWay.Pure := BackWay.main
end Go.Proofs.Yteclefeppgoobaa.Pure
