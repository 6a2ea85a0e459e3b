/- Cut by wip/cut.py out of the texts of this claim (printed by the kit's printer, or this session's own): what the row's theorem does not reach is struck. Not trusted: Lean checks it. -/
import Derived.Test.YtpopeedfgenebaaGreatZFnPostDeliversPx69
import Derived.Test.YtpopeedfgenebaaGreatZFnPostDeliversKit
import Derived.Lib.VarintBits
import Derived.DataShut
namespace Go.Proofs.YtpopeedfgenebaaGreat.Pure
open Go.RowKit Go.Proofs.YtpopeedfgenebaaGreatW.PrintWords Go.Proofs.YtpopeedfgenebaaGreatW.PrintLast Go.Proofs.YtpopeedfgenebaaGreatW.PrintMore Go.Proofs.YtpopeedfgenebaaGreatKit
open Go.Proofs.YtpopeedfgenebaaGreat.PFnPostDelivers
namespace PostDelivers
theorem ge_le (a b c : Int) : (if a ≥ b then some (decide (a ≤ c)) else some false) = some (decide (b ≤ a ∧ a ≤ c)) := by
 by_cases h : a ≥ b
 ·rw [if_pos h]; simp [show b ≤ a from h]
 ·rw [if_neg h]; simp; omega
theorem l1In_f (a b c : Int) : spec_l1In.f a b c = some (decide (b ≤ a ∧ a ≤ c)) := by unfold spec_l1In.f; exact ge_le a b c
theorem within_f (a b c : Int) : impl_within.f a b c = some (decide (b ≤ a ∧ a ≤ c)) := by unfold impl_within.f; exact ge_le a b c
theorem allWithin_ev (l : List Int) (hl : l.length ≤ 1048576) (a b : Int) : Ev (fun k => impl_allWithin.f k l a b) (l.all fun x => decide (a ≤ x ∧ x ≤ b)) := by
 rw [← runL_all _ l 0]
 refine ev_loop0 l (fun k i (_ : Unit) => impl_allWithin.l0 k a b l (l.length : Int) i) _ _ (fun _ _ => True) () trivial (fun i s hi _ => ?_) (fun s _ => ?_)
 ·have hw : wrap64 ((i : Int) + 1) = (i : Int) + 1 := w64 (by omega) (by omega)
  constructor
  ·intro s' e
   refine ⟨trivial, fun r hr => Ev.to _ (fun k => ?_) hr⟩
   by_cases hp : a ≤ l[i] ∧ l[i] ≤ b
   ·simp only [impl_allWithin.l0]
    rw [if_pos (by omega), if_pos (by omega), if_pos (by omega), within_f, rd_get l i hi, decide_eq_true hp, hw]; rfl
   ·simp [hp] at e
  ·intro r e
   by_cases hp : a ≤ l[i] ∧ l[i] ≤ b
   ·simp [hp] at e
   ·rw [if_neg (by simpa using hp)] at e
    cases e
    refine Ev.stop fun k => ?_
    simp only [impl_allWithin.l0]
    rw [if_pos (by omega), if_pos (by omega), if_pos (by omega), within_f, rd_get l i hi, decide_eq_false hp]; rfl
 ·exact Ev.stop fun k => by simp only [impl_allWithin.l0]; rw [if_neg (by omega)]
def sgn (b : UInt8) : Bool := b == 108 || (b == 114 || (b == 98 || b == 45))
def deliv (s : ByteArray) : Bool := decide (1 ≤ (s.size : Int) ∧ (s.size : Int) ≤ 60) && s.data.toList.all sgn
theorem deliv_len {s : ByteArray} (h : deliv s = true) : 1 ≤ s.size ∧ s.size ≤ 60 := by
 simp only [deliv, Bool.and_eq_true, decide_eq_true_eq] at h; omega
theorem deliv_mem {s : ByteArray} (h : deliv s = true) : ∀ b ∈ s.data.toList, sgn b = true := by
 simp only [deliv, Bool.and_eq_true, List.all_eq_true] at h
 exact h.2
theorem eq108 (b : UInt8) : ((b.toNat : Int) = 108) ↔ b = 108 := byte_eq b 108 (by decide)
theorem eq114 (b : UInt8) : ((b.toNat : Int) = 114) ↔ b = 114 := byte_eq b 114 (by decide)
theorem eq98 (b : UInt8) : ((b.toNat : Int) = 98) ↔ b = 98 := byte_eq b 98 (by decide)
theorem eq45 (b : UInt8) : ((b.toNat : Int) = 45) ↔ b = 45 := byte_eq b 45 (by decide)
theorem poGood_l0 (s : ByteArray) (hs : s.size ≤ 1048576) : Ev (fun k => spec_poGood.l0 k s 0) (s.data.toList.all sgn) := by
 rw [← runL_all _ s.data.toList 0]
 refine ev_loop0 s.data.toList (fun k i (_ : Unit) => spec_poGood.l0 k s i) _ _ (fun _ _ => True) () trivial (fun i u hi _ => ?_) (fun u _ => ?_)
 ·have hi' : i < s.size := by rw [← len_data]; exact hi
  have hw : wrap64 ((i : Int) + 1) = (i : Int) + 1 := w64 (by omega) (by omega)
  have key : ∀ k, spec_poGood.l0 (k + 1) s (i : Int) = if sgn s.data.toList[i] = true then spec_poGood.l0 k s ((i : Int) + 1) else some false := by
   intro k
   simp only [spec_poGood.l0]
   rw [if_pos (by omega), if_pos (by omega), bt_get s i hi, hw]
   simp only [eq108, eq114, eq98, eq45, sgn, Bool.or_eq_true, beq_iff_eq]
   by_cases h1 : s.data.toList[i] = 108
   ·rw [if_pos h1, if_pos (Or.inl h1)]
   rw [if_neg h1]
   by_cases h2 : s.data.toList[i] = 114
   ·rw [if_pos h2, if_pos (Or.inr (Or.inl h2))]
   rw [if_neg h2]
   by_cases h3 : s.data.toList[i] = 98
   ·rw [if_pos h3, if_pos (Or.inr (Or.inr (Or.inl h3)))]
   rw [if_neg h3]
   by_cases h4 : s.data.toList[i] = 45
   ·rw [if_pos h4, if_pos (Or.inr (Or.inr (Or.inr h4)))]
   ·rw [if_neg h4, if_neg (by rintro (h | h | h | h) <;> contradiction)]
  constructor
  ·intro s' e
   cases hp : sgn s.data.toList[i]
   ·rw [hp] at e; simp at e
   ·exact ⟨trivial, fun r hr => Ev.to _ (fun k => by rw [key, hp, if_pos rfl]) hr⟩
  ·intro r e
   cases hp : sgn s.data.toList[i]
   ·rw [hp] at e
    cases e
    exact Ev.stop fun k => by rw [key, hp]; rfl
   ·rw [hp] at e; simp at e
 ·exact Ev.stop fun k => by simp only [spec_poGood.l0]; rw [if_neg (by rw [len_data]; omega)]
theorem poGood_ev (s : ByteArray) (hs : s.size ≤ 1048576) : Ev (fun k => spec_poGood.f k s) (deliv s) := by
 unfold spec_poGood.f deliv
 simp only [l1In_f, Option.bind_some]
 cases decide (1 ≤ (s.size : Int) ∧ (s.size : Int) ≤ 60)
 ·exact Ev.itef (by simp) (Ev.now _)
 ·exact Ev.itet rfl (poGood_l0 s hs)
theorem index_sgn (b : UInt8) : (Lib.indexByte [108, 114, 98, 45] b < 0) ↔ ¬ sgn b = true := by
 have h1 : Lib.indexByte [45] b = if 45 = b then 0 else -1 := by simp [Lib.indexByte]
 simp only [Lib.indexByte, sgn, Bool.or_eq_true, beq_iff_eq]
 by_cases e1 : (108 : UInt8) = b
 ·subst e1; simp
 by_cases e2 : (114 : UInt8) = b
 ·subst e2; simp
 by_cases e3 : (98 : UInt8) = b
 ·subst e3; simp
 by_cases e4 : (45 : UInt8) = b
 ·subst e4; simp
 ·simp [e1, e2, e3, e4, Ne.symm e1, Ne.symm e2, Ne.symm e3, Ne.symm e4]
theorem AreDeliveries_ev (s : ByteArray) (hs : s.size ≤ 1048576) : Ev (fun k => impl_AreDeliveries.f k s) (deliv s) := by
 unfold impl_AreDeliveries.f
 have e : deliv s = runL (fun _ x (_ : Unit) => if sgn x then (Sum.inl () : Unit ⊕ Bool) else .inr false) (fun _ => decide (1 ≤ (s.size : Int) ∧ (s.size : Int) ≤ 60)) 0 s.data.toList () := by
  have gen : ∀ (l : List UInt8) (i : Nat) (c : Bool), runL (fun _ x (_ : Unit) => if sgn x then (Sum.inl () : Unit ⊕ Bool) else .inr false) (fun _ => c) i l () = (c && l.all sgn) := by
   intro l
   induction l with
   | nil => intro i c; simp [runL]
   | cons x xs ih =>
    intro i c
    simp only [runL, List.all_cons]
    cases sgn x
    ·simp
    ·simp only [if_true, Bool.true_and]; exact ih _ _
  rw [gen]
  rfl
 rw [e]
 refine ev_loop0 s.data.toList (fun k i (_ : Unit) => impl_AreDeliveries.l0 k s (s.size : Int) i) _ _ (fun _ _ => True) () trivial (fun i u hi _ => ?_) (fun u _ => ?_)
 ·have hi' : i < s.size := by rw [← len_data]; exact hi
  have hw : wrap64 ((i : Int) + 1) = (i : Int) + 1 := w64 (by omega) (by omega)
  have key : ∀ k, impl_AreDeliveries.l0 (k + 1) s (s.size : Int) (i : Int) = if sgn s.data.toList[i] = true then impl_AreDeliveries.l0 k s (s.size : Int) ((i : Int) + 1) else some false := by
   intro k
   simp only [impl_AreDeliveries.l0, strings_IndexByte.f, Option.bind_some]
   rw [if_pos (by omega), if_pos (by omega), if_pos (by omega), bt_get s i hi, byte_back, hw]
   by_cases hp : sgn s.data.toList[i] = true
   ·rw [if_pos hp, if_neg (fun h => (index_sgn _).1 h hp)]
   ·rw [if_neg hp, if_pos ((index_sgn _).2 hp)]
  constructor
  ·intro s' e
   cases hp : sgn s.data.toList[i]
   ·rw [hp] at e; simp at e
   ·exact ⟨trivial, fun r hr => Ev.to _ (fun k => by rw [key, hp, if_pos rfl]) hr⟩
  ·intro r e
   cases hp : sgn s.data.toList[i]
   ·rw [hp] at e
    cases e
    exact Ev.stop fun k => by rw [key, hp]; rfl
   ·rw [hp] at e; simp at e
 ·exact Ev.stop fun k => by simp only [impl_AreDeliveries.l0, within_f, Option.bind_some]; rw [if_neg (by rw [len_data]; omega)]
def str (l : List UInt8) : ByteArray := ⟨l.toArray⟩
theorem str_app (l m : List UInt8) : str l ++ str m = str (l ++ m) := by
 apply ba_ext
 simp [str]
theorem str_push (l : List UInt8) (b : UInt8) : str l ++ (⟨#[b]⟩ : ByteArray) = str (l ++ [b]) := str_app l [b]
theorem str_size (l : List UInt8) : (str l).size = l.length := rfl
theorem str_cut (s : ByteArray) (i : Nat) (h : i < s.data.toList.length) : s.extract i (i + 1) = str [s.data.toList[i]] := by
 apply ba_ext
 rw [data_extract, List.drop_eq_getElem_cons h]
 simp [str]
def toI (l : List UInt8) : List Int := l.map fun b => (b.toNat : Int)
theorem strOf_toI (l : List UInt8) : strOfNums (toI l) = str l := by
 apply ba_ext
 simp only [strOfNums, toI, str, List.map_map]
 have e : ∀ l : List UInt8, List.map ((fun n : Int => UInt8.ofNat n.toNat) ∘ fun b : UInt8 => (b.toNat : Int)) l = l := by
  intro l
  induction l with
  | nil => rfl
  | cons b l ih => rw [List.map_cons, ih]; simp
 exact e l
def many (b : UInt8) : Int := if b = 98 then 2 else if b = 45 then 0 else 1
def cnt (l : List UInt8) : Int := foldI (fun _ b s => s + many b) 0 l 0
theorem cnt_from : ∀ (l : List UInt8) (i : Nat) (s : Int), foldI (fun _ b s => s + many b) i l s = s + cnt l
 | [], _, s => by simp [foldI, cnt]
 | b :: l, i, s => by
  have h1 := cnt_from l (i + 1) (s + many b)
  have h2 := cnt_from l (0 + 1) (0 + many b)
  simp only [foldI, cnt] at h1 h2 ⊢
  omega
theorem cnt_cons (b : UInt8) (l : List UInt8) : cnt (b :: l) = many b + cnt l := by
 have := cnt_from l (0 + 1) (0 + many b)
 simp only [cnt, foldI] at this ⊢
 omega
theorem many_le (b : UInt8) : 0 ≤ many b ∧ many b ≤ 2 := by unfold many; split <;> (try split) <;> omega
theorem cnt_le : ∀ l : List UInt8, 0 ≤ cnt l ∧ cnt l ≤ 2 * l.length
 | [] => by simp [cnt, foldI]
 | b :: l => by
  have := cnt_le l
  have h := many_le b
  rw [cnt_cons]
  simp only [List.length_cons]
  omega
theorem poMany_f (b : UInt8) : spec_poMany.f (b.toNat : Int) = some (many b) := by
 simp only [spec_poMany.f, many, eq98, eq45]
 split
 ·rfl
 ·split <;> rfl
theorem poCount_ev (s : ByteArray) (hs : s.size ≤ 1048576) : Ev (fun k => spec_poCount.f k s) (cnt s.data.toList) := by
 refine ev_fold s.data.toList (fun k i c => spec_poCount.l0 k s c i) _ (fun c => c) (fun i c => 0 ≤ c ∧ c ≤ 2 * i) 0 (by simp) (fun i c hi hc => ?_) (fun c _ => Ev.stop fun k => ?_)
 ·have hi' : i < s.size := by rw [← len_data]; exact hi
  have hm := many_le s.data.toList[i]
  refine ⟨by omega, fun r hr => Ev.to _ (fun k => ?_) hr⟩
  simp only [spec_poCount.l0]
  rw [if_pos (by omega), if_pos (by omega), bt_get s i hi, poMany_f, Option.bind_some, w64 (x := (i : Int) + 1) (by omega) (by omega), w64 (by omega) (by omega)]
 ·simp only [spec_poCount.l0]
  rw [if_neg (by rw [len_data]; omega)]
theorem count_cnt : ∀ (l : List UInt8), (∀ b ∈ l, sgn b = true) → ((l.count 108 : Nat) : Int) + (l.count 114 : Nat) + 2 * (l.count 98 : Nat) = cnt l
 | [], _ => by simp [cnt, foldI]
 | b :: l, h => by
  have ih := count_cnt l (fun x hx => h x (by simp [hx]))
  have hb := h b (by simp)
  rw [cnt_cons]
  simp only [sgn, Bool.or_eq_true, beq_iff_eq] at hb
  rcases hb with rfl | rfl | rfl | rfl <;> simp [many] <;> omega
theorem count_le' (l : List UInt8) (b : UInt8) : l.count b ≤ l.length := List.count_le_length
theorem countDelivered_f (s : ByteArray) (hs : s.size ≤ 1048576) (h : ∀ b ∈ s.data.toList, sgn b = true) : impl_countDelivered.f s = some (cnt s.data.toList) := by
 have e1 : strings_Count.f s (⟨#[108]⟩ : ByteArray) = some ((s.data.toList.count 108 : Nat) : Int) := rfl
 have e2 : strings_Count.f s (⟨#[114]⟩ : ByteArray) = some ((s.data.toList.count 114 : Nat) : Int) := rfl
 have e3 : strings_Count.f s (⟨#[98]⟩ : ByteArray) = some ((s.data.toList.count 98 : Nat) : Int) := rfl
 have l1 := count_le' s.data.toList 108
 have l2 := count_le' s.data.toList 114
 have l3 := count_le' s.data.toList 98
 rw [len_data] at l1 l2 l3
 unfold impl_countDelivered.f
 rw [e1, e2, e3]
 simp only [Option.bind_some]
 rw [w64 (x := ((s.data.toList.count 108 : Nat) : Int) + (s.data.toList.count 114 : Nat)) (by omega) (by omega), w64 (x := 2 * ((s.data.toList.count 98 : Nat) : Int)) (by omega) (by omega), w64 (by omega) (by omega), count_cnt _ h]
def resK (s : ByteArray) : Int × Bool := if deliv s then (cnt s.data.toList, true) else (0, false)
theorem specK_ev (s : ByteArray) (hs : s.size ≤ 1048576) : Ev (fun k => spec_CountDelivered.f k s) (resK s) := by
 unfold spec_CountDelivered.f resK
 exact Ev.bind (poGood_ev s hs) (Ev.ite (fun _ => Ev.mapb (fun t => (t, true)) (poCount_ev s hs)) (fun _ => Ev.now _))
theorem implK_ev (s : ByteArray) (hs : s.size ≤ 1048576) : Ev (fun k => impl_CountDelivered.f k s) (resK s) := by
 unfold impl_CountDelivered.f resK
 exact Ev.bind (AreDeliveries_ev s hs) (Ev.ite (fun h => by rw [countDelivered_f s hs (deliv_mem h)]; exact Ev.now _) (fun _ => Ev.now _))
theorem zSame_ev (l : List Int) (hl : l.length ≤ 1048576) : Ev (fun k => laws_zSame.f k l l) true := by
 unfold laws_zSame.f
 refine Ev.itet rfl ?_
 have key : ∀ (d i : Nat), i + d = l.length → Ev (fun k => laws_zSame.l0 k l l (l.length : Int) (i : Int)) true := by
  intro d
  induction d with
  | zero =>
   intro i hi
   exact Ev.stop fun k => by simp only [laws_zSame.l0]; rw [if_neg (by omega)]
  | succ d ih =>
   intro i hi
   refine Ev.to _ (fun k => ?_) (ih (i + 1) (by omega))
   simp only [laws_zSame.l0]
   rw [if_pos (by omega), if_pos (by omega), if_pos (by omega), if_pos (by omega), w64 (by omega) (by omega)]
   simp
 have := key l.length 0 (by omega)
 simpa using this
def mirB (b : UInt8) : UInt8 := if b = 108 then 114 else if b = 114 then 108 else b
theorem mir_B (b : UInt8) : impl_MirrorDeliveries.mir (b.toNat : Int) = ((mirB b).toNat : Int) := by
 unfold impl_MirrorDeliveries.mir mirB
 simp only [eq108, eq114]
 split
 ·rfl
 ·split <;> rfl
def M (s : ByteArray) : ByteArray := str (s.data.toList.map mirB)
theorem implM_ev (s : ByteArray) (hs : s.size ≤ 1048576) : Ev (fun k => impl_MirrorDeliveries.f k s) (if deliv s then (M s, true) else (⟨#[]⟩, false)) := by
 unfold impl_MirrorDeliveries.f
 refine Ev.bind (AreDeliveries_ev s hs) (Ev.ite (fun _ => Ev.itet hs ?_) (fun _ => Ev.now _))
 have e : (bytesOf s).map impl_MirrorDeliveries.mir = toI (s.data.toList.map mirB) := by
  simp only [bytesOf, toI, List.map_map]
  exact List.map_congr_left (fun b _ => mir_B b)
 rw [e, strOf_toI]
 exact Ev.now _
theorem M_list (s : ByteArray) : (M s).data.toList = s.data.toList.map mirB := by simp [M, str]
theorem M_size (s : ByteArray) : (M s).size = s.size := by rw [← len_data, M_list, List.length_map, len_data]
theorem sgn_mir (b : UInt8) (h : sgn b = true) : sgn (mirB b) = true := by
 simp only [sgn, Bool.or_eq_true, beq_iff_eq] at h
 rcases h with rfl | rfl | rfl | rfl <;> rfl
theorem M_deliv {s : ByteArray} (h : deliv s = true) : deliv (M s) = true := by
 have hl := deliv_len h
 unfold deliv
 rw [M_size, decide_eq_true (show (1 : Int) ≤ (s.size : Int) ∧ (s.size : Int) ≤ 60 by omega), Bool.true_and, M_list, List.all_eq_true]
 intro b hb
 obtain ⟨x, hx, rfl⟩ := List.mem_map.1 hb
 exact sgn_mir x (deliv_mem h x hx)
theorem specM_l0 (s : ByteArray) (hs : s.size ≤ 1048576) : Ev (fun k => spec_MirrorDeliveries.l0 k s (⟨#[]⟩ : ByteArray) 0) (str (s.data.toList.map mirB), true) := by
 have hlen := len_data s
 have key : ∀ (d i : Nat), i + d = s.data.toList.length → Ev (fun k => spec_MirrorDeliveries.l0 k s (str ((s.data.toList.take i).map mirB)) (i : Int)) (str (s.data.toList.map mirB), true) := by
  intro d
  induction d with
  | zero =>
   intro i hi
   refine Ev.stop fun k => ?_
   simp only [spec_MirrorDeliveries.l0]
   rw [if_neg (by omega), List.take_of_length_le (by omega)]
  | succ d ih =>
   intro i hi
   have hlt : i < s.data.toList.length := by omega
   refine Ev.to _ (fun k => ?_) (ih (i + 1) (by omega))
   rw [List.take_succ_eq_append_getElem hlt, List.map_append]
   simp only [spec_MirrorDeliveries.l0]
   have w1 : wrap64 ((i : Int) + 1) = ((i + 1 : Nat) : Int) := by rw [w64 (by omega) (by omega)]; rfl
   rw [if_pos (by omega), if_pos (by omega), bt_get s i hlt, w1]
   simp only [eq108, eq114, Int.toNat_natCast, str_push, str_size, str_cut s i hlt, str_app, List.map_cons, List.map_nil, mirB, List.length_cons, List.length_nil]
   have hb : ((s.data.toList.take i).map mirB).length = i := by simp; omega
   by_cases h1 : s.data.toList[i] = 108
   ·rw [if_pos h1, if_pos h1, if_pos (by omega)]
   rw [if_neg h1, if_neg h1]
   by_cases h2 : s.data.toList[i] = 114
   ·rw [if_pos h2, if_pos h2, if_pos (by omega)]
   rw [if_neg h2, if_neg h2, if_pos (by omega), if_pos (by omega), if_pos (by omega)]
 exact key s.data.toList.length 0 (by omega)
theorem specM_ev (s : ByteArray) (hs : s.size ≤ 1048576) : Ev (fun k => spec_MirrorDeliveries.f k s) (if deliv s then (M s, true) else (⟨#[]⟩, false)) := by
 unfold spec_MirrorDeliveries.f
 exact Ev.bind (poGood_ev s hs) (Ev.ite (fun _ => specM_l0 s hs) (fun _ => Ev.now _))
def B (s : ByteArray) : ByteArray := str s.data.toList.reverse
theorem B_list (s : ByteArray) : (B s).data.toList = s.data.toList.reverse := by simp [B, str]
theorem B_size (s : ByteArray) : (B s).size = s.size := by rw [← len_data, B_list, List.length_reverse, len_data]
theorem B_deliv {s : ByteArray} (h : deliv s = true) : deliv (B s) = true := by
 have hl := deliv_len h
 unfold deliv
 rw [B_size, decide_eq_true (show (1 : Int) ≤ (s.size : Int) ∧ (s.size : Int) ≤ 60 by omega), Bool.true_and, B_list, List.all_reverse]
 exact List.all_eq_true.2 (deliv_mem h)
theorem B_B (s : ByteArray) : B (B s) = s := ba_ext (by rw [B_list, B_list, List.reverse_reverse])
theorem implB_ev (s : ByteArray) (hs : s.size ≤ 1048576) : Ev (fun k => impl_BackDeliveries.f k s) (if deliv s then (B s, true) else (⟨#[]⟩, false)) := by
 unfold impl_BackDeliveries.f
 refine Ev.bind (AreDeliveries_ev s hs) (Ev.ite (fun _ => Ev.itet hs ?_) (fun _ => Ev.now _))
 have e : (bytesOf s).reverse = toI s.data.toList.reverse := by simp [bytesOf, toI]
 rw [e, strOf_toI]
 exact Ev.now _
theorem specB_l0 (s : ByteArray) (hs : s.size ≤ 1048576) : ∀ i : Nat, i ≤ s.size → Ev (fun k => spec_BackDeliveries.l0 k s (str (s.data.toList.drop i).reverse) ((i : Int) - 1)) (B s, true)
 | 0, _ => by
  rw [List.drop_zero]
  exact Ev.stop fun k => by simp only [spec_BackDeliveries.l0]; rw [if_neg (by omega)]; rfl
 | i + 1, h => by
  have hlt : i < s.data.toList.length := by rw [len_data]; omega
  have ih := specB_l0 s hs i (by omega)
  have e : (s.data.toList.drop i).reverse = (s.data.toList.drop (i + 1)).reverse ++ [s.data.toList[i]] := by rw [List.drop_eq_getElem_cons hlt]; simp
  rw [e, ← str_app] at ih
  have hi : ((i + 1 : Nat) : Int) - 1 = (i : Int) := by omega
  rw [hi]
  refine Ev.to _ (fun k => ?_) ih
  have w1 : wrap64 ((i : Int) + 1) = ((i + 1 : Nat) : Int) := by rw [w64 (by omega) (by omega)]; rfl
  have w2 : wrap64 ((i : Int) - 1) = (i : Int) - 1 := w64 (by omega) (by omega)
  have hz : (str (s.data.toList.drop (i + 1)).reverse).size ≤ s.size := by rw [str_size, List.length_reverse, List.length_drop, len_data]; omega
  simp only [spec_BackDeliveries.l0]
  rw [w1, w2, Int.toNat_natCast, Int.toNat_natCast, str_cut s i hlt, if_pos (by omega), if_pos (by omega), if_pos (by omega), if_pos (by omega), if_pos (by rw [str_size [_]]; simp only [List.length_singleton]; omega)]
theorem specB_ev (s : ByteArray) (hs : s.size ≤ 1048576) : Ev (fun k => spec_BackDeliveries.f k s) (if deliv s then (B s, true) else (⟨#[]⟩, false)) := by
 unfold spec_BackDeliveries.f
 refine Ev.bind (poGood_ev s hs) (Ev.ite (fun hd => ?_) (fun _ => Ev.now _))
 have h := specB_l0 s hs s.size (Nat.le_refl _)
 rw [List.drop_of_length_le (by rw [len_data]; exact Nat.le_refl _)] at h
 rw [w64 (by omega) (by omega)]
 exact h
def joinR (u v : ByteArray) : ByteArray × Bool := if deliv u && (deliv v && deliv (u ++ v)) then (u ++ v, true) else (⟨#[]⟩, false)
theorem implJ_ev (u v : ByteArray) (hu : u.size ≤ 1000) (hv : v.size ≤ 1000) : Ev (fun k => impl_JoinDeliveries.f k u v) (joinR u v) := by
 unfold impl_JoinDeliveries.f joinR
 refine Ev.bind (AreDeliveries_ev u (by omega)) ?_
 cases deliv u
 ·exact Ev.itef (by simp) (Ev.now _)
 ·refine Ev.itet rfl (Ev.bind (AreDeliveries_ev v (by omega)) ?_)
  cases deliv v
  ·exact Ev.itef (by simp) (Ev.now _)
  ·refine Ev.itet rfl (Ev.itet (by omega) (Ev.bind (AreDeliveries_ev (u ++ v) (by rw [ByteArray.size_append]; omega)) ?_))
   cases deliv (u ++ v)
   ·exact Ev.itef (by simp) (Ev.now _)
   ·exact Ev.itet rfl (Ev.now _)
theorem specJ_ev (u v : ByteArray) (hu : u.size ≤ 1000) (hv : v.size ≤ 1000) : Ev (fun k => spec_JoinDeliveries.f k u v) (joinR u v) := by
 unfold spec_JoinDeliveries.f joinR
 refine Ev.bind (poGood_ev u (by omega)) ?_
 cases deliv u
 ·exact Ev.itef (by simp) (Ev.now _)
 ·refine Ev.itet rfl (Ev.bind (poGood_ev v (by omega)) ?_)
  cases deliv v
  ·exact Ev.itef (by simp) (Ev.now _)
  ·refine Ev.itet rfl (Ev.itet (by omega) (Ev.bind (poGood_ev (u ++ v) (by rw [ByteArray.size_append]; omega)) ?_))
   cases deliv (u ++ v)
   ·exact Ev.itef (by simp) (Ev.now _)
   ·exact Ev.itet rfl (Ev.now _)
theorem cnt_append : ∀ l m : List UInt8, cnt (l ++ m) = cnt l + cnt m
 | [], m => by simp [cnt, foldI]
 | b :: l, m => by rw [List.cons_append, cnt_cons, cnt_cons, cnt_append l m]; omega
theorem cnt_mir : ∀ l : List UInt8, cnt (l.map mirB) = cnt l
 | [] => rfl
 | b :: l => by
  rw [List.map_cons, cnt_cons, cnt_cons, cnt_mir l]
  have : many (mirB b) = many b := by
   unfold mirB
   by_cases h1 : b = 108
   ·rw [if_pos h1, h1]; rfl
   ·rw [if_neg h1]
    by_cases h2 : b = 114
    ·rw [if_pos h2, h2]; rfl
    ·rw [if_neg h2]
  omega
theorem M_M (s : ByteArray) : M (M s) = s := ba_ext (by
 rw [M_list, M_list, List.map_map]
 have : (mirB ∘ mirB) = id := by
  funext b
  show mirB (mirB b) = b
  unfold mirB
  by_cases h1 : b = 108
  ·subst h1; rfl
  ·rw [if_neg h1]
   by_cases h2 : b = 114
   ·subst h2; rfl
   ·rw [if_neg h2, if_neg h1, if_neg h2]
 rw [this, List.map_id])
structure LF (s : ByteArray) (i f l b : Nat) : Prop where
  le : b ≤ i
  now : ∀ j, b ≤ j → j < i → bt s (j : Int) = 45
  beg : b = 0 ∨ ¬ bt s ((b - 1 : Nat) : Int) = 45
  big : i - b ≤ l
  best : (l = 0 ∧ f = 0) ∨ (1 ≤ l ∧ f + l ≤ i ∧ (∀ j, f ≤ j → j < f + l → bt s (j : Int) = 45) ∧ (f = 0 ∨ ¬ bt s ((f - 1 : Nat) : Int) = 45) ∧ ((f = b ∧ f + l = i) ∨ (f + l < i ∧ ¬ bt s ((f + l : Nat) : Int) = 45)))
def LE (s : ByteArray) (f l : Nat) : Prop := l = 0 ∨ (1 ≤ l ∧ f + l ≤ s.size ∧ (∀ j, f ≤ j → j < f + l → bt s (j : Int) = 45) ∧ (f = 0 ∨ ¬ bt s ((f - 1 : Nat) : Int) = 45) ∧ (f + l < s.size → ¬ bt s ((f + l : Nat) : Int) = 45))
theorem free_l0 (s : ByteArray) (hs : s.size ≤ 60) : ∀ (d i f l b : Nat), i + d = s.size → f ≤ 60 → l ≤ 60 → LF s i f l b → ∃ f' l' : Nat, LE s f' l' ∧ Ev (fun k => impl_LongestFree.l0 k s (f : Int) (l : Int) (b : Int) (s.size : Int) (i : Int)) ((f' : Int), (l' : Int), decide ((l' : Int) > 0)) ∧ Ev (fun k => spec_LongestFree.l0 k s (f : Int) (l : Int) ((i : Int) - b) (i : Int)) ((f' : Int), (l' : Int), decide ((l' : Int) > 0))
 | 0, i, f, l, b, hi, hf, hl, h => by
  refine ⟨f, l, ?_, Ev.stop fun k => by simp only [impl_LongestFree.l0]; rw [if_neg (by omega)], Ev.stop fun k => by simp only [spec_LongestFree.l0]; rw [if_neg (by omega)]⟩
  rcases h.best with ⟨h1, _⟩ | ⟨h1, h2, h3, h4, h5⟩
  ·exact .inl h1
  ·refine .inr ⟨h1, by omega, h3, h4, fun h6 => ?_⟩
   rcases h5 with ⟨_, h7⟩ | ⟨_, h7⟩
   ·omega
   ·exact h7
 | d + 1, i, f, l, b, hi, hf, hl, h => by
  have hle := h.le;have hbig := h.big;have w1 : wrap64 ((i : Int) + 1) = (i : Int) + 1 := w64 (by omega) (by omega);have w2 : wrap64 ((i : Int) + 1 - b) = (i : Int) + 1 - b := w64 (by omega) (by omega);have w3 : wrap64 ((i : Int) - b + 1) = (i : Int) - b + 1 := w64 (by omega) (by omega);have w4 : wrap64 ((i : Int) - ((i : Int) - b + 1)) = (b : Int) - 1 := by rw [w64 (by omega) (by omega)]; omega
  have w5 : wrap64 ((b : Int) - 1 + 1) = (b : Int) := by rw [w64 (by omega) (by omega)]; omega
  have ei : (i : Int) + 1 = ((i + 1 : Nat) : Int) := rfl
  by_cases hd : bt s (i : Int) = 45
  ·by_cases hn : i + 1 - b > l
   ·obtain ⟨f', l', h1, h2, h3⟩ := free_l0 s hs d (i + 1) b (i + 1 - b) b (by omega) (by omega) (by omega) ⟨by omega, fun j j1 j2 => by rcases Nat.lt_or_eq_of_le (Nat.le_of_lt_succ j2) with e | rfl; exact h.now j j1 e; exact hd, h.beg, Nat.le_refl _, .inr ⟨by omega, by omega, fun j j1 j2 => by rcases Nat.lt_or_eq_of_le (show j ≤ i by omega) with e | rfl; exact h.now j j1 e; exact hd, h.beg, .inl ⟨rfl, by omega⟩⟩⟩
    have e1 : (i : Int) + 1 - b = ((i + 1 - b : Nat) : Int) := by omega
    have e2 : (i : Int) - b + 1 = ((i + 1 - b : Nat) : Int) := by omega
    have e3 : ((i + 1 : Nat) : Int) - (b : Int) = ((i + 1 - b : Nat) : Int) := by omega
    refine ⟨f', l', h1, Ev.to _ (fun k => ?_) h2, Ev.to _ (fun k => ?_) h3⟩
    ·simp only [impl_LongestFree.l0]
     rw [if_pos (by omega), if_pos (by omega), if_pos (by omega), if_pos hd, w1, w2, if_pos (by omega), e1, ei]
    ·simp only [spec_LongestFree.l0]
     rw [if_pos (by omega), if_pos (by omega), if_pos hd, w3, w4, w5, w1, if_pos (by omega), e2, ei, e3]
   ·obtain ⟨f', l', h1, h2, h3⟩ := free_l0 s hs d (i + 1) f l b (by omega) hf hl ⟨by omega, fun j j1 j2 => by rcases Nat.lt_or_eq_of_le (Nat.le_of_lt_succ j2) with e | rfl; exact h.now j j1 e; exact hd, h.beg, by omega, by
     rcases h.best with ⟨g1, g2⟩ | ⟨g1, g2, g3, g4, g5⟩
     ·omega
     ·refine .inr ⟨g1, by omega, g3, g4, .inr ?_⟩
      rcases g5 with ⟨g6, g7⟩ | ⟨g6, g7⟩
      ·omega
      ·exact ⟨by omega, g7⟩⟩
    have e2 : (i : Int) - b + 1 = ((i + 1 : Nat) : Int) - (b : Int) := by omega
    refine ⟨f', l', h1, Ev.to _ (fun k => ?_) h2, Ev.to _ (fun k => ?_) h3⟩
    ·simp only [impl_LongestFree.l0]
     rw [if_pos (by omega), if_pos (by omega), if_pos (by omega), if_pos hd, w1, w2, if_neg (by omega), ei]
    ·simp only [spec_LongestFree.l0]
     rw [if_pos (by omega), if_pos (by omega), if_pos hd, w3, w1, if_neg (by omega), e2, ei]
  ·obtain ⟨f', l', h1, h2, h3⟩ := free_l0 s hs d (i + 1) f l (i + 1) (by omega) hf hl ⟨Nat.le_refl _, fun j j1 j2 => by omega, .inr (by simpa using hd), by omega, by
     rcases h.best with g | ⟨g1, g2, g3, g4, g5⟩
     ·exact .inl g
     ·refine .inr ⟨g1, by omega, g3, g4, .inr ?_⟩
      rcases g5 with ⟨g6, g7⟩ | ⟨g6, g7⟩
      ·exact ⟨by omega, by rw [g7]; exact hd⟩
      ·exact ⟨by omega, g7⟩⟩
   have e0 : ((i + 1 : Nat) : Int) - ((i + 1 : Nat) : Int) = 0 := by omega
   rw [e0] at h3
   refine ⟨f', l', h1, Ev.to _ (fun k => ?_) h2, Ev.to _ (fun k => ?_) h3⟩
   ·simp only [impl_LongestFree.l0]
    rw [if_pos (by omega), if_pos (by omega), if_pos (by omega), if_neg hd, w1, ei]
   ·simp only [spec_LongestFree.l0]
    rw [if_pos (by omega), if_pos (by omega), if_neg hd, w1, ei]
theorem free_both (s : ByteArray) (hs : s.size ≤ 1048576) : ∃ f l : Nat, ∃ ok : Bool, LE s f l ∧ (ok = true → 1 ≤ l ∧ deliv s = true) ∧ Ev (fun k => impl_LongestFree.f k s) ((f : Int), (l : Int), ok) ∧ Ev (fun k => spec_LongestFree.f k s) ((f : Int), (l : Int), ok) := by
 unfold impl_LongestFree.f spec_LongestFree.f
 cases hd : deliv s
 ·exact ⟨0, 0, false, .inl rfl, (fun h => by cases h), Ev.bind (AreDeliveries_ev s hs) (by rw [hd]; exact Ev.itef (by simp) (Ev.now _)), Ev.bind (poGood_ev s hs) (by rw [hd]; exact Ev.itef (by simp) (Ev.now _))⟩
 ·have h60 := deliv_len hd
  obtain ⟨f, l, h1, h2, h3⟩ := free_l0 s h60.2 s.size 0 0 0 0 (by omega) (by omega) (by omega) ⟨Nat.le_refl _, fun j _ h => by omega, .inl rfl, by omega, .inl ⟨rfl, rfl⟩⟩
  refine ⟨f, l, decide ((l : Int) > 0), h1, (fun h => ⟨by have := of_decide_eq_true h; omega, rfl⟩), Ev.bind (AreDeliveries_ev s hs) (by rw [hd]; exact Ev.itet rfl h2), Ev.bind (poGood_ev s hs) (by rw [hd]; exact Ev.itet rfl (by simpa using h3))⟩
def part (s : ByteArray) (m i : Nat) : Int := cnt (s.extract i (i + m)).data.toList
structure BP (s : ByteArray) (m i : Nat) (b t : Int) : Prop where
  le : ∀ j, j < i → part s m j ≤ t ∧ (part s m j = t → b ≤ (j : Int))
  at_ : (i = 0 ∧ t = -1 ∧ b = 0) ∨ ∃ c : Nat, b = (c : Int) ∧ c < i ∧ part s m c = t
theorem part_deliv {s : ByteArray} (hd : deliv s = true) {m i : Nat} (hm : 1 ≤ m) (hi : i + m ≤ s.size) : deliv (s.extract i (i + m)) = true := by
 have hn := deliv_len hd
 have hz : (s.extract i (i + m)).size = m := by rw [ByteArray.size_extract]; omega
 unfold deliv
 rw [hz, decide_eq_true (by omega), Bool.true_and, List.all_eq_true]
 intro b hb
 rw [data_extract] at hb
 exact deliv_mem hd b (List.mem_of_mem_drop (List.mem_of_mem_take hb))
theorem busy_l0 (s : ByteArray) (hd : deliv s = true) (m : Nat) (hm : 1 ≤ m ∧ m ≤ s.size) : ∀ (d i : Nat) (b t : Int), i + m + d = s.size + 1 → BP s m i b t → ∃ b' t', BP s m (s.size + 1 - m) b' t' ∧ Ev (fun k => spec_BusiestPart.l0 k s (m : Int) b t (i : Int)) (b', t', true) ∧ Ev (fun k => impl_BusiestPart.l0 k s (m : Int) b t (i : Int)) (b', t', true)
 | 0, i, b, t, hi, h => by
  have hn := deliv_len hd
  have w : wrap64 ((i : Int) + m) = (i : Int) + m := w64 (by omega) (by omega)
  refine ⟨b, t, by rw [show s.size + 1 - m = i by omega]; exact h, Ev.stop fun k => ?_, Ev.stop fun k => ?_⟩
  ·simp only [spec_BusiestPart.l0, w]; rw [if_neg (by omega)]
  ·simp only [impl_BusiestPart.l0, w]; rw [if_neg (by omega)]
 | d + 1, i, b, t, hi, h => by
  have hn := deliv_len hd
  have w : wrap64 ((i : Int) + m) = (i : Int) + m := w64 (by omega) (by omega)
  have e : ((i : Int) + m).toNat = i + m := by omega
  have w1 : wrap64 ((i : Int) + 1) = ((i + 1 : Nat) : Int) := by rw [w64 (by omega) (by omega)]; rfl
  have hx : (s.extract i (i + m)).size ≤ 1048576 := by rw [ByteArray.size_extract]; omega
  have h1 := poCount_ev (s.extract i (i + m)) hx
  have h2 := countDelivered_f (s.extract i (i + m)) hx (deliv_mem (part_deliv hd hm.1 (by omega)))
  have h0 := (cnt_le (s.extract i (i + m)).data.toList).1
  by_cases hb : part s m i > t
  ·obtain ⟨b', t', g0, g1, g2⟩ := busy_l0 s hd m hm d (i + 1) i (part s m i) (by omega) ⟨fun j hj => by
     rcases Nat.lt_or_eq_of_le (Nat.le_of_lt_succ hj) with hj | rfl
     ·have := (h.le j hj).1
      exact ⟨by omega, fun e => by omega⟩
     ·exact ⟨Int.le_refl _, fun _ => Int.le_refl _⟩, .inr ⟨i, rfl, by omega, rfl⟩⟩
   refine ⟨b', t', g0, Ev.succ ?_, Ev.succ ?_⟩
   ·simp only [spec_BusiestPart.l0, w, e, Int.toNat_natCast, w1]
    exact Ev.itet (by omega) (Ev.itet (by omega) (Ev.itet (by omega) (Ev.bind h1 (Ev.itet hb g1))))
   ·simp only [impl_BusiestPart.l0, w, e, Int.toNat_natCast, w1, h2, Option.bind_some]
    exact Ev.itet (by omega) (Ev.itet (by omega) (Ev.itet (by omega) (Ev.itet hb g2)))
  ·obtain ⟨b', t', g0, g1, g2⟩ := busy_l0 s hd m hm d (i + 1) b t (by omega) ⟨fun j hj => by
     rcases Nat.lt_or_eq_of_le (Nat.le_of_lt_succ hj) with hj | rfl
     ·exact h.le j hj
     ·refine ⟨by omega, fun e => ?_⟩
      rcases h.at_ with ⟨h3, h4, h5⟩ | ⟨c, h3, h4, h5⟩
      ·omega
      ·omega, by
     rcases h.at_ with ⟨h3, h4, h5⟩ | ⟨c, h3, h4, h5⟩
     ·exfalso
      apply hb
      rw [h4]
      unfold part
      omega
     ·exact .inr ⟨c, h3, by omega, h5⟩⟩
   refine ⟨b', t', g0, Ev.succ ?_, Ev.succ ?_⟩
   ·simp only [spec_BusiestPart.l0, w, e, Int.toNat_natCast, w1]
    exact Ev.itet (by omega) (Ev.itet (by omega) (Ev.itet (by omega) (Ev.bind h1 (Ev.itef hb g1))))
   ·simp only [impl_BusiestPart.l0, w, e, Int.toNat_natCast, w1, h2, Option.bind_some]
    exact Ev.itet (by omega) (Ev.itet (by omega) (Ev.itet (by omega) (Ev.itef hb g2)))
theorem busy_both (s : ByteArray) (hs : s.size ≤ 1048576) (m : Int) : ∃ b t : Int, ∃ ok : Bool, Ev (fun k => spec_BusiestPart.f k s m) (b, t, ok) ∧ Ev (fun k => impl_BusiestPart.f k s m) (b, t, ok) ∧ (ok = true → deliv s = true ∧ ∃ n : Nat, m = (n : Int) ∧ 1 ≤ n ∧ n ≤ s.size ∧ BP s n (s.size + 1 - n) b t) := by
 unfold spec_BusiestPart.f impl_BusiestPart.f
 simp only [l1In_f, within_f, Option.bind_some]
 have n1 : Ev (fun k => spec_BusiestPart.j0 k s m true) (0, 0, false) := Ev.stop fun k => rfl
 have n2 : Ev (fun k => impl_BusiestPart.j0 k s m true) (0, 0, false) := Ev.stop fun k => rfl
 cases hd : deliv s
 ·exact ⟨_, _, _, Ev.bind (poGood_ev s hs) (by rw [hd]; exact Ev.itef (by simp) n1), Ev.bind (AreDeliveries_ev s hs) (by rw [hd]; exact Ev.itef (by simp) n2), fun h => by cases h⟩
 by_cases hm : 1 ≤ m ∧ m ≤ (s.size : Int)
 ·obtain ⟨n, rfl⟩ := Int.eq_ofNat_of_zero_le (show 0 ≤ m by omega)
  obtain ⟨b, t, h0, h1, h2⟩ := busy_l0 s hd n (by omega) (s.size + 1 - n) 0 0 (-1) (by omega) ⟨fun j hj => by omega, .inl ⟨rfl, rfl, rfl⟩⟩
  exact ⟨b, t, true, Ev.bind (poGood_ev s hs) (by rw [hd, decide_eq_true hm]; exact Ev.itet rfl (Ev.to _ (fun k => by simp only [spec_BusiestPart.j0]; rfl) h1)), Ev.bind (AreDeliveries_ev s hs) (by rw [hd, decide_eq_true hm]; exact Ev.itet rfl (Ev.to _ (fun k => by simp only [impl_BusiestPart.j0]; rfl) h2)), fun _ => ⟨rfl, n, rfl, by omega, by omega, h0⟩⟩
 ·exact ⟨_, _, _, Ev.bind (poGood_ev s hs) (by rw [hd, decide_eq_false hm]; exact Ev.itet rfl n1), Ev.bind (AreDeliveries_ev s hs) (by rw [hd, decide_eq_false hm]; exact Ev.itet rfl n2), fun h => by cases h⟩
theorem cross_eq (a b c : Int) : impl_crossingsAt.f a b c = spec_poCross.f a b c := by
 unfold impl_crossingsAt.f spec_poCross.f
 by_cases h1 : b = c
 ·rw [if_pos h1, if_pos h1]
  by_cases h2 : a = 98
  ·rw [if_pos h2, if_pos h2]
  rw [if_neg h2, if_neg h2]
  by_cases h3 : a = 114
  ·subst h3; simp
  ·by_cases h4 : a = 108
   ·subst h4; simp
   ·simp [h3, h4]
 ·rw [if_neg h1, if_neg h1]
theorem crossR (b s t : Int) : impl_bestRoute.cross b s t = spec_poTable.cross b s t := by unfold impl_bestRoute.cross spec_poTable.cross; rw [cross_eq]
theorem upd_eq (o c : Int) (p : Int × Int) : impl_bestRoute.upd o c p = spec_poTable.upd o c p := by
 have h : ∀ x : Int, mn 1000000000000001 x = spec_poTable.least x 1000000000000001 := by
  intro x; unfold mn spec_poTable.least; rfl
 unfold impl_bestRoute.upd spec_poTable.upd
 rw [h, h]
def good (m : Int) (p : Int × Int) : Prop := (p.1 = 1000000 ∧ p.2 = 0) ∨ p.1 ≤ m
theorem side_eq {b m : Int} {R : (Nat → Int) × (Nat → Int)} (hm : m ≤ 200) (hR : ∀ t, good m (R.1 t, R.2 t)) (hok : ∀ t, spec_poTable.Ok (R.1 t, R.2 t)) (s : Nat) :
  ∀ k, impl_bestRoute.side b R s k = spec_poTable.side b R s k ∧ good (m + 2) (spec_poTable.side b R s k)
 | 0 => ⟨rfl, .inl ⟨rfl, rfl⟩⟩
 | k + 1 => by
  obtain ⟨e, g⟩ := side_eq hm hR hok s k
  have o := spec_poTable.side_ok (b := b) hok s k
  have hx := (spec_poTable.cross_f b s k).2
  have hk := hR k
  unfold impl_bestRoute.side spec_poTable.side
  rw [e, crossR, upd_eq]
  generalize spec_poTable.side b R s k = p at g o
  generalize spec_poTable.cross b s k = x at hx
  obtain ⟨f, c⟩ := p
  simp only [good, spec_poTable.Ok] at g o hk ⊢
  by_cases h : R.1 k = 1000000
  ·rw [if_pos h]
   have hc : R.2 k = 0 := by omega
   refine ⟨?_, g⟩
   rw [h, hc]
   unfold spec_poTable.upd spec_poTable.least
   simp only
   by_cases h1 : x + 1000000 = f
   ·rw [if_neg (by omega), if_pos h1]
    congr 1
    by_cases h2 : c + 0 < 1000000000000001
    ·rw [if_pos h2]; omega
    ·rw [if_neg h2]; omega
   ·rw [if_neg (by omega), if_neg h1]
  ·rw [if_neg h]
   refine ⟨rfl, ?_⟩
   unfold spec_poTable.upd
   simp only
   by_cases h1 : x + R.1 k < f
   ·rw [if_pos h1]; right; simp only; omega
   ·rw [if_neg h1]
    by_cases h2 : x + R.1 k = f
    ·rw [if_pos h2]; right; simp only; omega
    ·rw [if_neg h2]; exact g
theorem side_fin {b m : Int} {R : (Nat → Int) × (Nat → Int)} (hm : m ≤ 200) (hf : R.1 0 ≤ m ∨ R.1 1 ≤ m) (s : Nat) : (spec_poTable.side b R s 2).1 ≤ m + 2 := by
 have up : ∀ k, (spec_poTable.side b R s (k + 1)).1 ≤ (spec_poTable.side b R s k).1 ∧ (R.1 k ≤ m → (spec_poTable.side b R s (k + 1)).1 ≤ m + 2) := by
  intro k
  have hx := (spec_poTable.cross_f b s k).2
  rw [spec_poTable.side]
  generalize spec_poTable.side b R s k = p
  generalize spec_poTable.cross b s k = x at hx
  by_cases h : R.1 k = 1000000
  ·rw [if_pos h]; exact ⟨Int.le_refl _, fun h' => by omega⟩
  ·rw [if_neg h]
   unfold spec_poTable.upd
   by_cases h1 : x + R.1 k < p.1
   ·rw [if_pos h1]; simp only; omega
   ·rw [if_neg h1]
    by_cases h2 : x + R.1 k = p.1
    ·rw [if_pos h2]; simp only; omega
    ·rw [if_neg h2]; omega
 have h0 := up 0
 have h1 := up 1
 rcases hf with h | h
 ·have := h0.2 h; have := h1.1; simp only [Nat.zero_add, Nat.reduceAdd] at *; omega
 ·exact h1.2 h
theorem end_eq (a : Int) : impl_bestRoute.endRow a = spec_poTable.endRow a := by
 unfold impl_bestRoute.endRow spec_poTable.endRow
 congr 1 <;> funext s <;> (by_cases h : a = 2 ∨ a = (s : Int)) <;> (first | (rw [if_pos h, if_neg (by omega)]) | (rw [if_neg h, if_pos (by omega)]))
theorem end_ok (a : Int) (t : Nat) : spec_poTable.Ok ((spec_poTable.endRow a).1 t, (spec_poTable.endRow a).2 t) := by
 unfold spec_poTable.Ok spec_poTable.endRow
 simp only
 split <;> omega
theorem row_eq (a : Int) : ∀ l : List Int, l.length ≤ 60 → impl_bestRoute.rowAt (impl_bestRoute.endRow a) l = spec_poTable.rowAt (spec_poTable.endRow a) l ∧ ∀ t, good (2 * (l.length : Int)) ((spec_poTable.rowAt (spec_poTable.endRow a) l).1 t, (spec_poTable.rowAt (spec_poTable.endRow a) l).2 t)
 | [], _ => ⟨end_eq a, fun t => by
   unfold good spec_poTable.rowAt spec_poTable.endRow
   simp only
   by_cases h : a = 2 ∨ a = (t : Int)
   ·rw [if_pos h]; right; simp
   ·rw [if_neg h, if_neg h]; left; exact ⟨rfl, rfl⟩⟩
 | b :: l, hl => by
  simp only [List.length_cons] at hl
  obtain ⟨e, g⟩ := row_eq a l (by omega)
  have hs := fun s => side_eq (b := b) (by omega) g (fun t => spec_poTable.rowAt_ok (end_ok a) l t) s 2
  constructor
  ·unfold impl_bestRoute.rowAt spec_poTable.rowAt
   rw [e]
   congr 1 <;> funext s <;> rw [(hs s).1]
  ·intro t
   have := (hs t).2
   rw [List.length_cons, show (2 * ((l.length + 1 : Nat) : Int)) = 2 * (l.length : Int) + 2 by omega]
   exact this
theorem R_eq (s : ByteArray) (a : Int) (hs : s.size ≤ 60) (j : Nat) : impl_bestRoute.R s a j = spec_poTable.R s a j := (row_eq a _ (by rw [List.length_drop, bytesOf_length]; omega)).1
theorem row_fin (a : Int) (ha : 0 ≤ a ∧ a ≤ 2) : ∀ l : List Int, l.length ≤ 60 → (spec_poTable.rowAt (spec_poTable.endRow a) l).1 0 ≤ 2 * (l.length : Int) ∨ (spec_poTable.rowAt (spec_poTable.endRow a) l).1 1 ≤ 2 * (l.length : Int)
 | [], _ => by
  unfold spec_poTable.rowAt spec_poTable.endRow
  simp only [List.length_nil]
  by_cases h : a = 1
  ·right; rw [if_pos (by omega)]; omega
  ·left; rw [if_pos (by omega)]; omega
 | b :: l, hl => by
  simp only [List.length_cons] at hl
  left
  have := side_fin (b := b) (m := 2 * (l.length : Int)) (by omega) (row_fin a ha l (by omega)) 0
  rw [List.length_cons, show (2 * ((l.length + 1 : Nat) : Int)) = 2 * (l.length : Int) + 2 by omega]
  exact this
theorem R_fin (s : ByteArray) (a : Int) (ha : 0 ≤ a ∧ a ≤ 2) (hs : s.size ≤ 60) (j : Nat) (hj : j < s.size) (t : Nat) : (spec_poTable.R s a j).1 t ≤ 200 := by
 rw [spec_poTable.R_step s a j hj]
 have hl : ((bytesOf s).drop (j + 1)).length ≤ 60 := by rw [List.length_drop, bytesOf_length]; omega
 have := side_fin (b := bt s j) (m := 2 * (((bytesOf s).drop (j + 1)).length : Int)) (R := spec_poTable.R s a (j + 1)) (by omega) (row_fin a ha _ hl) t
 simp only; omega
theorem R_good (s : ByteArray) (a : Int) (hs : s.size ≤ 60) (j t : Nat) : good 200 ((spec_poTable.R s a j).1 t, (spec_poTable.R s a j).2 t) := by
 have hl : ((bytesOf s).drop j).length ≤ 60 := by rw [List.length_drop, bytesOf_length]; omega
 have := (row_eq a _ hl).2 t
 unfold good at *
 rcases this with h | h
 ·exact .inl h
 ·right; exact Int.le_trans h (by omega)
theorem tab_len (n : Nat) (f : Nat → Nat → Int) : (spec_poTable.tab n f).length = n + 1 := by simp [spec_poTable.tab]
theorem tab_at (n : Nat) (f : Nat → Nat → Int) {j : Nat} (hj : j ≤ n) : rd_L4 (spec_poTable.tab n f) (j : Int) = [f j 0, f j 1] := by
 unfold rd_L4 spec_poTable.tab
 rw [List.getD_eq_getElem?_getD, List.getElem?_map, show ((j : Int)).toNat = j by omega, List.getElem?_range (by omega)]
 rfl
def asked (s : ByteArray) (a : Int) : Bool := deliv s && decide (0 ≤ a ∧ a ≤ 2)
theorem isDelivered_ev (s : ByteArray) (a : Int) (hs : s.size ≤ 1048576) : Ev (fun k => impl_isDelivered.f k s a) (asked s a) := by
 unfold impl_isDelivered.f asked
 refine Ev.bind (AreDeliveries_ev s hs) ?_
 cases deliv s
 ·exact Ev.itef (by simp) (Ev.now _)
 ·exact Ev.itet rfl (by simp only [within_f, Option.bind_some, Bool.true_and]; exact Ev.now _)
theorem table_f (s : ByteArray) (a : Int) (hs : s.size ≤ 60) : spec_poTable.f s a = some (spec_poTable.tab s.size (fun j t => (spec_poTable.R s a j).1 t), spec_poTable.tab s.size (fun j t => (spec_poTable.R s a j).2 t)) := by
 unfold spec_poTable.f; rw [if_pos hs]
theorem best_f (s : ByteArray) (a : Int) (hs : s.size ≤ 60) : impl_bestRoute.f s a = some ((spec_poTable.R s a 0).1 0, impl_bestRoute.sides s a s.size, (spec_poTable.R s a 0).2 0) := by
 unfold impl_bestRoute.f; rw [if_pos hs, R_eq s a hs]
def F (s : ByteArray) (a : Int) : Nat → Nat → Int := fun j t => (spec_poTable.R s a j).1 t
theorem rd2 (f : Nat → Int) {c : Nat} (hc : c < 2) : rd [f 0, f 1] (c : Int) = f c := by
 rcases (show c = 0 ∨ c = 1 by omega) with rfl | rfl <;> rfl
theorem sides_succ (s : ByteArray) (a : Int) (i : Nat) : impl_bestRoute.sides s a (i + 1) = impl_bestRoute.sides s a i ++ [((impl_bestRoute.come s a (i + 1) : Nat) : Int)] := by
 unfold impl_bestRoute.sides
 rw [List.range_succ, List.map_append]
 rfl
theorem sides_len (s : ByteArray) (a : Int) (i : Nat) : (impl_bestRoute.sides s a i).length = i := by simp [impl_bestRoute.sides]
theorem come_succ (s : ByteArray) (a : Int) (hs : s.size ≤ 60) (i : Nat) : impl_bestRoute.come s a (i + 1) = if spec_poTable.cross (bt s i) (impl_bestRoute.come s a i : Nat) 0 + F s a (i + 1) 0 = F s a i (impl_bestRoute.come s a i) then 0 else 1 := by
 rw [impl_bestRoute.come]
 unfold impl_bestRoute.leave
 rw [R_eq s a hs, R_eq s a hs, crossR]
 rfl
theorem l0_ev (s : ByteArray) (a : Int) (hs : s.size ≤ 60) (ha : 0 ≤ a ∧ a ≤ 2) : ∀ (d i : Nat), i + d = s.size → Ev (fun k => spec_poSides.l0 k s (spec_poTable.tab s.size (F s a)) (impl_bestRoute.sides s a i) ((impl_bestRoute.come s a i : Nat) : Int) (i : Int)) (impl_bestRoute.sides s a s.size) := by
 intro d
 induction d with
 | zero =>
  intro i hi
  obtain rfl : i = s.size := by omega
  exact Ev.stop fun k => by simp only [spec_poSides.l0]; rw [if_neg (by omega)]
 | succ d ih =>
  intro i hi
  refine Ev.to _ (fun k => ?_) (ih (i + 1) (by omega))
  have hw : wrap64 ((i : Int) + 1) = ((i + 1 : Nat) : Int) := by rw [w64 (by omega) (by omega)]; rfl
  have hc := impl_bestRoute.come_lt s a i
  have t1 := tab_at s.size (F s a) (j := i + 1) (by omega)
  have t0 := tab_at s.size (F s a) (j := i) (by omega)
  have hx := spec_poTable.cross_f (bt s i) (impl_bestRoute.come s a i : Nat) 0
  have hfin := R_fin s a ha hs i (by omega) (impl_bestRoute.come s a i)
  have hg := R_good s a hs (i + 1) 0
  have hok := spec_poTable.R_ok s a (i + 1) 0
  have hcs := come_succ s a hs i
  rw [sides_succ]
  simp only [spec_poSides.l0]
  rw [hw, t1, t0, tab_len, if_pos (by omega), if_pos (by omega), if_pos (by omega), if_pos (by simp), sides_len]
  rw [show rd [F s a (i + 1) 0, F s a (i + 1) 1] 0 = F s a (i + 1) 0 from rfl, rd2 (F s a i) hc]
  change (spec_poTable.R s a i).1 (impl_bestRoute.come s a i) ≤ 200 at hfin
  have hfin' : F s a i (impl_bestRoute.come s a i) ≤ 200 := hfin
  have hok' : 0 ≤ F s a (i + 1) 0 ∧ F s a (i + 1) 0 ≤ 1000000 := ⟨hok.1, hok.2.1⟩
  rw [hx.1, Option.bind_some]
  generalize hC : impl_bestRoute.come s a i = c at *
  generalize spec_poTable.cross (bt s i) (c : Nat) 0 = x at *
  generalize F s a (i + 1) 0 = f1 at *
  generalize F s a i c = f0 at *
  by_cases hF : f1 = 1000000
  ·rw [if_pos hF, if_pos (by omega)]
   rw [if_neg (by omega)] at hcs
   rw [hcs]
   rfl
  ·rw [if_neg hF, if_pos (by omega), if_pos (by omega), if_pos (by omega), if_pos (by simp; omega), w64 (by omega) (by omega)]
   by_cases he : x + f1 = f0
   ·rw [if_pos he, if_pos (by omega)]
    rw [if_pos he] at hcs
    rw [hcs]
    rfl
   ·rw [if_neg he, if_pos (by omega)]
    rw [if_neg he] at hcs
    rw [hcs]
    rfl
theorem poSides_ev (s : ByteArray) (a : Int) (hs : s.size ≤ 60) (ha : 0 ≤ a ∧ a ≤ 2) : Ev (fun k => spec_poSides.f k s a) (impl_bestRoute.sides s a s.size) := by
 unfold spec_poSides.f
 rw [table_f s a hs]
 exact l0_ev s a hs ha s.size 0 (by omega)
def sgnR (b : UInt8) : Bool := b == 114 || b == 98
def fits (kd p : Int) (s : ByteArray) : Bool := decide (0 ≤ kd ∧ kd ≤ 2) && (decide (1 ≤ p ∧ p ≤ 1000) && (deliv s && (decide ((s.size : Int) = p) && (decide (kd > 0) || !s.data.toList.any sgnR))))
theorem fits_deliv {kd p : Int} {s : ByteArray} (h : fits kd p s = true) : deliv s = true := by
 simp only [fits, Bool.and_eq_true] at h
 exact h.2.2.1
theorem fits_len {kd p : Int} {s : ByteArray} (h : fits kd p s = true) : 1 ≤ s.size ∧ s.size ≤ 60 := deliv_len (fits_deliv h)
theorem fits_l0 (kd p : Int) (s : ByteArray) (hs : s.size ≤ 1048576) : Ev (fun k => spec_poFits.l0 k s 0 kd p) (decide (kd ≠ 0) || !s.data.toList.any sgnR) := by
 have key : ∀ (d i : Nat), i + d = s.data.toList.length → Ev (fun k => spec_poFits.l0 k s (i : Int) kd p) (decide (kd ≠ 0) || !(s.data.toList.drop i).any sgnR) := by
  intro d
  induction d with
  | zero =>
   intro i hi
   have e : s.data.toList.drop i = [] := List.drop_of_length_le (by omega)
   rw [e]
   have e2 : (decide (kd ≠ 0) || !([] : List UInt8).any sgnR) = true := by simp
   rw [e2]
   exact Ev.stop fun k => by simp only [spec_poFits.l0]; rw [if_neg (by rw [len_data] at hi; omega)]
  | succ d ih =>
   intro i hi
   have hlt : i < s.data.toList.length := by omega
   have hsz : i < s.size := by rw [← len_data]; exact hlt
   have hw : wrap64 ((i : Int) + 1) = ((i + 1 : Nat) : Int) := by rw [w64 (by omega) (by omega)]; rfl
   rw [List.drop_eq_getElem_cons hlt, List.any_cons]
   by_cases hk : kd = 0
   ·subst hk
    by_cases h1 : s.data.toList[i] = 114
    ·have e : (decide ((0 : Int) ≠ 0) || !(sgnR s.data.toList[i] || (s.data.toList.drop (i + 1)).any sgnR)) = false := by rw [h1]; simp [sgnR]
     rw [e]
     exact Ev.stop fun k => by simp only [spec_poFits.l0, bt_get s i hlt, eq114]; rw [if_pos (by omega), if_pos trivial, if_pos (by omega), if_pos h1]
    by_cases h2 : s.data.toList[i] = 98
    ·have e : (decide ((0 : Int) ≠ 0) || !(sgnR s.data.toList[i] || (s.data.toList.drop (i + 1)).any sgnR)) = false := by rw [h2]; simp [sgnR]
     rw [e]
     exact Ev.stop fun k => by simp only [spec_poFits.l0, bt_get s i hlt, eq114, eq98]; rw [if_pos (by omega), if_pos trivial, if_pos (by omega), if_neg h1, if_pos h2]
    ·have e : sgnR s.data.toList[i] = false := by unfold sgnR; rw [Bool.or_eq_false_iff]; exact ⟨beq_eq_false_iff_ne.mpr h1, beq_eq_false_iff_ne.mpr h2⟩
     rw [e, Bool.false_or]
     refine Ev.to _ (fun k => ?_) (ih (i + 1) (by omega))
     simp only [spec_poFits.l0, bt_get s i hlt, eq114, eq98]
     rw [if_pos (by omega), if_pos trivial, if_pos (by omega), if_neg h1, if_neg h2, hw]
   ·have e : (decide (kd ≠ 0) || !(sgnR s.data.toList[i] || (s.data.toList.drop (i + 1)).any sgnR)) = (decide (kd ≠ 0) || !(s.data.toList.drop (i + 1)).any sgnR) := by simp [hk]
    rw [e]
    refine Ev.to _ (fun k => ?_) (ih (i + 1) (by omega))
    simp only [spec_poFits.l0]
    rw [if_pos (by omega), if_neg hk, hw]
 have := key s.data.toList.length 0 (by omega)
 simpa using this
theorem poFits_ev (kd p : Int) (s : ByteArray) (hs : s.size ≤ 1048576) : Ev (fun k => spec_poFits.f k kd p s) (fits kd p s) := by
 unfold spec_poFits.f spec_nuGood.f fits
 simp only [l1In_f, Option.bind_some]
 have no : ∀ (b : Bool), b = true → Ev (fun k => spec_poFits.j0 k s b kd p) false := by
  intro b hb
  refine Ev.succ ?_
  simp only [spec_poFits.j0]
  exact Ev.itet hb (Ev.now _)
 by_cases h1 : 0 ≤ kd ∧ kd ≤ 2
 ·have e1 : decide (0 ≤ kd ∧ kd ≤ 2) = true := decide_eq_true h1
  rw [e1]
  simp only [if_true, Option.bind_some, Bool.true_and]
  by_cases h2 : 1 ≤ p ∧ p ≤ 1000
  ·have e2 : decide (1 ≤ p ∧ p ≤ 1000) = true := decide_eq_true h2
   rw [e2]
   simp only [Bool.true_and]
   refine Ev.itet (by trivial) (Ev.bind (poGood_ev s hs) ?_)
   cases hd : deliv s
   ·exact Ev.itef (by simp) (no _ rfl)
   ·refine Ev.itet rfl ?_
    by_cases h3 : (s.size : Int) = p
    ·have e3 : ((s.size : Int) != p) = false := by simpa using h3
     have e4 : decide ((s.size : Int) = p) = true := decide_eq_true h3
     rw [e3, e4]
     simp only [Bool.true_and]
     refine Ev.succ ?_
     simp only [spec_poFits.j0]
     refine Ev.itef (by simp) ?_
     have e5 : decide (kd > 0) = decide (kd ≠ 0) := by apply decide_eq_decide.mpr; omega
     rw [e5]
     exact fits_l0 kd p s hs
    ·have e3 : ((s.size : Int) != p) = true := by simpa using h3
     have e4 : decide ((s.size : Int) = p) = false := decide_eq_false h3
     rw [e4]
     exact no _ e3
  ·have e2 : decide (1 ≤ p ∧ p ≤ 1000) = false := decide_eq_false h2
   rw [e2]
   exact Ev.itef (by simp) (no _ rfl)
 ·have e1 : decide (0 ≤ kd ∧ kd ≤ 2) = false := decide_eq_false h1
  rw [e1, Bool.false_and]
  simp only [Bool.false_eq_true, if_false]
  exact no _ rfl
theorem any_list : ∀ l : List UInt8, Lib.containsAny l [114, 98] = l.any sgnR
 | [] => by simp [Lib.containsAny, Lib.indexAny]
 | b :: l => by
  have ih := any_list l
  have ge := Lib.indexAny_ge [114, 98] l
  unfold Lib.containsAny at *
  rw [List.any_cons, ← ih, Lib.indexAny]
  have hc : ([114, 98] : List UInt8).contains b = sgnR b := by rw [Bool.eq_iff_iff]; simp [sgnR]
  rw [hc]
  cases sgnR b
  ·simp only [Bool.false_or]
   by_cases h : Lib.indexAny l [114, 98] = -1
   ·rw [h]; decide
   ·have h' : (Lib.indexAny l [114, 98] == -1) = false := by simpa using h
    rw [h', if_neg (by decide), if_neg (by decide)]
    exact decide_eq_decide.mpr (by omega)
  ·simp
theorem any_rb (s : ByteArray) (h : deliv s = true) (hs : s.size ≤ 60) : strings_ContainsAny.f s ⟨#[114, 98]⟩ = some (s.data.toList.any sgnR) := by
 have ha : strings_ContainsAny.ascii s = true := by
  unfold strings_ContainsAny.ascii
  rw [List.all_eq_true]
  intro b hb
  have := deliv_mem h b hb
  simp only [sgn, Bool.or_eq_true, beq_iff_eq] at this
  rcases this with rfl | rfl | rfl | rfl <;> decide
 unfold strings_ContainsAny.f
 rw [if_pos ⟨by omega, by decide, ha, by decide⟩]
 congr 1
 exact any_list s.data.toList
theorem isStreetText_ev (kd p : Int) (s : ByteArray) (hs : s.size ≤ 1048576) : Ev (fun k => impl_isStreetText.f k kd p s) (fits kd p s) := by
 unfold impl_isStreetText.f impl_IsStreet.f fits
 simp only [within_f, Option.bind_some]
 by_cases h1 : 0 ≤ kd ∧ kd ≤ 2
 ·have e1 : decide (0 ≤ kd ∧ kd ≤ 2) = true := decide_eq_true h1
  rw [e1]
  simp only [if_true, Option.bind_some, Bool.true_and]
  cases e2 : decide (1 ≤ p ∧ p ≤ 1000)
  ·exact Ev.itef (by simp) (Ev.now _)
  ·refine Ev.itet rfl (Ev.bind (AreDeliveries_ev s hs) ?_)
   cases hd : deliv s
   ·exact Ev.itef (by simp) (Ev.now _)
   ·refine Ev.itet rfl ?_
    by_cases h3 : (s.size : Int) = p
    ·have e4 : decide ((s.size : Int) = p) = true := decide_eq_true h3
     rw [e4]
     simp only [Bool.true_and]
     refine Ev.itet h3.symm ?_
     by_cases hk : kd > 0
     ·rw [decide_eq_true hk]
      exact Ev.itet hk (Ev.now _)
     ·rw [decide_eq_false hk]
      refine Ev.itef hk ?_
      rw [any_rb s hd (deliv_len hd).2, Option.bind_some]
      exact Ev.now _
    ·have e4 : decide ((s.size : Int) = p) = false := decide_eq_false h3
     rw [e4]
     exact Ev.itef (fun e => h3 e.symm) (Ev.now _)
 ·have e1 : decide (0 ≤ kd ∧ kd ≤ 2) = false := decide_eq_false h1
  rw [e1, Bool.false_and]
  simp only [Bool.false_eq_true, if_false]
  exact Ev.now _
theorem num_eq (k p o j : Int) : spec_nuNumber.f k p o j = some (impl_routeNumbers.num k p o j) := by
 have h := impl_routeNumbers.num_f k p o j
 rw [← h]
 unfold spec_nuNumber.f impl_numberAt.f
 rfl
theorem houses_step (s : ByteArray) (kd p : Int) (j i : Nat) (own : List Int) (acc : List Int) (o : Int) (hj : j < s.size) (hi : i < own.length) (ho : rd own (i : Int) = o) (h01 : o = 0 ∨ o = 1) (ha : acc.length < 17592186044416) (hl : own.length = 2) {r : List Int}
  (h : Ev (fun k => spec_poHouses.l0 k s (j : Int) (impl_routeNumbers.one kd p (bt s j) j o acc) own (own.length : Int) ((i + 1 : Nat) : Int) kd p) r) :
  Ev (fun k => spec_poHouses.l0 k s (j : Int) acc own (own.length : Int) (i : Int) kd p) r := by
 refine Ev.to _ (fun k => ?_) h
 have hw : wrap64 ((i : Int) + 1) = ((i + 1 : Nat) : Int) := by rw [w64 (by omega) (by omega)]; rfl
 simp only [spec_poHouses.l0]
 rw [if_pos (by omega), if_pos (by omega), if_pos (by omega), if_pos (by omega), if_pos (by omega), ho, num_eq, hw]
 simp only [Option.bind_some, if_pos ha]
 unfold impl_routeNumbers.one impl_routeNumbers.lr
 by_cases h98 : bt s j = 98
 ·rw [if_pos h98, if_pos (Or.inl h98)]
 rw [if_neg h98]
 rcases h01 with rfl | rfl
 ·by_cases h108 : bt s j = 108
  ·rw [if_pos h108, if_pos rfl, if_pos (Or.inr (by rw [if_pos rfl]; exact h108))]
  ·rw [if_neg h108, if_neg (show ¬ (bt s j = 98 ∨ bt s j = if (0 : Int) = 0 then 108 else 114) by rw [if_pos rfl]; rintro (e | e) <;> contradiction)]
   by_cases h114 : bt s j = 114
   ·rw [if_pos h114, if_neg (by decide)]
   ·rw [if_neg h114]
 ·by_cases h114 : bt s j = 114
  ·have h108 : ¬ bt s j = 108 := by rw [h114]; decide
   rw [if_neg h108, if_pos h114, if_pos rfl, if_pos (Or.inr (by rw [if_neg (by decide)]; exact h114))]
  ·rw [if_neg (show ¬ (bt s j = 98 ∨ bt s j = if (1 : Int) = 0 then 108 else 114) by rw [if_neg (by decide)]; rintro (e | e) <;> contradiction)]
   by_cases h108 : bt s j = 108
   ·rw [if_pos h108, if_neg (by decide), if_neg h114]
   ·rw [if_neg h108, if_neg h114]
def hs (s : ByteArray) (kd p : Int) (j : Nat) (c : Int) (acc : List Int) : List Int := impl_routeNumbers.one kd p (bt s j) j (1 - c) (impl_routeNumbers.one kd p (bt s j) j c acc)
theorem houses_ev (s : ByteArray) (kd p : Int) (j : Nat) (c : Int) (hj : j < s.size) (hc : c = 0 ∨ c = 1) : Ev (fun k => spec_poHouses.f k kd p s (j : Int) c) (hs s kd p j c []) := by
 unfold spec_poHouses.f
 simp only [Option.bind_some]
 have hw : wrap64 (1 - c) = 1 - c := w64 (by omega) (by omega)
 rw [hw]
 have h1 := impl_routeNumbers.one_len kd p (bt s j) j c []
 refine houses_step s kd p j 0 [c, 1 - c] [] c hj (by simp) rfl hc (by simp) rfl ?_
 refine houses_step s kd p j 1 [c, 1 - c] _ (1 - c) hj (by simp) rfl (by omega) (by simp at h1; omega) rfl ?_
 exact Ev.stop fun k => by simp only [spec_poHouses.l0]; rw [if_neg (by simp)]; rfl
theorem one_app (kd p b j o : Int) (acc : List Int) : impl_routeNumbers.one kd p b j o acc = acc ++ impl_routeNumbers.one kd p b j o [] := by
 unfold impl_routeNumbers.one
 split
 ·rfl
 ·simp
theorem hs_app (s : ByteArray) (kd p : Int) (j : Nat) (c : Int) (acc : List Int) : acc ++ hs s kd p j c [] = hs s kd p j c acc := by
 unfold hs
 rw [one_app _ _ _ _ _ (impl_routeNumbers.one kd p (bt s j) j c acc), one_app _ _ _ _ _ (impl_routeNumbers.one kd p (bt s j) j c []), one_app _ _ _ _ c acc, List.append_assoc]
def ins : List Int → Int → List Int
 | [], n => [n]
 | x :: xs, n => if x < n then x :: ins xs n else if x = n then x :: xs else n :: x :: xs
theorem ins_mem : ∀ (l : List Int) (n y : Int), y ∈ ins l n ↔ y = n ∨ y ∈ l
 | [], n, y => by simp [ins]
 | x :: xs, n, y => by
  unfold ins
  split
  ·rw [List.mem_cons, ins_mem xs n y, List.mem_cons]
   constructor
   ·rintro (h | h | h)
    ·exact .inr (.inl h)
    ·exact .inl h
    ·exact .inr (.inr h)
   ·rintro (h | h | h)
    ·exact .inr (.inl h)
    ·exact .inl h
    ·exact .inr (.inr h)
  ·split
   ·rename_i h
    subst h
    simp
   ·simp
theorem ins_rise : ∀ (l : List Int) (n : Int), l.Pairwise (· < ·) → (ins l n).Pairwise (· < ·)
 | [], n, _ => List.pairwise_singleton _ _
 | x :: xs, n, h => by
  obtain ⟨h1, h2⟩ := List.pairwise_cons.1 h
  unfold ins
  split
  ·refine List.pairwise_cons.2 ⟨fun y hy => ?_, ins_rise xs n h2⟩
   rcases (ins_mem xs n y).1 hy with rfl | hy
   ·assumption
   ·exact h1 y hy
  ·split
   ·exact h
   ·refine List.pairwise_cons.2 ⟨fun y hy => ?_, h⟩
    rcases List.mem_cons.1 hy with rfl | hy
    ·omega
    ·have := h1 y hy; omega
theorem ins_len : ∀ (l : List Int) (n : Int), (ins l n).length ≤ l.length + 1
 | [], n => Nat.le_refl _
 | x :: xs, n => by
  unfold ins
  have := ins_len xs n
  split
  ·simp; omega
  ·split <;> simp
theorem foldl_ins : ∀ (hs out : List Int), out.Pairwise (· < ·) → (hs.foldl ins out).Pairwise (· < ·) ∧ (∀ y, y ∈ hs.foldl ins out ↔ y ∈ out ∨ y ∈ hs) ∧ (hs.foldl ins out).length ≤ out.length + hs.length
 | [], out, h => ⟨h, by simp, by simp⟩
 | n :: hs, out, h => by
  obtain ⟨h1, h2, h3⟩ := foldl_ins hs (ins out n) (ins_rise out n h)
  have h4 := ins_len out n
  refine ⟨h1, fun y => ?_, ?_⟩
  ·rw [List.foldl_cons, h2, ins_mem, List.mem_cons]
   constructor
   ·rintro ((h | h) | h)
    ·exact .inr (.inl h)
    ·exact .inl h
    ·exact .inr (.inr h)
   ·rintro (h | h | h)
    ·exact .inl (.inr h)
    ·exact .inl (.inl h)
    ·exact .inr h
  ·simp only [List.foldl_cons, List.length_cons]; omega
theorem rise_nodup {l : List Int} (h : l.Pairwise (· < ·)) : l.Nodup := h.imp (fun h e => by omega)
theorem rise_ext {l m : List Int} (hl : l.Pairwise (· < ·)) (hm : m.Pairwise (· < ·)) (h : ∀ y, y ∈ l ↔ y ∈ m) : l = m :=
 List.Perm.eq_of_pairwise (le := fun x y => x < y) (fun a b _ _ h1 h2 => by omega) hl hm ((List.perm_ext_iff_of_nodup (rise_nodup hl) (rise_nodup hm)).2 h)
theorem l1Put_ev (l : List Int) (hl : l.length ≤ 1048576) (n : Int) : Ev (fun k => spec_l1Put.f k l n) (ins l n) := by
 unfold spec_l1Put.f
 have key : ∀ (d i : Nat), i + d = l.length → Ev (fun k => spec_l1Put.l0 k l n (i : Int)) (l.take i ++ ins (l.drop i) n) := by
  intro d
  induction d with
  | zero =>
   intro i hi
   refine Ev.succ ?_
   simp only [spec_l1Put.l0, Option.bind_some]
   rw [List.drop_eq_nil_of_le (by omega), Int.toNat_natCast, List.drop_eq_nil_of_le (by omega)]
   refine Ev.itef (by omega) (Ev.itet (by omega) (Ev.itet (by omega) (Ev.itet (by simp; omega) (Ev.itet (by simp; omega) (Ev.itet (by simp; omega) ?_)))))
   simpa [ins] using Ev.now (l.take i ++ [n])
  | succ d ih =>
   intro i hi
   have hlt : i < l.length := by omega
   have ih := ih (i + 1) (by omega)
   have hw : wrap64 ((i : Int) + 1) = ((i + 1 : Nat) : Int) := by rw [w64 (by omega) (by omega)]; rfl
   refine Ev.succ ?_
   simp only [spec_l1Put.l0, Option.bind_some]
   rw [rd_get l i hlt, hw, Int.toNat_natCast]
   refine Ev.itet (by omega) (Ev.itet (by omega) ?_)
   rw [List.drop_eq_getElem_cons hlt]
   unfold ins
   by_cases h1 : l[i] < n
   ·rw [if_pos h1]
    refine Ev.itet h1 ?_
    have e : l.take (i + 1) ++ ins (l.drop (i + 1)) n = l.take i ++ l[i] :: ins (l.drop (i + 1)) n := by rw [List.take_succ_eq_append_getElem hlt, List.append_assoc]; rfl
    rw [e] at ih
    exact ih
   ·rw [if_neg h1]
    refine Ev.itef h1 ?_
    have e0 : l.take i ++ l[i] :: l.drop (i + 1) = l := by rw [← List.drop_eq_getElem_cons hlt]; exact List.take_append_drop i l
    by_cases h2 : l[i] = n
    ·refine Ev.itet h2 ?_
     rw [if_pos h2, e0]
     exact Ev.now _
    ·refine Ev.itef h2 ?_
     rw [if_neg h2]
     refine (Ev.itet (by omega) (Ev.itet (by simp; omega) (Ev.itet (by simp; omega) (Ev.itet (by simp; omega) ?_))))
     have e : [] ++ l.take i ++ [n] ++ (l[i] :: l.drop (i + 1)) = l.take i ++ n :: l[i] :: l.drop (i + 1) := by simp
     rw [e]
     exact Ev.now _
 have := key l.length 0 (by omega)
 simpa using this
theorem num_val (kd p o j : Int) (hp : 1 ≤ p ∧ p ≤ 1000) (hj : 0 ≤ j ∧ j < p) (ho : o = 0 ∨ o = 1) : impl_routeNumbers.num kd p o j = if kd = 1 then 2 * j + 1 + o else if o = 1 then 2 * p - j else j + 1 := by
 unfold impl_routeNumbers.num impl_numberAt.f
 rw [w64 (x := 2 * j) (by omega) (by omega), w64 (x := 2 * j + 1) (by omega) (by omega), w64 (x := 2 * j + 1 + o) (by omega) (by omega), w64 (x := 2 * p) (by omega) (by omega), w64 (x := 2 * p - j) (by omega) (by omega), w64 (x := j + 1) (by omega) (by omega)]
 split
 ·rfl
 ·split <;> rfl
theorem num_inj (kd p : Int) (hp : 1 ≤ p ∧ p ≤ 1000) (o j o' j' : Int) (hj : 0 ≤ j ∧ j < p) (ho : o = 0 ∨ o = 1) (hj' : 0 ≤ j' ∧ j' < p) (ho' : o' = 0 ∨ o' = 1) (h : impl_routeNumbers.num kd p o j = impl_routeNumbers.num kd p o' j') : o = o' ∧ j = j' := by
 rw [num_val kd p o j hp hj ho, num_val kd p o' j' hp hj' ho'] at h
 split at h
 ·omega
 ·split at h <;> split at h <;> omega
def A (kd p : Int) (s : ByteArray) (m : Nat) : List Int := impl_routeNumbers.acc kd p s (List.replicate s.size 0) m
theorem side0 (n : Nat) : ∀ j, j ≤ n → impl_routeNumbers.side (List.replicate n 0) j = 0
 | 0, _ => rfl
 | j + 1, h => by
  show rd (List.replicate n 0) (j : Int) = 0
  rw [rd_get _ _ (by simp; omega)]
  simp
theorem A_succ (kd p : Int) (s : ByteArray) (m : Nat) (hm : m ≤ s.size) : A kd p s (m + 1) = A kd p s m ++ hs s kd p m 0 [] := by
 rw [hs_app]
 unfold A hs
 rw [impl_routeNumbers.acc, side0 s.size m hm]
theorem one_mem (kd p b j o x : Int) (acc : List Int) : x ∈ impl_routeNumbers.one kd p b j o acc ↔ x ∈ acc ∨ ((b = 98 ∨ b = impl_routeNumbers.lr o) ∧ x = impl_routeNumbers.num kd p o j) := by
 unfold impl_routeNumbers.one
 split
 ·rename_i h
  simp [h]
 ·rename_i h
  simp [h]
theorem A_mem (kd p : Int) (s : ByteArray) (x : Int) : ∀ m, m ≤ s.size → (x ∈ A kd p s m ↔ ∃ j : Nat, ∃ o : Int, j < m ∧ (o = 0 ∨ o = 1) ∧ (bt s j = 98 ∨ bt s j = impl_routeNumbers.lr o) ∧ x = impl_routeNumbers.num kd p o j)
 | 0, _ => by simp [A, impl_routeNumbers.acc]
 | m + 1, hm => by
  have ih := A_mem kd p s x m (by omega)
  rw [A_succ kd p s m (by omega), hs_app]
  unfold hs
  rw [one_mem, one_mem, ih]
  constructor
  ·rintro ((⟨j, o, h1, h2, h3, h4⟩ | ⟨h3, h4⟩) | ⟨h3, h4⟩)
   ·exact ⟨j, o, by omega, h2, h3, h4⟩
   ·exact ⟨m, 0, by omega, .inl rfl, h3, h4⟩
   ·exact ⟨m, 1, by omega, .inr rfl, h3, h4⟩
  ·rintro ⟨j, o, h1, h2, h3, h4⟩
   rcases Nat.lt_or_eq_of_le (Nat.le_of_lt_succ h1) with h | rfl
   ·exact .inl (.inl ⟨j, o, h, h2, h3, h4⟩)
   ·rcases h2 with rfl | rfl
    ·exact .inl (.inr ⟨h3, h4⟩)
    ·exact .inr ⟨h3, h4⟩
theorem one_nodup {kd p b j o : Int} {acc : List Int} (h : acc.Nodup) (hn : impl_routeNumbers.num kd p o j ∉ acc) : (impl_routeNumbers.one kd p b j o acc).Nodup := by
 unfold impl_routeNumbers.one
 split
 ·exact List.nodup_append.2 ⟨h, by simp, fun x hx y hy e => hn (by simp at hy; subst hy; subst e; exact hx)⟩
 ·exact h
theorem A_nodup (kd p : Int) (s : ByteArray) (hp : (s.size : Int) = p) (hs60 : 1 ≤ s.size ∧ s.size ≤ 60) : ∀ m, m ≤ s.size → (A kd p s m).Nodup
 | 0, _ => by simp [A, impl_routeNumbers.acc]
 | m + 1, hm => by
  have ih := A_nodup kd p s hp hs60 m (by omega)
  rw [A_succ kd p s m (by omega), hs_app]
  unfold hs
  have no : ∀ o : Int, (o = 0 ∨ o = 1) → impl_routeNumbers.num kd p o m ∉ A kd p s m := by
   intro o ho hx
   obtain ⟨j, o', h1, h2, _, h4⟩ := (A_mem kd p s _ m (by omega)).1 hx
   have := num_inj kd p (by omega) o m o' j (by omega) ho (by omega) h2 h4
   omega
  refine one_nodup (one_nodup ih (no 0 (.inl rfl))) ?_
  rw [one_mem]
  rintro (h | ⟨_, h⟩)
  ·exact no _ (.inr rfl) h
  ·have := num_inj kd p (by omega) _ m 0 m (by omega) (.inr rfl) (by omega) (.inl rfl) h
   omega
theorem A_len (kd p : Int) (s : ByteArray) (m : Nat) : (A kd p s m).length ≤ 2 * m := impl_routeNumbers.acc_len _ _ _ _ _
def R (kd p : Int) (s : ByteArray) : List Int := impl_NumbersOf.sorted (A kd p s s.size)
theorem R_perm (kd p : Int) (s : ByteArray) : (R kd p s).Perm (A kd p s s.size) := List.mergeSort_perm _ _
theorem R_len (kd p : Int) (s : ByteArray) : (R kd p s).length ≤ 2 * s.size := by rw [(R_perm kd p s).length_eq]; exact A_len kd p s s.size
theorem R_rise (kd p : Int) (s : ByteArray) (hp : (s.size : Int) = p) (hs60 : 1 ≤ s.size ∧ s.size ≤ 60) : (R kd p s).Pairwise (· < ·) := by
 have h1 : (R kd p s).Pairwise (· ≤ ·) := by
  have := List.pairwise_mergeSort (le := fun x y : Int => decide (x ≤ y)) (fun a b c h1 h2 => by simp only [decide_eq_true_eq] at *; omega) (fun a b => by simp only [Bool.or_eq_true, decide_eq_true_eq]; omega) (A kd p s s.size)
  exact this.imp (fun h => by simpa using h)
 have h2 : (R kd p s).Nodup := (R_perm kd p s).symm.nodup (A_nodup kd p s hp hs60 _ (Nat.le_refl _))
 exact List.Pairwise.imp₂ (fun a b (h1 : a ≤ b) (h2 : a ≠ b) => by omega) h1 h2
theorem R_mem (kd p : Int) (s : ByteArray) (x : Int) : x ∈ R kd p s ↔ x ∈ A kd p s s.size := (R_perm kd p s).mem_iff
theorem puts_ev : ∀ (hs out : List Int), out.length + hs.length ≤ 1048576 → Ev (fun k => spec_NumbersOf.puts k out hs) (hs.foldl ins out)
 | [], out, _ => Ev.now _
 | n :: hs, out, h => by
  have hi := ins_len out n
  simp only [List.length_cons] at h
  simp only [spec_NumbersOf.puts]
  exact Ev.bind (l1Put_ev out (by omega) n) (puts_ev hs (ins out n) (by omega))
theorem hs_len (s : ByteArray) (kd p : Int) (j : Nat) : (hs s kd p j 0 []).length ≤ 2 := by
 have h1 := impl_routeNumbers.one_len kd p (bt s j) j 0 []
 have h2 := impl_routeNumbers.one_len kd p (bt s j) j (1 - 0) (impl_routeNumbers.one kd p (bt s j) j 0 [])
 unfold hs
 simp only [List.length_nil] at h1
 omega
theorem rows_ev (kd p : Int) (s : ByteArray) (hs60 : s.size ≤ 60) : ∀ m, m ≤ s.size → Ev (fun k => spec_NumbersOf.rows k kd p s m) ((A kd p s m).foldl ins [])
 | 0, _ => Ev.now _
 | m + 1, hm => by
  have ih := rows_ev kd p s hs60 m (by omega)
  have hl := hs_len s kd p m
  have hA := A_len kd p s m
  have hf := (foldl_ins (A kd p s m) [] List.Pairwise.nil).2.2
  simp only [List.length_nil] at hf
  rw [A_succ kd p s m (by omega), List.foldl_append]
  simp only [spec_NumbersOf.rows]
  exact Ev.bind ih (Ev.bind (houses_ev s kd p m 0 (by omega) (.inl rfl)) (Ev.itet (by omega) (puts_ev _ _ (by omega))))
theorem fold_R (kd p : Int) (s : ByteArray) (hp : (s.size : Int) = p) (hs60 : 1 ≤ s.size ∧ s.size ≤ 60) : (A kd p s s.size).foldl ins [] = R kd p s := by
 obtain ⟨h1, h2, _⟩ := foldl_ins (A kd p s s.size) [] List.Pairwise.nil
 exact rise_ext h1 (R_rise kd p s hp hs60) (fun y => by rw [h2, R_mem]; simp)
theorem fits_size {kd p : Int} {s : ByteArray} (h : fits kd p s = true) : (s.size : Int) = p := by
 simp only [fits, Bool.and_eq_true, decide_eq_true_eq] at h
 exact h.2.2.2.1
def resN (kd p : Int) (s : ByteArray) : List Int × Bool := if fits kd p s then (R kd p s, true) else ([], false)
theorem specN_ev (kd p : Int) (s : ByteArray) (hs : s.size ≤ 1048576) : Ev (fun k => spec_NumbersOf.f k kd p s) (resN kd p s) := by
 unfold spec_NumbersOf.f resN
 refine Ev.bind (poFits_ev kd p s hs) ?_
 cases hd : fits kd p s
 ·exact Ev.itef (by simp) (Ev.now _)
 ·have h60 := fits_len hd
  have ha : spec_NumbersOf.ascii s = true := by
   unfold spec_NumbersOf.ascii
   rw [List.all_eq_true]
   intro b hb
   have := deliv_mem (fits_deliv hd) b hb
   simp only [sgn, Bool.or_eq_true, beq_iff_eq] at this
   rcases this with rfl | rfl | rfl | rfl <;> decide
  have hr := rows_ev kd p s h60.2 s.size (Nat.le_refl _)
  rw [fold_R kd p s (fits_size hd) h60] at hr
  exact Ev.itet rfl (Ev.itet ha (Ev.bind hr (Ev.now _)))
theorem implN_ev (kd p : Int) (s : ByteArray) (hs : s.size ≤ 1048576) : Ev (fun k => impl_NumbersOf.f k kd p s) (resN kd p s) := by
 unfold impl_NumbersOf.f resN
 refine Ev.bind (isStreetText_ev kd p s hs) ?_
 cases hd : fits kd p s
 ·exact Ev.itef (by simp) (Ev.now _)
 ·have e : impl_routeNumbers.f kd p s (List.replicate s.size 0) = some (A kd p s s.size) := by
   unfold impl_routeNumbers.f A
   rw [if_pos ⟨hs, List.length_replicate .., by rw [List.all_eq_true]; intro x hx; have := List.eq_of_mem_replicate hx; subst this; rfl⟩]
  refine Ev.itet rfl (Ev.itet hs ?_)
  rw [e, Option.bind_some]
  exact Ev.now _
theorem resN_len (kd p : Int) (s : ByteArray) (hs : s.size ≤ 1048576) : (resN kd p s).1.length ≤ 1048576 := by
 unfold resN
 cases hd : fits kd p s
 ·simp
 ·have h60 := fits_len hd
  have := R_len kd p s
  simp only [if_true]
  omega
theorem nums_l0 (s : ByteArray) (kd p : Int) (l : List Int) (hs60 : s.size ≤ 60) (hl : l.length = s.size) (h01 : (l.all fun x => decide (0 ≤ x ∧ x ≤ 1)) = true) : ∀ (d j : Nat), j + d = s.size → Ev (fun k => spec_RouteNumbers.l0 k s (impl_routeNumbers.acc kd p s l j) (impl_routeNumbers.side l j) l (l.length : Int) (j : Int) kd p) (impl_routeNumbers.acc kd p s l s.size, true) := by
 intro d
 induction d with
 | zero =>
  intro j hj
  obtain rfl : j = s.size := by omega
  exact Ev.stop fun k => by simp only [spec_RouteNumbers.l0]; rw [if_neg (by omega)]
 | succ d ih =>
  intro j hj
  have hc := impl_routeNumbers.side_01 h01 j (by omega)
  have hl1 := impl_routeNumbers.acc_len kd p s l j
  have hl2 : (hs s kd p j (impl_routeNumbers.side l j) []).length ≤ 2 := by
   have h1 := impl_routeNumbers.one_len kd p (bt s j) j (impl_routeNumbers.side l j) []
   have h2 := impl_routeNumbers.one_len kd p (bt s j) j (1 - impl_routeNumbers.side l j) (impl_routeNumbers.one kd p (bt s j) j (impl_routeNumbers.side l j) [])
   unfold hs
   simp only [List.length_nil] at h1
   omega
  have hw : wrap64 ((j : Int) + 1) = ((j + 1 : Nat) : Int) := by rw [w64 (by omega) (by omega)]; rfl
  refine Ev.succ ?_
  simp only [spec_RouteNumbers.l0]
  refine Ev.itet (by omega) (Ev.itet (by omega) (Ev.itet (by omega) (Ev.bind (houses_ev s kd p j _ (by omega) hc) (Ev.itet (by omega) ?_))))
  rw [hs_app, hw]
  exact ih (j + 1) (by omega)
def resO (kd p : Int) (s : ByteArray) (a : Int) : List Int × Bool := if fits kd p s && decide (0 ≤ a ∧ a ≤ 2) then (impl_routeNumbers.acc kd p s (impl_bestRoute.sides s a s.size) s.size, true) else ([], false)
theorem sides_01 (s : ByteArray) (a : Int) (n : Nat) : ((impl_bestRoute.sides s a n).all fun x => decide (0 ≤ x ∧ x ≤ 1)) = true := by
 rw [List.all_eq_true]
 intro x hx
 unfold impl_bestRoute.sides at hx
 obtain ⟨j, _, rfl⟩ := List.mem_map.1 hx
 have := impl_bestRoute.come_lt s a (j + 1)
 simp only [decide_eq_true_eq]
 omega
theorem specO_ev (kd p : Int) (s : ByteArray) (a : Int) (hs : s.size ≤ 1048576) : Ev (fun k => spec_RouteNumbers.f k kd p s a) (resO kd p s a) := by
 unfold spec_RouteNumbers.f resO
 refine Ev.bind (poFits_ev kd p s hs) ?_
 cases hd : fits kd p s
 ·refine Ev.itef (by simp) (Ev.succ ?_)
  simp only [spec_RouteNumbers.j0]
  exact Ev.itet (by trivial) (Ev.now _)
 ·refine Ev.itet rfl ?_
  have h60 := fits_len hd
  simp only [l1In_f, Option.bind_some]
  cases ha : decide (0 ≤ a ∧ a ≤ 2)
  ·refine Ev.succ ?_
   simp only [spec_RouteNumbers.j0]
   exact Ev.itet (by trivial) (Ev.now _)
  ·refine Ev.succ ?_
   simp only [spec_RouteNumbers.j0]
   have ha' : 0 ≤ a ∧ a ≤ 2 := by simpa using ha
   have e := nums_l0 s kd p (impl_bestRoute.sides s a s.size) h60.2 (sides_len s a s.size) (sides_01 s a s.size) s.size 0 (by omega)
   exact Ev.itef (by simp) (Ev.bind (poSides_ev s a h60.2 ha') e)
theorem implO_ev (kd p : Int) (s : ByteArray) (a : Int) (hs : s.size ≤ 1048576) : Ev (fun k => impl_RouteNumbers.f k kd p s a) (resO kd p s a) := by
 unfold impl_RouteNumbers.f resO
 refine Ev.bind (isStreetText_ev kd p s hs) ?_
 cases hd : fits kd p s
 ·refine Ev.itef (by simp) (Ev.succ ?_)
  simp only [impl_RouteNumbers.j0]
  exact Ev.itet (by trivial) (Ev.now _)
 ·have h60 := fits_len hd
  have hdl := fits_deliv hd
  refine Ev.itet rfl (Ev.bind (isDelivered_ev s a hs) ?_)
  unfold asked
  rw [hdl]
  cases ha : decide (0 ≤ a ∧ a ≤ 2)
  ·refine Ev.succ ?_
   simp only [impl_RouteNumbers.j0]
   exact Ev.itet (by trivial) (Ev.now _)
  ·refine Ev.succ ?_
   simp only [impl_RouteNumbers.j0]
   have e : impl_routeNumbers.f kd p s (impl_bestRoute.sides s a s.size) = some (impl_routeNumbers.acc kd p s (impl_bestRoute.sides s a s.size) s.size) := by
    unfold impl_routeNumbers.f
    rw [if_pos ⟨hs, sides_len s a s.size, sides_01 s a s.size⟩]
   exact Ev.itef (by simp) (by rw [best_f s a h60.2, Option.bind_some, e, Option.bind_some]; exact Ev.now _)
theorem resO_len (kd p : Int) (s : ByteArray) (a : Int) : (resO kd p s a).1.length ≤ 1048576 := by
 unfold resO
 cases hd : fits kd p s && decide (0 ≤ a ∧ a ≤ 2)
 ·simp
 ·rw [Bool.and_eq_true] at hd
  have h60 := fits_len hd.1
  have := impl_routeNumbers.acc_len kd p s (impl_bestRoute.sides s a s.size) s.size
  simp only [if_true]
  omega
theorem increasing_l0 (bs : List Int) (hl : bs.length ≤ 1048576) : ∀ (d i : Nat), i + d = bs.length ∨ (bs.length < i ∧ d = 0) → 1 ≤ i → ∃ b, Ev (fun k => impl_increasing.l0 k bs (i : Int)) b ∧ (b = true ↔ ∀ j, i ≤ j → j < bs.length → bs.getD (j - 1) 0 < bs.getD j 0) := by
 intro d
 induction d with
 | zero =>
  intro i hi h1
  refine ⟨true, Ev.stop fun k => by simp only [impl_increasing.l0]; rw [if_neg (by omega)], ?_⟩
  simp only [true_iff]
  intro j h2 h3
  omega
 | succ d ih =>
  intro i hi h1
  have hlt : i < bs.length := by omega
  have e1 : rd bs (wrap64 ((i : Int) - 1)) = bs.getD (i - 1) 0 := by
   rw [w64 (by omega) (by omega), show (i : Int) - 1 = ((i - 1 : Nat) : Int) by omega]
   unfold rd; simp
  have e2 : rd bs (i : Int) = bs.getD i 0 := by unfold rd; simp
  have ew : wrap64 ((i : Int) - 1) = (i : Int) - 1 := w64 (by omega) (by omega)
  by_cases hc : bs.getD (i - 1) 0 ≥ bs.getD i 0
  ·refine ⟨false, Ev.stop fun k => ?_, ?_⟩
   ·simp only [impl_increasing.l0, e1, e2]
    rw [if_pos (by omega), if_pos (by omega), if_pos (by omega), if_pos (by omega), if_pos hc]
   ·simp only [Bool.false_eq_true, false_iff]
    intro h
    have := h i (Nat.le_refl _) hlt
    omega
  ·obtain ⟨b, hb, hiff⟩ := ih (i + 1) (by omega) (by omega)
   refine ⟨b, Ev.to _ (fun k => ?_) hb, ?_⟩
   ·simp only [impl_increasing.l0, e1, e2]
    rw [if_pos (by omega), if_pos (by omega), if_pos (by omega), if_pos (by omega), if_neg hc, w64 (x := (i : Int) + 1) (by omega) (by omega)]
    rfl
   ·rw [hiff]
    constructor
    ·intro h j h2 h3
     rcases Nat.eq_or_lt_of_le h2 with rfl | h4
     ·omega
     ·exact h j h4 h3
    ·intro h j h2 h3
     exact h j (by omega) h3
theorem increasing_ev (bs : List Int) (hl : bs.length ≤ 1048576) : ∃ b, Ev (fun k => impl_increasing.f k bs) b ∧ (b = true ↔ ∀ j, 1 ≤ j → j < bs.length → bs.getD (j - 1) 0 < bs.getD j 0) := by
 rcases Nat.lt_or_ge bs.length 1 with h | h
 ·exact increasing_l0 bs hl 0 1 (by omega) (by omega)
 ·exact increasing_l0 bs hl (bs.length - 1) 1 (by omega) (by omega)
theorem rising_l0 (bs : List Int) (hl : bs.length ≤ 1048576) (lo hi : Int) : ∀ (d i : Nat), i + d = bs.length → ∃ b, Ev (fun k => spec_l1Rising.l0 k bs lo hi bs (bs.length : Int) (i : Int)) b ∧
  (b = true ↔ ∀ j, i ≤ j → j < bs.length → (lo ≤ bs.getD j 0 ∧ bs.getD j 0 ≤ hi) ∧ (0 < j → bs.getD (j - 1) 0 < bs.getD j 0)) := by
 intro d
 induction d with
 | zero =>
  intro i hi
  refine ⟨true, Ev.stop fun k => by simp only [spec_l1Rising.l0]; rw [if_neg (by omega)], ?_⟩
  simp only [true_iff]
  intro j h2 h3
  omega
 | succ d ih =>
  intro i hi'
  have hlt : i < bs.length := by omega
  have e2 : rd bs (i : Int) = bs.getD i 0 := by unfold rd; simp
  by_cases hr : lo ≤ bs.getD i 0 ∧ bs.getD i 0 ≤ hi
  ·by_cases hc : 0 < i ∧ bs.getD (i - 1) 0 ≥ bs.getD i 0
   ·refine ⟨false, Ev.stop fun k => ?_, ?_⟩
    ·have e1 : rd bs (wrap64 ((i : Int) - 1)) = bs.getD (i - 1) 0 := by
      rw [w64 (by omega) (by omega), show (i : Int) - 1 = ((i - 1 : Nat) : Int) by omega]
      unfold rd; simp
     have ew : wrap64 ((i : Int) - 1) = (i : Int) - 1 := w64 (by omega) (by omega)
     simp only [spec_l1Rising.l0, e1, e2, l1In_f, Option.bind_some]
     rw [if_pos (by omega), if_pos (by omega), if_pos (by omega), decide_eq_true hr, if_pos rfl, if_pos (by omega), if_pos (by omega), if_pos (by omega), if_pos hc.2]
    ·simp only [Bool.false_eq_true, false_iff]
     intro h
     have := (h i (Nat.le_refl _) hlt).2 hc.1
     omega
   ·obtain ⟨b, hb, hiff⟩ := ih (i + 1) (by omega)
    refine ⟨b, Ev.to _ (fun k => ?_) hb, ?_⟩
    ·simp only [spec_l1Rising.l0, e2, l1In_f, Option.bind_some]
     rw [if_pos (by omega), if_pos (by omega), if_pos (by omega), decide_eq_true hr, if_pos rfl]
     by_cases hi0 : 0 < i
     ·have e1 : rd bs (wrap64 ((i : Int) - 1)) = bs.getD (i - 1) 0 := by
       rw [w64 (by omega) (by omega), show (i : Int) - 1 = ((i - 1 : Nat) : Int) by omega]
       unfold rd; simp
      have ew : wrap64 ((i : Int) - 1) = (i : Int) - 1 := w64 (by omega) (by omega)
      rw [if_pos (by omega), if_pos (by omega), if_pos (by omega), e1, if_neg (fun h => hc ⟨hi0, h⟩), w64 (x := (i : Int) + 1) (by omega) (by omega)]
      rfl
     ·rw [if_neg (by omega), w64 (x := (i : Int) + 1) (by omega) (by omega)]
      rfl
    ·rw [hiff]
     constructor
     ·intro h j h2 h3
      rcases Nat.eq_or_lt_of_le h2 with rfl | h4
      ·exact ⟨hr, fun h0 => by omega⟩
      ·exact h j h4 h3
     ·intro h j h2 h3
      exact h j (by omega) h3
  ·refine ⟨false, Ev.stop fun k => ?_, ?_⟩
   ·simp only [spec_l1Rising.l0, e2, l1In_f, Option.bind_some]
    rw [if_pos (by omega), if_pos (by omega), if_pos (by omega), decide_eq_false hr]; rfl
   ·simp only [Bool.false_eq_true, false_iff]
    intro h
    exact hr (h i (Nat.le_refl _) hlt).1
theorem rising_ev (bs : List Int) (hl : bs.length ≤ 1048576) (lo hi : Int) : ∃ b, Ev (fun k => spec_l1Rising.f k bs lo hi) b ∧
  (b = true ↔ ∀ j, j < bs.length → (lo ≤ bs.getD j 0 ∧ bs.getD j 0 ≤ hi) ∧ (0 < j → bs.getD (j - 1) 0 < bs.getD j 0)) := by
 obtain ⟨b, hb, h⟩ := rising_l0 bs hl lo hi bs.length 0 (by omega)
 refine ⟨b, hb, h.trans ⟨fun h j hj => h j (by omega) hj, fun h j _ hj => h j hj⟩⟩
theorem all_getD (l : List Int) (p : Int → Bool) : l.all p = true ↔ ∀ j, j < l.length → p (l.getD j 0) = true := by
 rw [List.all_eq_true]
 constructor
 ·intro h j hj
  have : l.getD j 0 = l[j] := by simp [hj]
  rw [this]
  exact h _ (List.getElem_mem hj)
 ·intro h x hx
  obtain ⟨j, hj, rfl⟩ := List.getElem_of_mem hx
  have := h j hj
  simpa [hj] using this
theorem adj_pw (l : List Int) (h : ∀ j, 1 ≤ j → j < l.length → l.getD (j - 1) 0 < l.getD j 0) : l.Pairwise (· < ·) := by
 have g : ∀ j (hj : j < l.length), l.getD j 0 = l[j] := fun j hj => by simp [hj]
 have ht : ∀ d i (hj : i + d + 1 < l.length), l[i] < l[i + d + 1] := by
  intro d
  induction d with
  | zero =>
   intro i hj
   have := h (i + 1) (by omega) hj
   rw [g _ (by omega), g _ hj] at this
   exact this
  | succ d ih =>
   intro i hj
   have h1 := ih i (by omega)
   have := h (i + d + 1 + 1) (by omega) hj
   have e : i + d + 1 + 1 - 1 = i + d + 1 := by omega
   rw [e, g _ (by omega), g (i + d + 1 + 1) hj] at this
   exact Int.lt_trans h1 this
 refine List.pairwise_iff_getElem.2 fun i j hi hj hij => ?_
 have := ht (j - i - 1) i (by omega)
 simpa [show i + (j - i - 1) + 1 = j by omega] using this
theorem pw_adj {l : List Int} (h : l.Pairwise (· < ·)) : ∀ j, 1 ≤ j → j < l.length → l.getD (j - 1) 0 < l.getD j 0 := by
 intro j h1 h2
 have := List.pairwise_iff_getElem.1 h (j - 1) j (by omega) h2 (by omega)
 simpa [h2, show j - 1 < l.length by omega] using this
def rise (l : List Int) (lo hi : Int) : Bool := (l.all fun x => decide (lo ≤ x ∧ x ≤ hi)) && decide (l.Pairwise (· < ·))
theorem rise_iff (l : List Int) (lo hi : Int) : rise l lo hi = true ↔ (∀ x ∈ l, lo ≤ x ∧ x ≤ hi) ∧ l.Pairwise (· < ·) := by
 unfold rise
 rw [Bool.and_eq_true, List.all_eq_true, decide_eq_true_eq]
 simp only [decide_eq_true_eq]
theorem l1Rising_ev (l : List Int) (hl : l.length ≤ 1048576) (lo hi : Int) : Ev (fun k => spec_l1Rising.f k l lo hi) (rise l lo hi) := by
 obtain ⟨b, hb, h⟩ := rising_ev l hl lo hi
 have ha := all_getD l (fun x => decide (lo ≤ x ∧ x ≤ hi))
 simp only [decide_eq_true_eq] at ha
 have e : b = rise l lo hi := by
  rw [Bool.eq_iff_iff, h]
  unfold rise
  rw [Bool.and_eq_true, ha, decide_eq_true_eq]
  exact ⟨fun h => ⟨fun j hj => (h j hj).1, adj_pw l (fun j h1 h2 => (h j h2).2 (by omega))⟩, fun h j hj => ⟨h.1 j hj, fun h0 => pw_adj h.2 j (by omega) hj⟩⟩
 rw [← e]
 exact hb
theorem implRising_ev (l : List Int) (hl : l.length ≤ 1048576) (lo hi : Int) : Ev (fun k => (impl_increasing.f k l).bind fun t => if t = true then impl_allWithin.f k l lo hi else some false) (rise l lo hi) := by
 obtain ⟨c, hc, h⟩ := increasing_ev l hl
 have e : c = decide (l.Pairwise (· < ·)) := by
  rw [Bool.eq_iff_iff, h, decide_eq_true_eq]
  exact ⟨adj_pw l, pw_adj⟩
 refine Ev.bind hc ?_
 unfold rise
 rw [← e]
 cases c
 ·rw [Bool.and_false]
  exact Ev.itef (by simp) (Ev.now _)
 ·rw [Bool.and_true]
  exact Ev.itet rfl (allWithin_ev l hl lo hi)
def houses (kd p : Int) : Int := if kd = 0 then p else 2 * p
def nn (kd p o j : Int) : Int := if kd = 1 then 2 * j + 1 + o else if o = 1 then 2 * p - j else j + 1
theorem nuNumber_f (kd p o j : Int) (hp : 1 ≤ p ∧ p ≤ 1000) (hj : 0 ≤ j ∧ j < p) (ho : o = 0 ∨ o = 1) : spec_nuNumber.f kd p o j = some (nn kd p o j) := by
 unfold spec_nuNumber.f nn
 rw [w64 (x := 2 * j) (by omega) (by omega), w64 (x := 2 * j + 1) (by omega) (by omega), w64 (x := 2 * j + 1 + o) (by omega) (by omega), w64 (x := 2 * p) (by omega) (by omega), w64 (x := 2 * p - j) (by omega) (by omega), w64 (x := j + 1) (by omega) (by omega)]
 split
 ·rfl
 ·split <;> rfl
theorem nn_inj (kd p : Int) (o j o' j' : Int) (hj : 0 ≤ j ∧ j < p) (ho : o = 0 ∨ o = 1) (hj' : 0 ≤ j' ∧ j' < p) (ho' : o' = 0 ∨ o' = 1) (h : nn kd p o j = nn kd p o' j') : o = o' ∧ j = j' := by
 unfold nn at h
 split at h
 ·omega
 ·split at h <;> split at h <;> omega
theorem plotOf_val (kd p n : Int) (hk : 0 ≤ kd ∧ kd ≤ 2) (hp : 1 ≤ p ∧ p ≤ 1000) (hn : 1 ≤ n ∧ n ≤ houses kd p) : ∃ o j : Int, impl_plotOf.f kd p n = some (o, j) ∧ (o = 0 ∨ o = 1) ∧ (0 ≤ j ∧ j < p) ∧ nn kd p o j = n ∧ (o = 1 → kd > 0) := by
 unfold houses at hn
 unfold impl_plotOf.f nn
 by_cases h1 : kd = 1
 ·rw [if_pos h1]
  rw [if_neg (by omega)] at hn
  have e1 : wrap64 (n - 1) = n - 1 := w64 (by omega) (by omega)
  have e2 : Int.tmod (n - 1) 2 = (n - 1) % 2 := Int.tmod_eq_emod_of_nonneg (by omega)
  have e3 : Int.tdiv (n - 1) 2 = (n - 1) / 2 := Int.tdiv_eq_ediv_of_nonneg (by omega)
  have e4 : wrap64 ((n - 1) / 2) = (n - 1) / 2 := w64 (by omega) (by omega)
  refine ⟨(n - 1) % 2, (n - 1) / 2, by rw [e1, e2, e3, e4], by omega, by omega, ?_, by omega⟩
  rw [if_pos h1]
  omega
 ·rw [if_neg h1]
  by_cases h2 : n > p
  ·rw [if_pos h2]
   have hk0 : kd ≠ 0 := fun e => by rw [if_pos e] at hn; omega
   rw [if_neg hk0] at hn
   refine ⟨1, 2 * p - n, by rw [w64 (x := 2 * p) (by omega) (by omega), w64 (by omega) (by omega)], .inr rfl, by omega, ?_, by omega⟩
   rw [if_neg h1, if_pos rfl]
   omega
  ·rw [if_neg h2]
   refine ⟨0, n - 1, by rw [w64 (by omega) (by omega)], .inl rfl, by omega, ?_, by omega⟩
   rw [if_neg h1, if_neg (by decide)]
   omega
def sg (a b : Bool) : UInt8 := if a = true then (if b = true then 98 else 108) else if b = true then 114 else 45
def hasL (kd p : Int) (l : List Int) (j : Nat) : Bool := decide (nn kd p 0 j ∈ l)
def hasR (kd p : Int) (l : List Int) (j : Nat) : Bool := decide (kd > 0) && decide (nn kd p 1 j ∈ l)
def drow (kd p : Int) (l : List Int) (n : Nat) : List UInt8 := (List.range n).map fun j => sg (hasL kd p l j) (hasR kd p l j)
theorem drow_len (kd p : Int) (l : List Int) (n : Nat) : (drow kd p l n).length = n := by simp [drow]
theorem drow_get (kd p : Int) (l : List Int) (n j : Nat) (h : j < (drow kd p l n).length) : (drow kd p l n)[j] = sg (hasL kd p l j) (hasR kd p l j) := by simp [drow]
theorem drow_succ (kd p : Int) (l : List Int) (n : Nat) : drow kd p l (n + 1) = drow kd p l n ++ [sg (hasL kd p l n) (hasR kd p l n)] := by
 unfold drow
 rw [List.range_succ, List.map_append]
 rfl
theorem l1Has_ev (l : List Int) (hl : l.length ≤ 1048576) (n : Int) : Ev (fun k => spec_l1Has.f k l n) (decide (n ∈ l)) := by
 have key : ∀ (d i : Nat), i + d = l.length → Ev (fun k => spec_l1Has.l0 k n l (l.length : Int) (i : Int)) (decide (n ∈ l.drop i)) := by
  intro d
  induction d with
  | zero =>
   intro i hi
   rw [List.drop_eq_nil_of_le (by omega)]
   exact Ev.stop fun k => by simp only [spec_l1Has.l0]; rw [if_neg (by omega)]; rfl
  | succ d ih =>
   intro i hi
   have hlt : i < l.length := by omega
   have ih := ih (i + 1) (by omega)
   have hw : wrap64 ((i : Int) + 1) = ((i + 1 : Nat) : Int) := by rw [w64 (by omega) (by omega)]; rfl
   rw [List.drop_eq_getElem_cons hlt]
   refine Ev.succ ?_
   simp only [spec_l1Has.l0]
   rw [rd_get l i hlt, hw]
   refine Ev.itet (by omega) (Ev.itet (by omega) (Ev.itet (by omega) ?_))
   by_cases h : l[i] = n
   ·have e : decide (n ∈ l[i] :: l.drop (i + 1)) = true := by simp [h]
    rw [e]
    exact Ev.itet h (Ev.now _)
   ·have e : decide (n ∈ l[i] :: l.drop (i + 1)) = decide (n ∈ l.drop (i + 1)) := by
     apply decide_eq_decide.mpr
     rw [List.mem_cons]
     exact ⟨fun h' => h'.elim (fun e => (h e.symm).elim) (fun e => e), .inr⟩
    rw [e]
    exact Ev.itef h ih
 have := key l.length 0 (by omega)
 unfold spec_l1Has.f
 simpa using this
theorem j3_ev {kd p : Int} {l : List Int} {x : ByteArray} {j : Int} {a b c : Bool} {r : ByteArray × Bool} (hx : x.size ≤ 1048576) (hc : c = (a && b))
  (h : Ev (fun k => spec_DeliveriesOf.l0 k l (x ++ ⟨#[sg a b]⟩) (wrap64 (j + 1)) kd p) r) : Ev (fun k => spec_DeliveriesOf.j3 k l x j a b c kd p) r := by
 subst hc
 refine Ev.succ ?_
 simp only [spec_DeliveriesOf.j3]
 cases a <;> cases b <;> simp only [Bool.and_true, Bool.and_false, Bool.false_eq_true, if_false, if_true] <;> exact Ev.itet (by omega) h
theorem j2_ev {kd p : Int} {l : List Int} {x : ByteArray} {j : Int} {a b : Bool} {r : ByteArray × Bool} (hx : x.size ≤ 1048576)
  (h : Ev (fun k => spec_DeliveriesOf.l0 k l (x ++ ⟨#[sg a b]⟩) (wrap64 (j + 1)) kd p) r) : Ev (fun k => spec_DeliveriesOf.j2 k l x j a b kd p) r := by
 refine Ev.succ ?_
 simp only [spec_DeliveriesOf.j2]
 cases a
 ·exact Ev.itef (by simp) (j3_ev hx (by simp) h)
 ·exact Ev.itet rfl (j3_ev hx (by simp) h)
theorem made_l0 (kd : Int) (n : Nat) (l : List Int) (hl : l.length ≤ 1048576) (hn : 1 ≤ n ∧ n ≤ 60) : ∀ (d j : Nat), j + d = n → Ev (fun k => spec_DeliveriesOf.l0 k l (str (drow kd n l j)) (j : Int) kd n) (str (drow kd n l n), true) := by
 intro d
 induction d with
 | zero =>
  intro j hj
  obtain rfl : j = n := by omega
  exact Ev.stop fun k => by simp only [spec_DeliveriesOf.l0]; rw [if_neg (by omega)]
 | succ d ih =>
  intro j hj
  have ih := ih (j + 1) (by omega)
  have hw : wrap64 ((j : Int) + 1) = ((j + 1 : Nat) : Int) := by rw [w64 (by omega) (by omega)]; rfl
  rw [drow_succ, ← str_push, ← hw] at ih
  refine Ev.succ ?_
  simp only [spec_DeliveriesOf.l0]
  rw [nuNumber_f kd n 0 j (by omega) (by omega) (.inl rfl), nuNumber_f kd n 1 j (by omega) (by omega) (.inr rfl)]
  simp only [Option.bind_some]
  have hs : (str (drow kd n l j)).size ≤ 1048576 := by rw [str_size, drow_len]; omega
  refine Ev.itet (by omega) (Ev.bind (l1Has_ev l hl _) ?_)
  by_cases hk : kd > 0
  ·refine Ev.itet hk (Ev.bind (l1Has_ev l hl _) (j2_ev hs ?_))
   have e : hasR kd n l j = decide (nn kd n 1 j ∈ l) := by unfold hasR; rw [decide_eq_true hk, Bool.true_and]
   rw [← e]
   exact ih
  ·refine Ev.itef hk (j2_ev hs ?_)
   have e : hasR kd n l j = false := by unfold hasR; rw [decide_eq_false hk, Bool.false_and]
   rw [← e]
   exact ih
theorem put_step (kd : Int) (n : Nat) (l : List Int) (hk : 0 ≤ kd ∧ kd ≤ 2) (hn : 1 ≤ n ∧ n ≤ 60) (x : Int) (hx : x ∉ l) (h1 : 1 ≤ x ∧ x ≤ houses kd n) : ∃ o j : Int, impl_plotOf.f kd n x = some (o, j) ∧ impl_DeliveriesOf.step (toI (drow kd n l n)) o j = some (toI (drow kd n (l ++ [x]) n)) := by
 obtain ⟨o, j, hf, ho, hj, hnn, hko⟩ := plotOf_val kd n x hk (by omega) h1
 refine ⟨o, j, hf, ?_⟩
 obtain ⟨i, rfl⟩ : ∃ i : Nat, j = (i : Int) := ⟨j.toNat, by omega⟩
 have hin : i < n := by omega
 have hlen : (toI (drow kd n l n)).length = n := by simp [toI, drow_len]
 have old : ∀ o' j' : Int, (o' = 0 ∨ o' = 1) → (0 ≤ j' ∧ j' < n) → ¬ (o' = o ∧ j' = i) → decide (nn kd n o' j' ∈ l ++ [x]) = decide (nn kd n o' j' ∈ l) := by
  intro o' j' ho' hj' hne
  apply decide_eq_decide.mpr
  rw [List.mem_append, List.mem_singleton]
  refine ⟨fun h => h.elim id (fun e => ?_), .inl⟩
  have := nn_inj kd n o' j' o i hj' ho' hj ho (e.trans hnn.symm)
  exact (hne this).elim
 have new : decide (nn kd n o i ∈ l ++ [x]) = true := by simp [hnn]
 have was : decide (nn kd n o i ∈ l) = false := by simpa [hnn] using hx
 unfold impl_DeliveriesOf.step
 rw [if_pos (by omega), Int.toNat_natCast]
 congr 1
 refine List.ext_getElem (by simp [toI, drow_len]) fun m hm1 hm2 => ?_
 have hm : m < n := by simpa [hlen] using hm1
 have e1 : (toI (drow kd n (l ++ [x]) n))[m] = ((sg (hasL kd n (l ++ [x]) m) (hasR kd n (l ++ [x]) m)).toNat : Int) := by simp [toI, drow_get]
 have e2 : ∀ h, (toI (drow kd n l n))[m]'h = ((sg (hasL kd n l m) (hasR kd n l m)).toNat : Int) := by intro h; simp [toI, drow_get]
 rw [e1, List.getElem_set]
 by_cases hmi : i = m
 ·subst hmi
  rw [if_pos rfl, rd_get _ _ (by omega), e2]
  rcases ho with rfl | rfl
  ·have hR : hasR kd n (l ++ [x]) i = hasR kd n l i := by
    unfold hasR
    rw [old 1 i (.inr rfl) hj (by omega)]
   have hL : hasL kd n (l ++ [x]) i = true := new
   have hL' : hasL kd n l i = false := was
   rw [hR, hL, hL']
   cases hasR kd n l i <;> rfl
  ·have hL : hasL kd n (l ++ [x]) i = hasL kd n l i := old 0 i (.inl rfl) hj (by omega)
   have hk0 := hko rfl
   have hR : hasR kd n (l ++ [x]) i = true := by unfold hasR; rw [decide_eq_true hk0, new]; rfl
   have hR' : hasR kd n l i = false := by unfold hasR; rw [was, Bool.and_false]
   rw [hL, hR, hR']
   cases hasL kd n l i <;> rfl
 ·rw [if_neg hmi, e2]
  have hL : hasL kd n (l ++ [x]) m = hasL kd n l m := old 0 m (.inl rfl) (by omega) (by omega)
  have hR : hasR kd n (l ++ [x]) m = hasR kd n l m := by
   unfold hasR
   rw [old 1 m (.inr rfl) (by omega) (by omega)]
  rw [hL, hR]
theorem rows_f (kd : Int) (n : Nat) (l : List Int) (hk : 0 ≤ kd ∧ kd ≤ 2) (hn : 1 ≤ n ∧ n ≤ 60) (hr : ∀ x ∈ l, 1 ≤ x ∧ x ≤ houses kd n) (hp : l.Pairwise (· < ·)) : ∀ i, i ≤ l.length → impl_DeliveriesOf.rows kd n l i = some (toI (drow kd n (l.take i) n))
 | 0, _ => by
  rw [impl_DeliveriesOf.rows, Int.toNat_natCast]
  congr 1
  refine List.ext_getElem (by simp [toI, drow_len]) fun m h1 h2 => ?_
  have e1 : (toI (drow kd n (l.take 0) n))[m] = ((sg (hasL kd n (l.take 0) m) (hasR kd n (l.take 0) m)).toNat : Int) := by simp [toI, drow_get]
  rw [e1, List.getElem_replicate]
  simp [hasL, hasR, sg]
 | i + 1, h => by
  have hlt : i < l.length := by omega
  have hnot : l[i] ∉ l.take i := by
   intro hm
   obtain ⟨j, hj, e⟩ := List.getElem_of_mem hm
   have hji : j < i := by simp at hj; omega
   have h2 := List.pairwise_iff_getElem.1 hp j i (by omega) hlt hji
   rw [List.getElem_take] at e
   omega
  obtain ⟨o, j, h1, h2⟩ := put_step kd n (l.take i) hk hn l[i] hnot (hr _ (List.getElem_mem hlt))
  rw [impl_DeliveriesOf.rows, rows_f kd n l hk hn hr hp i (by omega), Option.bind_some, rd_get l i hlt, h1, Option.bind_some, h2, List.take_succ_eq_append_getElem hlt]
def okD (kd p : Int) (l : List Int) : Bool := decide (0 ≤ kd ∧ kd ≤ 2) && (decide (1 ≤ p ∧ p ≤ 1000) && (decide (p ≤ 60) && rise l 1 (houses kd p)))
def resD (kd p : Int) (l : List Int) : ByteArray × Bool := if okD kd p l then (str (drow kd p l p.toNat), true) else (⟨#[]⟩, false)
theorem specD_ev (kd p : Int) (l : List Int) (hl : l.length ≤ 1048576) : Ev (fun k => spec_DeliveriesOf.f k kd p l) (resD kd p l) := by
 unfold spec_DeliveriesOf.f spec_nuGood.f spec_nuHouses.f resD okD
 simp only [l1In_f, Option.bind_some]
 have no : Ev (fun k => spec_DeliveriesOf.j0 k l true kd p) (⟨#[]⟩, false) := Ev.stop fun k => by simp only [spec_DeliveriesOf.j0]; rw [if_pos trivial]
 by_cases h1 : 0 ≤ kd ∧ kd ≤ 2
 ·rw [decide_eq_true h1]
  simp only [if_true, Option.bind_some, Bool.true_and]
  by_cases h2 : 1 ≤ p ∧ p ≤ 1000
  ·rw [decide_eq_true h2]
   simp only [Bool.true_and]
   refine Ev.itet (by trivial) ?_
   by_cases h3 : p ≤ 60
   ·rw [decide_eq_true h3, Bool.true_and]
    refine Ev.itef (by omega) ?_
    have e : (if kd = 0 then some p else some (wrap64 (2 * p))) = some (houses kd p) := by
     unfold houses
     rw [w64 (by omega) (by omega)]
     split <;> rfl
    rw [e]
    simp only [Option.bind_some]
    refine Ev.bind (l1Rising_ev l hl 1 _) ?_
    cases hr : rise l 1 (houses kd p)
    ·exact no
    ·obtain ⟨n, rfl⟩ : ∃ n : Nat, p = (n : Int) := ⟨p.toNat, by omega⟩
     refine Ev.succ ?_
     simp only [spec_DeliveriesOf.j0]
     refine Ev.itef (by simp) ?_
     simp only [if_true, Int.toNat_natCast]
     exact made_l0 kd n l hl (by omega) n 0 (by omega)
   ·rw [decide_eq_false h3, Bool.false_and]
    exact Ev.itet (by omega) no
  ·rw [decide_eq_false h2, Bool.false_and]
   exact Ev.itef (by simp) no
 ·rw [decide_eq_false h1, Bool.false_and]
  simp only [Bool.false_eq_true, if_false, Option.bind_some]
  exact no
theorem implD_ev (kd p : Int) (l : List Int) (hl : l.length ≤ 1048576) : Ev (fun k => impl_DeliveriesOf.f k kd p l) (resD kd p l) := by
 unfold impl_DeliveriesOf.f impl_DeliveriesOf.ok impl_IsStreet.f impl_housesOf.f resD okD
 simp only [within_f, Option.bind_some]
 by_cases h1 : 0 ≤ kd ∧ kd ≤ 2
 ·rw [decide_eq_true h1]
  simp only [if_true, Option.bind_some, Bool.true_and]
  by_cases h2 : 1 ≤ p ∧ p ≤ 1000
  ·rw [decide_eq_true h2]
   simp only [if_true, Bool.true_and]
   by_cases h3 : p ≤ 60
   ·rw [decide_eq_true h3, Bool.true_and]
    have e : (if kd = 0 then some p else some (wrap64 (2 * p))) = some (houses kd p) := by
     unfold houses
     rw [w64 (by omega) (by omega)]
     split <;> rfl
    rw [e]
    simp only [Option.bind_some]
    have h60 : ¬ p > 60 := by omega
    simp only [if_neg h60]
    refine Ev.bind (implRising_ev l hl 1 _) ?_
    cases hr : rise l 1 (houses kd p)
    ·exact Ev.itef (by simp) (Ev.now _)
    ·obtain ⟨n, rfl⟩ : ∃ n : Nat, p = (n : Int) := ⟨p.toNat, by omega⟩
     obtain ⟨h4, h5⟩ := (rise_iff _ _ _).1 hr
     have e2 := rows_f kd n l h1 (by omega) h4 h5 l.length (Nat.le_refl _)
     rw [List.take_length] at e2
     refine Ev.itet rfl (Ev.itet ⟨by omega, h3, hl⟩ ?_)
     rw [e2, Option.bind_some, strOf_toI, if_pos rfl, Int.toNat_natCast]
     exact Ev.now _
   ·have h60 : p > 60 := by omega
    rw [decide_eq_false h3, Bool.false_and]
    simp only [if_pos h60, Option.bind_some]
    exact Ev.itef (by simp) (Ev.now _)
  ·rw [decide_eq_false h2, Bool.false_and]
   simp only [Bool.false_eq_true, if_false, Option.bind_some]
   exact Ev.now _
 ·rw [decide_eq_false h1, Bool.false_and]
  simp only [Bool.false_eq_true, if_false, Option.bind_some]
  exact Ev.now _
def isAt (s : ByteArray) (o : Int) (j : Nat) : Prop := bt s (j : Int) = 98 ∨ bt s (j : Int) = impl_routeNumbers.lr o
theorem one_len' (kd p : Int) (s : ByteArray) (j : Nat) (hj : j < s.data.toList.length) (hb : sgn s.data.toList[j] = true) (c : Int) (hc : c = 0 ∨ c = 1) (acc : List Int) : ((impl_routeNumbers.one kd p (bt s j) j (1 - c) (impl_routeNumbers.one kd p (bt s j) j c acc)).length : Int) = acc.length + many s.data.toList[j] := by
 rw [bt_get s j hj]
 generalize s.data.toList[j] = b at hb
 unfold impl_routeNumbers.one impl_routeNumbers.lr many
 simp only [sgn, Bool.or_eq_true, beq_iff_eq] at hb
 rcases hb with rfl | rfl | rfl | rfl <;> rcases hc with rfl | rfl <;> simp
theorem acc_cnt {kd p : Int} {s : ByteArray} (hd : deliv s = true) (l : List Int) (hl : l.length = s.size) (h01 : (l.all fun x => decide (0 ≤ x ∧ x ≤ 1)) = true) : ∀ m, m ≤ s.size → ((impl_routeNumbers.acc kd p s l m).length : Int) = cnt (s.data.toList.take m)
 | 0, _ => rfl
 | m + 1, hm => by
  have hlt : m < s.data.toList.length := by rw [len_data]; omega
  rw [List.take_succ_eq_append_getElem hlt, cnt_append, ← acc_cnt (kd := kd) (p := p) hd l hl h01 m (by omega), impl_routeNumbers.acc, one_len' kd p s m hlt (deliv_mem hd _ (List.getElem_mem hlt)) _ (impl_routeNumbers.side_01 h01 m (by omega)), cnt_cons]
  simp [cnt, foldI]
structure HouseAt (s : ByteArray) (kd p : Int) (m : Nat) (x : Int) (o : Int) (j : Nat) : Prop where
  lt : j < m
  side : o = 0 ∨ o = 1
  sign : isAt s o j
  eq : x = impl_routeNumbers.num kd p o j
theorem acc_mem {kd p : Int} {s : ByteArray} (l : List Int) (hl : l.length = s.size) (h01 : (l.all fun x => decide (0 ≤ x ∧ x ≤ 1)) = true) (x : Int) : ∀ m, m ≤ s.size → (x ∈ impl_routeNumbers.acc kd p s l m ↔ ∃ o j, HouseAt s kd p m x o j)
 | 0, _ => by
  simp only [impl_routeNumbers.acc, List.not_mem_nil, false_iff]
  rintro ⟨o, j, h⟩
  exact absurd h.lt (by omega)
 | m + 1, hm => by
  have ih := acc_mem (kd := kd) (p := p) l hl h01 x m (by omega)
  have hc := impl_routeNumbers.side_01 h01 m (by omega)
  rw [impl_routeNumbers.acc, one_mem, one_mem, ih]
  constructor
  ·rintro ((⟨o, j, h⟩ | ⟨h3, h4⟩) | ⟨h3, h4⟩)
   ·exact ⟨o, j, ⟨by have := h.lt; omega, h.side, h.sign, h.eq⟩⟩
   ·exact ⟨_, m, ⟨by omega, hc, h3, h4⟩⟩
   ·exact ⟨_, m, ⟨by omega, by omega, h3, h4⟩⟩
  ·rintro ⟨o, j, h⟩
   rcases Nat.lt_or_eq_of_le (Nat.le_of_lt_succ h.lt) with h1 | rfl
   ·exact .inl (.inl ⟨o, j, ⟨h1, h.side, h.sign, h.eq⟩⟩)
   ·have ho : o = impl_routeNumbers.side l j ∨ o = 1 - impl_routeNumbers.side l j := by have := h.side; omega
    rcases ho with rfl | rfl
    ·exact .inl (.inr ⟨h.sign, h.eq⟩)
    ·exact .inr ⟨h.sign, h.eq⟩
def Falls (kd p : Int) (s : ByteArray) (x y : Int) : Prop := x ≠ y ∧ ∀ o j o' j', HouseAt s kd p s.size x o j → HouseAt s kd p s.size y o' j' → j ≤ j'
theorem one_pw {kd p : Int} {s : ByteArray} (hp : (s.size : Int) = p) (h60 : 1 ≤ s.size ∧ s.size ≤ 60) {m : Nat} (hm : m < s.size) {o : Int} (ho : o = 0 ∨ o = 1) {acc : List Int} (h : acc.Pairwise (Falls kd p s)) (hb : ∀ x ∈ acc, ∃ o' j', HouseAt s kd p s.size x o' j' ∧ (j' < m ∨ (j' = m ∧ o' ≠ o))) : (impl_routeNumbers.one kd p (bt s m) m o acc).Pairwise (Falls kd p s) := by
 unfold impl_routeNumbers.one
 split
 ·refine List.pairwise_append.2 ⟨h, List.pairwise_singleton _ _, fun x hx y hy => ?_⟩
  simp only [List.mem_singleton] at hy
  subst hy
  obtain ⟨o', j', h1, h2⟩ := hb x hx
  have l1 := h1.lt
  constructor
  ·intro e
   have := num_inj kd p (by omega) o' j' o m (by omega) h1.side (by omega) ho (h1.eq.symm.trans e)
   omega
  ·intro o1 j1 o2 j2 g1 g2
   have k1 := g1.lt
   have k2 := g2.lt
   have e1 := num_inj kd p (by omega) o' j' o1 j1 (by omega) h1.side (by omega) g1.side (h1.eq.symm.trans g1.eq)
   have e2 := num_inj kd p (by omega) o m o2 j2 (by omega) ho (by omega) g2.side g2.eq
   omega
 ·exact h
theorem acc_pw {kd p : Int} {s : ByteArray} (hp : (s.size : Int) = p) (h60 : 1 ≤ s.size ∧ s.size ≤ 60) (l : List Int) (hl : l.length = s.size) (h01 : (l.all fun x => decide (0 ≤ x ∧ x ≤ 1)) = true) : ∀ m, m ≤ s.size → (impl_routeNumbers.acc kd p s l m).Pairwise (Falls kd p s)
 | 0, _ => List.Pairwise.nil
 | m + 1, hm => by
  have ih := acc_pw (kd := kd) hp h60 l hl h01 m (by omega)
  have hc := impl_routeNumbers.side_01 h01 m (by omega)
  have old : ∀ x ∈ impl_routeNumbers.acc kd p s l m, ∃ o' j', HouseAt s kd p s.size x o' j' ∧ j' < m := fun x hx => by
   obtain ⟨o', j', h⟩ := (acc_mem l hl h01 x m (by omega)).1 hx
   exact ⟨o', j', ⟨by have := h.lt; omega, h.side, h.sign, h.eq⟩, h.lt⟩
  rw [impl_routeNumbers.acc]
  refine one_pw hp h60 (by omega) (by omega) (one_pw hp h60 (by omega) hc ih (fun x hx => ?_)) (fun x hx => ?_)
  ·obtain ⟨o', j', h1, h2⟩ := old x hx
   exact ⟨o', j', h1, .inl h2⟩
  ·rcases (one_mem ..).1 hx with hx | ⟨h3, h4⟩
   ·obtain ⟨o', j', h1, h2⟩ := old x hx
    exact ⟨o', j', h1, .inl h2⟩
   ·exact ⟨_, m, ⟨by omega, hc, h3, h4⟩, .inr ⟨rfl, by omega⟩⟩
theorem num_nn {kd p o j : Int} (hp : 1 ≤ p ∧ p ≤ 1000) (hj : 0 ≤ j ∧ j < p) (ho : o = 0 ∨ o = 1) : impl_routeNumbers.num kd p o j = nn kd p o j := num_val kd p o j hp hj ho
theorem fits_all {kd p : Int} {s : ByteArray} (h : fits kd p s = true) : (0 ≤ kd ∧ kd ≤ 2) ∧ (1 ≤ p ∧ p ≤ 1000) ∧ deliv s = true ∧ (s.size : Int) = p ∧ (kd > 0 ∨ ∀ j (hj : j < s.data.toList.length), sgnR s.data.toList[j] = false) := by
 simp only [fits, Bool.and_eq_true, decide_eq_true_eq, Bool.or_eq_true, Bool.not_eq_true'] at h
 refine ⟨h.1, h.2.1, h.2.2.1, h.2.2.2.1, h.2.2.2.2.imp id (fun h j hj => ?_)⟩
 have := List.any_eq_false.1 h s.data.toList[j] (List.getElem_mem hj)
 simpa using this
theorem isAt_iff (s : ByteArray) (j : Nat) (hj : j < s.data.toList.length) : (isAt s 0 j ↔ s.data.toList[j] = 98 ∨ s.data.toList[j] = 108) ∧ (isAt s 1 j ↔ s.data.toList[j] = 98 ∨ s.data.toList[j] = 114) := by
 unfold isAt impl_routeNumbers.lr
 rw [bt_get s j hj]
 simp only [if_true, if_neg (show ¬ (1 : Int) = 0 by decide), eq98, eq108, eq114]
 refine ⟨?_, ?_⟩ <;> first | trivial | exact Iff.rfl
theorem house_right {kd p : Int} {s : ByteArray} (h : fits kd p s = true) {o : Int} {j : Nat} (hj : j < s.size) (ho : o = 1) (hs : isAt s o j) : kd > 0 := by
 subst ho
 rcases (fits_all h).2.2.2.2 with h1 | h1
 ·exact h1
 ·have hlt : j < s.data.toList.length := by rw [len_data]; exact hj
  have h2 := h1 j hlt
  rcases (isAt_iff s j hlt).2.1 hs with e | e <;> rw [e] at h2 <;> cases h2
theorem house_range {kd p : Int} {s : ByteArray} (h : fits kd p s = true) {x o : Int} {j : Nat} (hx : HouseAt s kd p s.size x o j) : 1 ≤ x ∧ x ≤ houses kd p := by
 obtain ⟨h1, h2, h3, h4, _⟩ := fits_all h
 have hr := fun ho => house_right h hx.lt ho hx.sign
 have hl := hx.lt
 have hs := hx.side
 have e := hx.eq
 rw [num_nn h2 (by omega) hx.side] at e
 unfold nn at e
 unfold houses
 split at e
 ·rw [if_neg (by omega)]; omega
 ·split at e
  ·have := hr (by omega)
   rw [if_neg (by omega)]; omega
  ·split <;> omega
theorem plot_f {kd p : Int} {s : ByteArray} (h : fits kd p s = true) {x o : Int} {j : Nat} (hx : HouseAt s kd p s.size x o j) : impl_PlotOf.f kd p x = some (o, (j : Int), true) := by
 obtain ⟨h1, h2, h3, h4, _⟩ := fits_all h
 have hr := house_range h hx
 have hl := hx.lt
 obtain ⟨o', j', g1, g2, g3, g4, g5⟩ := plotOf_val kd p x h1 h2 hr
 have e := hx.eq
 rw [num_nn h2 (by omega) hx.side] at e
 have := nn_inj kd p o' j' o j g3 g2 (by omega) hx.side (g4.trans e)
 obtain ⟨rfl, rfl⟩ := this
 have eh : (if kd = 0 then some p else some (wrap64 (2 * p))) = some (houses kd p) := by
  unfold houses
  rw [w64 (by omega) (by omega)]
  split <;> rfl
 unfold impl_PlotOf.f impl_isHouse.f impl_IsStreet.f impl_housesOf.f
 simp only [within_f, Option.bind_some, decide_eq_true h1, decide_eq_true h2, if_true, eh, decide_eq_true hr, g1]
theorem R_house {kd p : Int} {s : ByteArray} (x : Int) : x ∈ R kd p s ↔ ∃ o j, HouseAt s kd p s.size x o j := by
 rw [R_mem]
 exact acc_mem (List.replicate s.size 0) (by simp) (by rw [List.all_eq_true]; intro x hx; have := List.eq_of_mem_replicate hx; subst this; rfl) x s.size (Nat.le_refl _)
theorem R_cnt {kd p : Int} {s : ByteArray} (hd : deliv s = true) : ((R kd p s).length : Int) = cnt s.data.toList := by
 rw [(R_perm kd p s).length_eq]
 have := acc_cnt (kd := kd) (p := p) hd (List.replicate s.size 0) (by simp) (by rw [List.all_eq_true]; intro x hx; have := List.eq_of_mem_replicate hx; subst this; rfl) s.size (Nat.le_refl _)
 rw [List.take_of_length_le (by rw [len_data]; exact Nat.le_refl _)] at this
 exact this
theorem hasL_iff {kd p : Int} {s : ByteArray} (h : fits kd p s = true) (j : Nat) (hj : j < s.size) : hasL kd p (R kd p s) j = true ↔ isAt s 0 j := by
 obtain ⟨h1, h2, h3, h4, _⟩ := fits_all h
 unfold hasL
 rw [decide_eq_true_eq, R_house]
 constructor
 ·rintro ⟨o, j', g⟩
  have l := g.lt
  have e := g.eq
  rw [num_nn h2 (by omega) g.side] at e
  obtain ⟨rfl, e2⟩ := nn_inj kd p 0 j o j' (by omega) (.inl rfl) (by omega) g.side e
  obtain rfl : j = j' := by omega
  exact g.sign
 ·exact fun g => ⟨0, j, ⟨hj, .inl rfl, g, (num_nn h2 (by omega) (.inl rfl)).symm⟩⟩
theorem hasR_iff {kd p : Int} {s : ByteArray} (h : fits kd p s = true) (j : Nat) (hj : j < s.size) : hasR kd p (R kd p s) j = true ↔ isAt s 1 j := by
 obtain ⟨h1, h2, h3, h4, _⟩ := fits_all h
 unfold hasR
 rw [Bool.and_eq_true, decide_eq_true_eq, decide_eq_true_eq, R_house]
 constructor
 ·rintro ⟨_, o, j', g⟩
  have l := g.lt
  have e := g.eq
  rw [num_nn h2 (by omega) g.side] at e
  obtain ⟨rfl, e2⟩ := nn_inj kd p 1 j o j' (by omega) (.inr rfl) (by omega) g.side e
  obtain rfl : j = j' := by omega
  exact g.sign
 ·exact fun g => ⟨house_right h hj rfl g, 1, j, ⟨hj, .inr rfl, g, (num_nn h2 (by omega) (.inr rfl)).symm⟩⟩
theorem resD_R {kd p : Int} {s : ByteArray} (h : fits kd p s = true) : resD kd p (R kd p s) = (s, true) := by
 obtain ⟨h1, h2, h3, h4, _⟩ := fits_all h
 have h60 := deliv_len h3
 have hr : rise (R kd p s) 1 (houses kd p) = true := (rise_iff _ _ _).2 ⟨fun x hx => by obtain ⟨o, j, g⟩ := (R_house x).1 hx; exact house_range h g, R_rise kd p s h4 h60⟩
 unfold resD okD
 rw [decide_eq_true h1, decide_eq_true h2, decide_eq_true (show p ≤ 60 by omega), hr]
 simp only [Bool.true_and, if_true, Prod.mk.injEq, and_true]
 refine ba_ext ?_
 show drow kd p (R kd p s) p.toNat = s.data.toList
 have ep : p.toNat = s.size := by omega
 rw [ep]
 refine List.ext_getElem (by rw [drow_len, len_data]) fun j g1 g2 => ?_
 rw [drow_get]
 have hj : j < s.size := by rw [drow_len] at g1; exact g1
 have hb := deliv_mem h3 s.data.toList[j] (List.getElem_mem g2)
 have i0 := (hasL_iff h j hj).trans (isAt_iff s j g2).1
 have i1 := (hasR_iff h j hj).trans (isAt_iff s j g2).2
 generalize s.data.toList[j] = b at hb i0 i1
 simp only [sgn, Bool.or_eq_true, beq_iff_eq] at hb
 rcases hb with rfl | rfl | rfl | rfl <;> cases hL : hasL kd p (R kd p s) j <;> cases hR : hasR kd p (R kd p s) j <;> rw [hL] at i0 <;> rw [hR] at i1 <;> first | rfl | (exfalso; revert i0 i1; decide)
theorem resN_drow {kd p : Int} {l : List Int} (h : okD kd p l = true) : resN kd p (str (drow kd p l p.toNat)) = (l, true) := by
 simp only [okD, Bool.and_eq_true, decide_eq_true_eq] at h
 obtain ⟨h1, h2, h3, hr⟩ := h
 obtain ⟨r1, r2⟩ := (rise_iff _ _ _).1 hr
 have hz : (str (drow kd p l p.toNat)).size = p.toNat := by rw [str_size, drow_len]
 have hlist : (str (drow kd p l p.toNat)).data.toList = drow kd p l p.toNat := rfl
 have get : ∀ j (hj : j < (str (drow kd p l p.toNat)).data.toList.length), (str (drow kd p l p.toNat)).data.toList[j] = sg (hasL kd p l j) (hasR kd p l j) := fun j hj => drow_get kd p l p.toNat j hj
 have hsg : ∀ a b : Bool, sgn (sg a b) = true := by decide
 have hdv : deliv (str (drow kd p l p.toNat)) = true := by
  unfold deliv
  rw [hz, decide_eq_true (by omega), Bool.true_and, hlist, List.all_eq_true]
  intro b hb
  unfold drow at hb
  obtain ⟨j, _, rfl⟩ := List.mem_map.1 hb
  exact hsg _ _
 have hf : fits kd p (str (drow kd p l p.toNat)) = true := by
  unfold fits
  rw [decide_eq_true h1, decide_eq_true h2, hdv, hz, decide_eq_true (show ((p.toNat : Nat) : Int) = p by omega)]
  simp only [Bool.true_and, Bool.or_eq_true, decide_eq_true_eq, Bool.not_eq_true']
  by_cases hk : kd > 0
  ·exact .inl hk
  ·refine .inr (List.any_eq_false.2 fun b hb => ?_)
   rw [hlist] at hb
   unfold drow at hb
   obtain ⟨j, _, rfl⟩ := List.mem_map.1 hb
   have : hasR kd p l j = false := by unfold hasR; rw [decide_eq_false hk, Bool.false_and]
   rw [this]
   cases hasL kd p l j <;> decide
 have hrise := R_rise kd p (str (drow kd p l p.toNat)) (by rw [hz]; omega) (by rw [hz]; omega)
 have e : R kd p (str (drow kd p l p.toNat)) = l := by
  refine rise_ext hrise r2 fun x => ?_
  rw [R_house]
  constructor
  ·rintro ⟨o, j, g⟩
   have gl := g.lt
   have ge := g.eq
   have gs := g.sign
   rw [hz] at gl
   rw [num_nn h2 (by omega) g.side] at ge
   have hlt : j < (str (drow kd p l p.toNat)).data.toList.length := by rw [len_data, hz]; exact gl
   have hi := isAt_iff _ j hlt
   rw [get j hlt] at hi
   rcases g.side with rfl | rfl
   ·have : hasL kd p l j = true := by
     have := hi.1.1 gs
     revert this
     cases hasL kd p l j <;> cases hasR kd p l j <;> decide
    unfold hasL at this
    rw [ge]
    exact of_decide_eq_true this
   ·have : hasR kd p l j = true := by
     have := hi.2.1 gs
     revert this
     cases hasL kd p l j <;> cases hasR kd p l j <;> decide
    unfold hasR at this
    rw [Bool.and_eq_true] at this
    rw [ge]
    exact of_decide_eq_true this.2
  ·intro hx
   obtain ⟨o, j', _, g2, g3, g4, g5⟩ := plotOf_val kd p x h1 h2 (r1 x hx)
   obtain ⟨j, rfl⟩ : ∃ j : Nat, j' = (j : Int) := ⟨j'.toNat, by omega⟩
   have hlt : j < (str (drow kd p l p.toNat)).data.toList.length := by rw [len_data, hz]; omega
   have hi := isAt_iff _ j hlt
   rw [get j hlt] at hi
   refine ⟨o, j, ⟨by rw [hz]; omega, g2, ?_, by rw [num_nn h2 (by omega) g2]; exact g4.symm⟩⟩
   rcases g2 with rfl | rfl
   ·have : hasL kd p l j = true := by unfold hasL; rw [g4]; exact decide_eq_true hx
    refine hi.1.2 ?_
    rw [this]
    cases hasR kd p l j <;> decide
   ·have : hasR kd p l j = true := by unfold hasR; rw [g4, decide_eq_true (g5 rfl), decide_eq_true hx]; rfl
    refine hi.2.2 ?_
    rw [this]
    cases hasL kd p l j <;> decide
 unfold resN
 rw [hf, e]
 rfl
theorem zRises_ev (l : List Int) (hl : l.length ≤ 1048576) (hp : l.Pairwise (· < ·)) : Ev (fun k => laws_zRises.f k l) true := by
 unfold laws_zRises.f
 have key : ∀ (d i : Nat), (i + d = l.length ∨ (l.length < i ∧ d = 0)) → 1 ≤ i → Ev (fun k => laws_zRises.l0 k l (i : Int)) true := by
  intro d
  induction d with
  | zero =>
   intro i hi h1
   exact Ev.stop fun k => by simp only [laws_zRises.l0]; rw [if_neg (by omega)]
  | succ d ih =>
   intro i hi h1
   have hlt : i < l.length := by omega
   have w1 : wrap64 ((i : Int) - 1) = ((i - 1 : Nat) : Int) := by rw [w64 (by omega) (by omega)]; omega
   have w2 : wrap64 ((i : Int) + 1) = ((i + 1 : Nat) : Int) := by rw [w64 (by omega) (by omega)]; rfl
   have hlt2 : i - 1 < l.length := by omega
   have := List.pairwise_iff_getElem.1 hp (i - 1) i hlt2 hlt (by omega)
   refine Ev.to _ (fun k => ?_) (ih (i + 1) (by omega) (by omega))
   simp only [laws_zRises.l0]
   rw [w1, w2, rd_get l i hlt, rd_get l (i - 1) hlt2, if_pos (by omega), if_pos (by omega), if_pos (by omega), if_pos (by omega), if_neg (by omega)]
 rcases Nat.lt_or_ge l.length 1 with h | h
 ·exact key 0 1 (by omega) (by omega)
 ·exact key (l.length - 1) 1 (by omega) (by omega)
theorem zHas_ev (l : List Int) (hl : l.length ≤ 1048576) (n : Int) : Ev (fun k => laws_zHas.f k l n) (decide (n ∈ l)) := by
 have key : ∀ (d i : Nat), i + d = l.length → Ev (fun k => laws_zHas.l0 k n l (l.length : Int) (i : Int)) (decide (n ∈ l.drop i)) := by
  intro d
  induction d with
  | zero =>
   intro i hi
   rw [List.drop_eq_nil_of_le (by omega)]
   exact Ev.stop fun k => by simp only [laws_zHas.l0]; rw [if_neg (by omega)]; rfl
  | succ d ih =>
   intro i hi
   have hlt : i < l.length := by omega
   have ih := ih (i + 1) (by omega)
   have hw : wrap64 ((i : Int) + 1) = ((i + 1 : Nat) : Int) := by rw [w64 (by omega) (by omega)]; rfl
   rw [List.drop_eq_getElem_cons hlt]
   refine Ev.succ ?_
   simp only [laws_zHas.l0]
   rw [rd_get l i hlt, hw]
   refine Ev.itet (by omega) (Ev.itet (by omega) (Ev.itet (by omega) ?_))
   by_cases h : l[i] = n
   ·have e : decide (n ∈ l[i] :: l.drop (i + 1)) = true := by simp [h]
    rw [e]
    exact Ev.itet h (Ev.now _)
   ·have e : decide (n ∈ l[i] :: l.drop (i + 1)) = decide (n ∈ l.drop (i + 1)) := by
     apply decide_eq_decide.mpr
     rw [List.mem_cons]
     exact ⟨fun h' => h'.elim (fun e => (h e.symm).elim) (fun e => e), .inr⟩
    rw [e]
    exact Ev.itef h ih
 have := key l.length 0 (by omega)
 unfold laws_zHas.f
 simpa using this
def codeOk (code : List Int) : Prop := code.length ≤ 1048576 ∧ ∀ x ∈ code, 0 ≤ x ∧ x ≤ 255
theorem rd_code {code : List Int} (h : codeOk code) (i : Int) (h0 : 0 ≤ i) (h1 : i < code.length) : 0 ≤ rd code i ∧ rd code i ≤ 255 := by
 obtain ⟨n, rfl⟩ : ∃ n : Nat, i = (n : Int) := ⟨i.toNat, by omega⟩
 rw [rd_get code n (by omega)]
 exact h.2 _ (List.getElem_mem _)
theorem and255 (y : Int) : 0 ≤ Go.bits .and .u64 ((IntKind.u64.wrap y) / 1099511627776) 255 ∧ Go.bits .and .u64 ((IntKind.u64.wrap y) / 1099511627776) 255 ≤ 255 := by
 have h0 : 0 ≤ (IntKind.u64.wrap y) / 1099511627776 ∧ (IntKind.u64.wrap y) / 1099511627776 < 18446744073709551616 := by rw [Go.IntKind.wrap_u64]; omega
 have h := Go.bits_mask .u64 64 (by decide) Go.wraps_u64 8 (by decide) _ h0.1 h0.2
 rw [show ((2 : Int) ^ 8 - 1) = 255 from rfl, show ((2 : Int) ^ 8) = 256 from rfl] at h
 rw [h]
 omega
theorem next_f {code : List Int} (hc : codeOk code) (p s : Int) (hp : 0 ≤ p ∧ p ≤ 100000000) : ∃ v s', spec_l1Cur_next.f code p s = some (v, p + 1, s') ∧ 0 ≤ v ∧ v ≤ 255 := by
 have hw : wrap64 (p + 1) = p + 1 := w64 (by omega) (by omega)
 unfold spec_l1Cur_next.f
 rw [hw]
 by_cases h1 : p < (code.length : Int)
 ·have hr := rd_code hc p hp.1 h1
  rw [if_pos h1, if_pos hp.1, if_pos (by omega)]
  exact ⟨_, _, rfl, by rw [w64 (by omega) (by omega)]; exact hr⟩
 ·rw [if_neg h1, if_neg (by omega)]
  refine ⟨_, _, rfl, ?_⟩
  have hb := and255 ((IntKind.u64.wrap (IntKind.u64.wrap (s * 6364136223846793005))) + 1442695040888963407)
  rw [w64 (by omega) (by omega)]
  exact hb
structure Drawn {α : Type} (P : α → Prop) (g : Option (α × Int × Int)) (p : Int) (m : Int) : Prop where
  ex : ∃ v p' s', g = some (v, p', s') ∧ P v ∧ p ≤ p' ∧ p' ≤ p + m
theorem pick_d {code : List Int} (hc : codeOk code) (p s : Int) (hp : 0 ≤ p ∧ p ≤ 90000000) (n : Int) (hn : n ≤ 200) : Drawn (fun v => 0 ≤ v ∧ (1 ≤ n → v < n)) (spec_l1Cur_pick.f code p s n) p 2 := by
 unfold spec_l1Cur_pick.f
 by_cases h1 : n ≤ 1
 ·rw [if_pos h1]
  exact ⟨0, p, s, rfl, ⟨by omega, fun h => by omega⟩, by omega, by omega⟩
 ·rw [if_neg h1]
  obtain ⟨v, s', hv, h0, h2⟩ := next_f hc p s (by omega)
  rw [hv, Option.bind_some, if_neg (by omega), if_neg (by omega)]
  have e : Int.tmod v n = v % n := Int.tmod_eq_emod_of_nonneg h0
  refine ⟨_, _, _, rfl, ?_, by show p ≤ p + 1; omega, by show p + 1 ≤ p + 2; omega⟩
  simp only [e]
  exact ⟨Int.emod_nonneg _ (by omega), fun _ => Int.emod_lt_of_pos _ (by omega)⟩
theorem one_d {code : List Int} (hc : codeOk code) (p s : Int) (hp : 0 ≤ p ∧ p ≤ 90000000) (n : Int) (hn : n ≤ 200) : Drawn (fun _ => True) (spec_l1Cur_one.f code p s n) p 2 := by
 unfold spec_l1Cur_one.f
 obtain ⟨v, p', s', h, hv, h1, h2⟩ := (pick_d hc p s hp n hn).ex
 rw [h, Option.bind_some]
 exact ⟨_, _, _, rfl, trivial, h1, h2⟩
theorem among_d {code : List Int} (hc : codeOk code) (p s : Int) (hp : 0 ≤ p ∧ p ≤ 90000000) (l : List Int) (hl : 1 ≤ l.length ∧ l.length ≤ 200) : Drawn (fun v => v ∈ l) (spec_l1Cur_among.f code p s l) p 2 := by
 unfold spec_l1Cur_among.f
 obtain ⟨v, p', s', h, hv, h1, h2⟩ := (pick_d hc p s hp (l.length : Int) (by omega)).ex
 have hv' := hv.2 (by omega)
 rw [h, Option.bind_some, if_pos hv.1, if_pos hv']
 obtain ⟨i, rfl⟩ : ∃ i : Nat, v = (i : Int) := ⟨v.toNat, by omega⟩
 refine ⟨_, _, _, rfl, ?_, h1, h2⟩
 rw [rd_get l i (by omega)]
 exact List.getElem_mem _
theorem of_d {code : List Int} (hc : codeOk code) (p s : Int) (hp : 0 ≤ p ∧ p ≤ 90000000) (l : List ByteArray) (hl : 1 ≤ l.length ∧ l.length ≤ 200) : Drawn (fun v => v ∈ l) (spec_l1Cur_of.f code p s l) p 2 := by
 unfold spec_l1Cur_of.f
 obtain ⟨v, p', s', h, hv, h1, h2⟩ := (pick_d hc p s hp (l.length : Int) (by omega)).ex
 have hv' := hv.2 (by omega)
 rw [h, Option.bind_some, if_pos hv.1, if_pos hv']
 obtain ⟨i, rfl⟩ : ∃ i : Nat, v = (i : Int) := ⟨v.toNat, by omega⟩
 refine ⟨_, _, _, rfl, ?_, h1, h2⟩
 rw [rdOf_get _ l i (by omega)]
 exact List.getElem_mem _
def asc (a : ByteArray) : Bool := a.data.toList.all fun b => decide (b.toNat < 128)
theorem asc_app (a b : ByteArray) (ha : asc a = true) (hb : asc b = true) : asc (a ++ b) = true := by
 unfold asc at *
 rw [ByteArray.data_append, Array.toList_append, List.all_append, ha, hb]
 rfl
theorem sure_ev {code : List Int} (hc : codeOk code) : ∀ (d : Nat) (x : ByteArray) (p s : Int), x.size + d ≤ 1000 → asc x = true → (0 ≤ p ∧ p + 2 * d ≤ 80000000) → ∃ r, Ev (fun k => spec_l1Cur_sureDeliveries.l0 k (d : Int) x code p s) r ∧ asc r.1 = true ∧ r.1.size = x.size + d ∧ p ≤ r.2.1 ∧ r.2.1 ≤ p + 2 * d
 | 0, x, p, s, hx, ha, hp => ⟨(x, p, s), Ev.stop fun k => by simp only [spec_l1Cur_sureDeliveries.l0]; rw [if_neg (by omega)], ha, rfl, Int.le_refl _, by simp⟩
 | d + 1, x, p, s, hx, ha, hp => by
  obtain ⟨v, p', s', h, hv, h1, h2⟩ := (of_d hc p s (by omega) [(⟨#[108]⟩ : ByteArray), (⟨#[114]⟩ : ByteArray), (⟨#[98]⟩ : ByteArray), (⟨#[45]⟩ : ByteArray), (⟨#[45]⟩ : ByteArray)] (by simp)).ex
  have hL : ([(⟨#[108]⟩ : ByteArray), (⟨#[114]⟩ : ByteArray), (⟨#[98]⟩ : ByteArray), (⟨#[45]⟩ : ByteArray), (⟨#[45]⟩ : ByteArray)].all fun v => asc v && v.size == 1) = true := by rfl
  have hv2 := List.all_eq_true.1 hL v hv
  rw [Bool.and_eq_true, beq_iff_eq] at hv2
  obtain ⟨r, hr, r1, r2, r3, r4⟩ := sure_ev hc d (x ++ v) p' s' (by rw [ByteArray.size_append]; omega) (asc_app x v ha hv2.1) (by omega)
  refine ⟨r, Ev.to _ (fun k => ?_) hr, r1, by rw [r2, ByteArray.size_append]; omega, by omega, by omega⟩
  simp only [spec_l1Cur_sureDeliveries.l0]
  rw [if_pos (by omega), h, Option.bind_some]
  simp only
  rw [if_pos (by omega), w64 (by omega) (by omega)]
  have e : ((d + 1 : Nat) : Int) - 1 = (d : Int) := by omega
  rw [e]
theorem deliveries_ev {code : List Int} (hc : codeOk code) (p s : Int) (hp : 0 ≤ p ∧ p ≤ 70000000) : ∃ r, Ev (fun k => spec_l1Cur_deliveries.f k code p s) r ∧ asc r.1 = true ∧ r.1.size ≤ 61 ∧ p ≤ r.2.1 ∧ r.2.1 ≤ p + 100 := by
 unfold spec_l1Cur_deliveries.f
 obtain ⟨v, p1, s1, h, _, h1, h2⟩ := (one_d hc p s (by omega) 12 (by omega)).ex
 simp only [h, Option.bind_some]
 cases v
 ·obtain ⟨q, p2, s2, hq, hq0, h3, h4⟩ := (pick_d hc p1 s1 (by omega) 12 (by omega)).ex
  have hq1 := hq0.2 (by omega)
  have hq2 := hq0.1
  simp only [hq, Option.bind_some]
  have e : wrap64 (1 + q) = (((1 + q).toNat : Nat) : Int) := by rw [w64 (by omega) (by omega)]; omega
  rw [e]
  obtain ⟨r, hr, r1, r2, r3, r4⟩ := sure_ev hc (1 + q).toNat ⟨#[]⟩ p2 s2 (by show 0 + _ ≤ 1000; omega) rfl (by omega)
  refine ⟨(r.1, r.2.1, r.2.2), Ev.itef (by simp) (Ev.bind (by unfold spec_l1Cur_sureDeliveries.f; exact hr) (Ev.now _)), r1, ?_, ?_, ?_⟩
  ·rw [r2]; show 0 + _ ≤ 61; omega
  ·show p ≤ r.2.1; omega
  ·show r.2.1 ≤ p + 100; omega
 ·obtain ⟨v, p2, s2, hv, hvm, h3, h4⟩ := (of_d hc p1 s1 (by omega) [(⟨#[]⟩ : ByteArray), (⟨#[120]⟩ : ByteArray), (⟨#[108, 114, 32]⟩ : ByteArray), (⟨#[76]⟩ : ByteArray), (⟨#[45, 45, 45, 45, 45]⟩ : ByteArray), (⟨#[108, 108, 108, 108, 108, 108, 108, 108, 108, 108, 108, 108, 108, 108, 108, 108, 108, 108, 108, 108, 108, 108, 108, 108, 108, 108, 108, 108, 108, 108, 108, 108, 108, 108, 108, 108, 108, 108, 108, 108, 108, 108, 108, 108, 108, 108, 108, 108, 108, 108, 108, 108, 108, 108, 108, 108, 108, 108, 108, 108, 114]⟩ : ByteArray)] (by simp)).ex
  have hL : ([(⟨#[]⟩ : ByteArray), (⟨#[120]⟩ : ByteArray), (⟨#[108, 114, 32]⟩ : ByteArray), (⟨#[76]⟩ : ByteArray), (⟨#[45, 45, 45, 45, 45]⟩ : ByteArray), (⟨#[108, 108, 108, 108, 108, 108, 108, 108, 108, 108, 108, 108, 108, 108, 108, 108, 108, 108, 108, 108, 108, 108, 108, 108, 108, 108, 108, 108, 108, 108, 108, 108, 108, 108, 108, 108, 108, 108, 108, 108, 108, 108, 108, 108, 108, 108, 108, 108, 108, 108, 108, 108, 108, 108, 108, 108, 108, 108, 108, 108, 114]⟩ : ByteArray)].all fun v => asc v && decide (v.size ≤ 61)) = true := by rfl
  have hv2 := List.all_eq_true.1 hL v hvm
  rw [Bool.and_eq_true, decide_eq_true_eq] at hv2
  refine ⟨(v, p2, s2), Ev.itet rfl ?_, hv2.1, hv2.2, by show p ≤ p2; omega, by show p2 ≤ p + 100; omega⟩
  rw [hv, Option.bind_some]
  exact Ev.now _
theorem big_f (l m : List Int) : (laws_big.f l m = some true) ∨ (laws_big.f l m = some false ∧ l.length ≤ 1048576 ∧ m.length ≤ 1048576) := by
 unfold laws_big.f
 by_cases h : (l.length : Int) > 1048576
 ·rw [if_pos h]; exact .inl rfl
 ·rw [if_neg h, w64 (by omega) (by omega)]
  by_cases h2 : (m.length : Int) > 1048576 - (l.length : Int)
  ·rw [decide_eq_true h2]; exact .inl rfl
  ·rw [decide_eq_false h2]; exact .inr ⟨rfl, by omega, by omega⟩
theorem street_d {code : List Int} (hc : codeOk code) (p s : Int) (hp : 0 ≤ p ∧ p ≤ 80000000) : ∃ kd n p' s', spec_l1Cur_street.f code p s = some (kd, n, p', s') ∧ p ≤ p' ∧ p' ≤ p + 10 := by
 unfold spec_l1Cur_street.f spec_l1Cur_sureStreet.f
 obtain ⟨a, p1, s1, h1, _, b1, c1⟩ := (pick_d hc p s (by omega) 3 (by omega)).ex
 obtain ⟨b, p2, s2, h2, _, b2, c2⟩ := (pick_d hc p1 s1 (by omega) 12 (by omega)).ex
 obtain ⟨c, p3, s3, h3, _, b3, c3⟩ := (pick_d hc p2 s2 (by omega) 14 (by omega)).ex
 simp only [h1, h2, h3, Option.bind_some]
 by_cases e0 : c = 0
 ·obtain ⟨d, p4, s4, h4, _, b4, c4⟩ := (among_d hc p3 s3 (by omega) [(-1), 3, 4611686018427387904] (by simp)).ex
  simp only [if_pos e0, h4, Option.bind_some]
  exact ⟨_, _, _, _, rfl, by omega, by omega⟩
 ·by_cases e1 : c = 1
  ·obtain ⟨d, p4, s4, h4, _, b4, c4⟩ := (among_d hc p3 s3 (by omega) [0, (-1), 1000, 1001, 4611686018427387904] (by simp)).ex
   simp only [if_neg e0, if_pos e1, h4, Option.bind_some]
   exact ⟨_, _, _, _, rfl, by omega, by omega⟩
  ·simp only [if_neg e0, if_neg e1]
   exact ⟨_, _, _, _, rfl, by omega, by omega⟩
theorem dnums_l0 {code : List Int} (hc : codeOk code) (kd : Int) (n : Nat) : ∀ (d j : Nat) (x : ByteArray) (p s : Int), j + d = n → n ≤ 60 → x.size = j → (0 ≤ p ∧ p + 10 * d ≤ 70000000) → ∃ t : ByteArray, Ev (fun k => spec_DrawNumbersOf.l0 k x (j : Int) code p s kd (n : Int)) (kd, (n : Int), t) ∧ t.size ≤ 61
 | 0, j, x, p, s, hj, hn, hx, hp => ⟨x, Ev.stop fun k => by simp only [spec_DrawNumbersOf.l0]; rw [if_neg (by omega)], by omega⟩
 | d + 1, j, x, p, s, hj, hn, hx, hp => by
  have w1 : wrap64 ((j : Int) + 1) = ((j + 1 : Nat) : Int) := by rw [w64 (by omega) (by omega)]; rfl
  have step : ∀ (y : Bool) (p1 s1 : Int), (p ≤ p1 ∧ p1 ≤ p + 2) → ∃ t : ByteArray, Ev (fun k => spec_DrawNumbersOf.j2 k x (j : Int) y code p1 s1 kd (n : Int)) (kd, (n : Int), t) ∧ t.size ≤ 61 := by
   intro y p1 s1 h1
   have go : ∀ (v : ByteArray) (p2 s2 : Int), v.size = 1 → (p1 ≤ p2 ∧ p2 ≤ p1 + 4) → ∃ t : ByteArray, Ev (fun k => if x.size + v.size ≤ 9223372036854775807 then spec_DrawNumbersOf.l0 k (x ++ v) (wrap64 ((j : Int) + 1)) code p2 s2 kd (n : Int) else none) (kd, (n : Int), t) ∧ t.size ≤ 61 := by
    intro v p2 s2 hv h2
    obtain ⟨t, ht, hs⟩ := dnums_l0 hc kd n d (j + 1) (x ++ v) p2 s2 (by omega) hn (by rw [ByteArray.size_append]; omega) (by omega)
    rw [w1]
    exact ⟨t, Ev.itet (by omega) ht, hs⟩
   cases y
   ·obtain ⟨r, hr, _, h2, h3, h4⟩ := sure_ev hc 1 ⟨#[]⟩ p1 s1 (by show 0 + 1 ≤ 1000; omega) rfl (by omega)
    obtain ⟨t, ht, hs⟩ := go r.1 r.2.1 r.2.2 (by rw [h2]; rfl) (by omega)
    refine ⟨t, Ev.succ ?_, hs⟩
    simp only [spec_DrawNumbersOf.j2]
    exact Ev.itef (by simp) (Ev.bind (by unfold spec_l1Cur_sureDeliveries.f; exact hr) ht)
   ·obtain ⟨v, p2, s2, h2, hm, h3, h4⟩ := (of_d hc p1 s1 (by omega) [(⟨#[108]⟩ : ByteArray), (⟨#[45]⟩ : ByteArray)] (by simp)).ex
    have hL : ([(⟨#[108]⟩ : ByteArray), (⟨#[45]⟩ : ByteArray)].all fun v => v.size == 1) = true := by rfl
    have hv := List.all_eq_true.1 hL v hm
    rw [beq_iff_eq] at hv
    obtain ⟨t, ht, hs⟩ := go v p2 s2 hv (by omega)
    refine ⟨t, Ev.succ ?_, hs⟩
    simp only [spec_DrawNumbersOf.j2, h2, Option.bind_some]
    exact Ev.itet trivial ht
  by_cases hk : kd = 0
  ·obtain ⟨b, p1, s1, h1, _, h2, h3⟩ := (one_d hc p s (by omega) 12 (by omega)).ex
   obtain ⟨t, ht, hs⟩ := step (!b) p1 s1 ⟨h2, h3⟩
   refine ⟨t, Ev.succ ?_, hs⟩
   simp only [spec_DrawNumbersOf.l0, h1, Option.bind_some]
   exact Ev.itet (by omega) (Ev.itet hk ht)
  ·obtain ⟨t, ht, hs⟩ := step false p s (by omega)
   refine ⟨t, Ev.succ ?_, hs⟩
   simp only [spec_DrawNumbersOf.l0]
   exact Ev.itet (by omega) (Ev.itef hk ht)
theorem drawNums_ev {code : List Int} (hc : codeOk code) : ∃ kd n : Int, ∃ t : ByteArray, ∃ a : Int, Ev (fun k => spec_DrawRouteNumbers.f k code) (kd, n, t, a) ∧ t.size ≤ 61 := by
 obtain ⟨kd, n, p, s, hs, h1, h2⟩ := street_d hc 0 0 (by omega)
 have j0 : ∀ (y : Bool) (p1 s1 : Int), (0 ≤ p1 ∧ p1 ≤ 100) → (y = false → 1 ≤ n ∧ n ≤ 60) → ∃ t : ByteArray, Ev (fun k => spec_DrawNumbersOf.j0 k y code p1 s1 kd n) (kd, n, t) ∧ t.size ≤ 61 := by
  intro y p1 s1 hp hy
  cases y
  ·obtain ⟨m, rfl⟩ : ∃ m : Nat, n = (m : Int) := ⟨n.toNat, by have := hy rfl; omega⟩
   obtain ⟨t, ht, hz⟩ := dnums_l0 hc kd m m 0 ⟨#[]⟩ p1 s1 (by omega) (by have := hy rfl; omega) rfl (by have := hy rfl; omega)
   refine ⟨t, Ev.succ ?_, hz⟩
   simp only [spec_DrawNumbersOf.j0]
   exact Ev.itef (by simp) ht
  ·obtain ⟨r, hr, _, hz, _, _⟩ := deliveries_ev hc p1 s1 (by omega)
   refine ⟨r.1, Ev.succ ?_, hz⟩
   simp only [spec_DrawNumbersOf.j0]
   exact Ev.itet trivial (Ev.bind hr (Ev.now _))
 have key : ∃ t : ByteArray, Ev (fun k => spec_DrawNumbersOf.f k code) (kd, n, t) ∧ t.size ≤ 61 := by
  unfold spec_DrawNumbersOf.f spec_nuGood.f
  simp only [hs, Option.bind_some, l1In_f]
  by_cases g1 : 0 ≤ kd ∧ kd ≤ 2
  ·simp only [decide_eq_true g1, if_true, Option.bind_some]
   by_cases g2 : 1 ≤ n ∧ n ≤ 1000
   ·simp only [decide_eq_true g2, if_true]
    by_cases g3 : n > 60
    ·simp only [if_pos g3]
     exact j0 true p s (by omega) (fun h => by cases h)
    ·simp only [if_neg g3]
     obtain ⟨b, p1, s1, h3, _, h4, h5⟩ := (one_d hc p s (by omega) 12 (by omega)).ex
     simp only [h3, Option.bind_some]
     exact j0 b p1 s1 (by omega) (fun _ => by omega)
   ·simp only [decide_eq_false g2, Bool.false_eq_true, if_false]
    exact j0 true p s (by omega) (fun h => by cases h)
  ·simp only [decide_eq_false g1, Bool.false_eq_true, if_false, Option.bind_some]
   exact j0 true p s (by omega) (fun h => by cases h)
 obtain ⟨t, ht, hz⟩ := key
 refine ⟨kd, n, t, (code.length : Int) % 4, ?_, hz⟩
 unfold spec_DrawRouteNumbers.f
 exact Ev.bind ht (Ev.now _)
theorem drawDel_ev {code : List Int} (hc : codeOk code) : ∃ kd n : Int, ∃ l : List Int, Ev (fun k => spec_DrawDeliveriesOf.f k code) (kd, n, l) ∧ l.length ≤ 100 := by
 obtain ⟨kd, n, p, s, hs, h1, h2⟩ := street_d hc 0 0 (by omega)
 have hh : ∃ t : Int, spec_nuHouses.f kd n = some t := by
  unfold spec_nuHouses.f
  split <;> exact ⟨_, rfl⟩
 obtain ⟨t, ht⟩ := hh
 have hl : ∃ m : Int, spec_l1Least.f 30 t = some m ∧ m ≤ 30 := by
  unfold spec_l1Least.f
  split
  ·exact ⟨30, rfl, by omega⟩
  ·exact ⟨t, rfl, by omega⟩
 obtain ⟨m, hm, hm30⟩ := hl
 have key : ∀ (d i : Nat) (l : List Int) (p s : Int), i + d = 31 → l.length ≤ i → (0 ≤ p ∧ p + 10 * d ≤ 1000) → ∃ l' : List Int, Ev (fun k => spec_DrawDeliveriesOf.l0 k l (i : Int) code p s kd n) (kd, n, l') ∧ l'.length ≤ 100 := by
  intro d
  have fin : ∀ (i : Nat) (l : List Int) (p s : Int), i ≤ 31 → ¬ (i : Int) ≤ m → l.length ≤ i → (0 ≤ p ∧ p ≤ 1000) → ∃ l' : List Int, Ev (fun k => spec_DrawDeliveriesOf.l0 k l (i : Int) code p s kd n) (kd, n, l') ∧ l'.length ≤ 100 := by
   intro i l p s hi hg hl hp
   obtain ⟨b, p1, s1, h3, _, h4, h5⟩ := (one_d hc p s (by omega) 10 (by omega)).ex
   cases b
   ·refine ⟨l, Ev.succ ?_, by omega⟩
    simp only [spec_DrawDeliveriesOf.l0, ht, hm, h3, Option.bind_some]
    exact Ev.itef hg (Ev.itef (by simp) (Ev.now _))
   ·obtain ⟨x, p2, s2, h6, _, h7, h8⟩ := (among_d hc p1 s1 (by omega) [0, 1, 25, 4611686018427387904] (by simp)).ex
    refine ⟨l ++ [x], Ev.succ ?_, by simp; omega⟩
    simp only [spec_DrawDeliveriesOf.l0, ht, hm, h3, h6, Option.bind_some]
    exact Ev.itef hg (Ev.itet trivial (Ev.itet (by omega) (Ev.now _)))
  induction d with
  | zero => exact fun i l p s hi hl hp => fin i l p s (by omega) (by omega) hl (by omega)
  | succ d ih =>
   intro i l p s hi hl hp
   by_cases hg : (i : Int) ≤ m
   ·obtain ⟨b, p1, s1, h3, _, h4, h5⟩ := (one_d hc p s (by omega) 3 (by omega)).ex
    have w1 : wrap64 ((i : Int) + 1) = ((i + 1 : Nat) : Int) := by rw [w64 (by omega) (by omega)]; rfl
    cases b
    ·obtain ⟨l', g1, g2⟩ := ih (i + 1) l p1 s1 (by omega) (by omega) (by omega)
     refine ⟨l', Ev.succ ?_, g2⟩
     simp only [spec_DrawDeliveriesOf.l0, ht, hm, h3, Option.bind_some, w1]
     exact Ev.itet hg (Ev.itef (by simp) g1)
    ·obtain ⟨l', g1, g2⟩ := ih (i + 1) (l ++ [(i : Int)]) p1 s1 (by omega) (by simp; omega) (by omega)
     refine ⟨l', Ev.succ ?_, g2⟩
     simp only [spec_DrawDeliveriesOf.l0, ht, hm, h3, Option.bind_some, w1]
     exact Ev.itet hg (Ev.itet trivial (Ev.itet (by omega) g1))
   ·exact fin i l p s (by omega) hg hl (by omega)
 obtain ⟨l, h3, h4⟩ := key 30 1 [] p s (by omega) (by simp) (by omega)
 refine ⟨kd, n, l, ?_, h4⟩
 unfold spec_DrawDeliveriesOf.f
 simp only [hs, Option.bind_some]
 exact h3
theorem drawBusy_ev {code : List Int} (hc : codeOk code) : ∃ t : ByteArray, ∃ m : Int, Ev (fun k => spec_DrawBusiestPart.f k code) (t, m) ∧ t.size ≤ 61 := by
 obtain ⟨r, hr, _, hz, h1, h2⟩ := deliveries_ev hc 0 0 (by omega)
 have w : wrap64 ((r.1.size : Int) + 2) = (r.1.size : Int) + 2 := w64 (by omega) (by omega)
 obtain ⟨v, p, s, h3, _, _, _⟩ := (pick_d hc r.2.1 r.2.2 (by omega) ((r.1.size : Int) + 2) (by omega)).ex
 refine ⟨r.1, v, ?_, hz⟩
 unfold spec_DrawBusiestPart.f
 refine Ev.bind hr ?_
 simp only [w, h3, Option.bind_some]
 exact Ev.now _
theorem drawFree_ev {code : List Int} (hc : codeOk code) : ∃ t : ByteArray, Ev (fun k => spec_DrawLongestFree.f k code) t ∧ t.size ≤ 61 := by
 obtain ⟨r, hr, _, hz, h1, h2⟩ := deliveries_ev hc 0 0 (by omega)
 refine ⟨r.1, ?_, hz⟩
 unfold spec_DrawLongestFree.f spec_DrawAreDeliveries.f
 exact Ev.bind (Ev.bind hr (Ev.now _)) (Ev.now _)
theorem drawJoin_ev {code : List Int} (hc : codeOk code) : ∃ u v : ByteArray, Ev (fun k => spec_DrawJoinDeliveries.f k code) (u, v) ∧ u.size ≤ 61 ∧ v.size ≤ 61 := by
 obtain ⟨r, hr, _, hz, h1, h2⟩ := deliveries_ev hc 0 0 (by omega)
 obtain ⟨b, p, s, h3, _, h4, h5⟩ := (one_d hc r.2.1 r.2.2 (by omega) 6 (by omega)).ex
 unfold spec_DrawJoinDeliveries.f
 cases b
 ·obtain ⟨q, hq, _, hy, _, _⟩ := deliveries_ev hc p s (by omega)
  refine ⟨r.1, q.1, Ev.bind hr ?_, hz, hy⟩
  simp only [h3, Option.bind_some]
  exact Ev.itef (by simp) (Ev.bind hq (Ev.now _))
 ·obtain ⟨q, hq, _, hy, _, _⟩ := sure_ev hc 54 ⟨#[]⟩ p s (by show 0 + 54 ≤ 1000; omega) rfl (by omega)
  refine ⟨r.1, q.1, Ev.bind hr ?_, hz, by rw [hy]; show 0 + 54 ≤ 61; omega⟩
  simp only [h3, Option.bind_some]
  exact Ev.itet trivial (Ev.bind (by unfold spec_l1Cur_sureDeliveries.f; exact hq) (Ev.now _))
theorem j11_ev (u v : ByteArray) (hu : u.size ≤ 61) (hv : v.size ≤ 61) : Ev (fun k => laws_FnPostDelivers.j11 k u v (joinR u v).1 (joinR u v).2) true := by
 refine Ev.succ ?_
 simp only [laws_FnPostDelivers.j11]
 unfold joinR
 cases h : deliv u && (deliv v && deliv (u ++ v))
 ·exact Ev.itef (by simp) (Ev.now _)
 ·simp only [Bool.and_eq_true] at h
  have hz : (u ++ v).size = u.size + v.size := ByteArray.size_append ..
  have k1 := implK_ev (u ++ v) (by omega)
  have k2 := implK_ev u (by omega)
  have k3 := implK_ev v (by omega)
  unfold resK at k1 k2 k3
  rw [h.2.2] at k1
  rw [h.1] at k2
  rw [h.2.1] at k3
  simp only [if_true] at k1 k2 k3
  have e : cnt (u ++ v).data.toList = cnt u.data.toList + cnt v.data.toList := by rw [ByteArray.data_append, Array.toList_append, cnt_append]
  have c1 := cnt_le u.data.toList
  have c2 := cnt_le v.data.toList
  have l1 := len_data u
  have l2 := len_data v
  refine Ev.itet rfl (Ev.bind k1 (Ev.bind k2 (Ev.bind k3 (Ev.itet rfl (Ev.itet rfl (Ev.itet rfl (Ev.itet ?_ (Ev.itet (by omega) (Ev.itet rfl (Ev.now _))))))))))
  simp only
  rw [w64 (by omega) (by omega)]
  exact e
def mirR (s : ByteArray) : ByteArray × Bool := if deliv s then (M s, true) else (⟨#[]⟩, false)
def backR (s : ByteArray) : ByteArray × Bool := if deliv s then (B s, true) else (⟨#[]⟩, false)
theorem j10_ev (s u v : ByteArray) (hs : s.size ≤ 61) (hu : u.size ≤ 61) (hv : v.size ≤ 61) : Ev (fun k => laws_FnPostDelivers.j10 k s (mirR s).1 (mirR s).2 (backR s).1 u v (joinR u v).1 (joinR u v).2) true := by
 refine Ev.succ ?_
 simp only [laws_FnPostDelivers.j10]
 cases h : deliv s
 ·have e : (mirR s).2 = false := by unfold mirR; rw [h]; rfl
  rw [e]
  exact Ev.itef (by simp) (j11_ev u v hu hv)
 ·have e1 : mirR s = (M s, true) := by unfold mirR; rw [h]; rfl
  have e2 : backR s = (B s, true) := by unfold backR; rw [h]; rfl
  have m1 := implM_ev (M s) (by rw [M_size]; omega)
  have m2 := implB_ev (B s) (by rw [B_size]; omega)
  have k1 := implK_ev s (by omega)
  have k2 := implK_ev (M s) (by rw [M_size]; omega)
  unfold resK at k1 k2
  rw [M_deliv h] at m1 k2
  rw [B_deliv h] at m2
  rw [h] at k1
  rw [M_list, cnt_mir] at k2
  rw [M_M] at m1
  rw [B_B] at m2
  rw [e1, e2]
  exact Ev.itet rfl (Ev.bind m1 (Ev.bind m2 (Ev.bind k1 (Ev.bind k2 (Ev.itet rfl (Ev.itet rfl (Ev.itet rfl (Ev.itet rfl (Ev.itet rfl (Ev.itet rfl (Ev.itet rfl (j11_ev u v hu hv))))))))))))
theorem l2_ev (s u v : ByteArray) (hs : s.size ≤ 61) (hu : u.size ≤ 61) (hv : v.size ≤ 61) (f l : Nat) (h1 : 1 ≤ l) (h2 : f + l ≤ s.size) (h3 : ∀ j, f ≤ j → j < f + l → bt s (j : Int) = 45) (h4 : f = 0 ∨ ¬ bt s ((f - 1 : Nat) : Int) = 45) (h5 : f + l < s.size → ¬ bt s ((f + l : Nat) : Int) = 45) :
  ∀ (d i : Nat), i + d = f + l → f ≤ i → Ev (fun k => laws_FnPostDelivers.l2 k s (f : Int) (l : Int) (mirR s).1 (mirR s).2 (backR s).1 u v (joinR u v).1 (joinR u v).2 (i : Int)) true
 | 0, i, hi, hf => by
  have w : wrap64 ((f : Int) + l) = ((f + l : Nat) : Int) := by rw [w64 (by omega) (by omega)]; omega
  have fin : Ev (fun k => if ((f + l : Nat) : Int) < (s.size : Int) then (if 0 ≤ ((f + l : Nat) : Int) then (if bt s ((f + l : Nat) : Int) = 45 then none else laws_FnPostDelivers.j10 k s (mirR s).1 (mirR s).2 (backR s).1 u v (joinR u v).1 (joinR u v).2) else none) else laws_FnPostDelivers.j10 k s (mirR s).1 (mirR s).2 (backR s).1 u v (joinR u v).1 (joinR u v).2) true := by
   by_cases hc : f + l < s.size
   ·exact Ev.itet (by omega) (Ev.itet (by omega) (Ev.itef (h5 hc) (j10_ev s u v hs hu hv)))
   ·exact Ev.itef (by omega) (j10_ev s u v hs hu hv)
  refine Ev.succ ?_
  simp only [laws_FnPostDelivers.l2]
  rw [w]
  refine Ev.itef (by omega) ?_
  by_cases hf0 : f = 0
  ·exact Ev.itef (by omega) fin
  ·have w2 : wrap64 ((f : Int) - 1) = ((f - 1 : Nat) : Int) := by rw [w64 (by omega) (by omega)]; omega
   rw [w2]
   exact Ev.itet (by omega) (Ev.itet (by omega) (Ev.itet (by omega) (Ev.itef (h4.resolve_left hf0) fin)))
 | d + 1, i, hi, hf => by
  have w : wrap64 ((f : Int) + l) = ((f + l : Nat) : Int) := by rw [w64 (by omega) (by omega)]; omega
  have w1 : wrap64 ((i : Int) + 1) = ((i + 1 : Nat) : Int) := by rw [w64 (by omega) (by omega)]; rfl
  refine Ev.to _ (fun k => ?_) (l2_ev s u v hs hu hv f l h1 h2 h3 h4 h5 d (i + 1) (by omega) (by omega))
  simp only [laws_FnPostDelivers.l2]
  rw [w, w1, if_pos (by omega), if_pos (by omega), if_pos (by omega), if_pos (h3 i hf (by omega))]
theorem j7_ev (s u v : ByteArray) (hs : s.size ≤ 61) (hu : u.size ≤ 61) (hv : v.size ≤ 61) (f l : Nat) (ok : Bool) (h : LE s f l) (hok : ok = true → 1 ≤ l ∧ deliv s = true) : Ev (fun k => laws_FnPostDelivers.j7 k s (f : Int) (l : Int) ok (mirR s).1 (mirR s).2 (backR s).1 u v (joinR u v).1 (joinR u v).2) true := by
 refine Ev.succ ?_
 simp only [laws_FnPostDelivers.j7]
 cases ok
 ·exact Ev.itef (by simp) (j10_ev s u v hs hu hv)
 ·have h1 := (hok rfl).1
  rcases h with h | ⟨h2, h3, h4, h5, h6⟩
  ·omega
  ·have w : wrap64 ((f : Int) + l) = ((f + l : Nat) : Int) := by rw [w64 (by omega) (by omega)]; omega
   rw [w]
   refine Ev.itet rfl (Ev.itef (by omega) (Ev.itef (by omega) (Ev.succ ?_)))
   simp only [laws_FnPostDelivers.j8]
   rw [decide_eq_false (by omega)]
   exact Ev.itef (by simp) (l2_ev s u v hs hu hv f l h1 h3 h4 h5 h6 l f (by omega) (by omega))
theorem l1_ev (t : ByteArray) (m : Nat) (b c : Int) (hd : deliv t = true) (hm : 1 ≤ m ∧ m ≤ t.size) (h : BP t m (t.size + 1 - m) b c) (G : Nat → Option Bool) (hG : Ev G true) (s mi ba u v jo : ByteArray) (f l : Int) (ok o2 o3 : Bool) (e : ∀ k, laws_FnPostDelivers.j7 k s f l ok mi o2 ba u v jo o3 = G k) :
  ∀ (d i : Nat), i + m + d = t.size + 1 → Ev (fun k => laws_FnPostDelivers.l1 k t (m : Int) b c s f l ok mi o2 ba u v jo o3 (i : Int)) true
 | 0, i, hi => by
  have hn := deliv_len hd
  have w : wrap64 ((i : Int) + m) = (i : Int) + m := w64 (by omega) (by omega)
  refine Ev.to G (fun k => ?_) hG
  simp only [laws_FnPostDelivers.l1, w]
  rw [if_neg (by omega), e]
 | d + 1, i, hi => by
  have hn := deliv_len hd
  have w : wrap64 ((i : Int) + m) = (i : Int) + m := w64 (by omega) (by omega)
  have w1 : wrap64 ((i : Int) + 1) = ((i + 1 : Nat) : Int) := by rw [w64 (by omega) (by omega)]; rfl
  have en : ((i : Int) + m).toNat = i + m := by omega
  have ih := l1_ev t m b c hd hm h G hG s mi ba u v jo f l ok o2 o3 e d (i + 1) (by omega)
  have hp := part_deliv hd hm.1 (show i + m ≤ t.size by omega)
  have k1 := implK_ev (t.extract i (i + m)) (by rw [ByteArray.size_extract]; omega)
  unfold resK at k1
  rw [hp] at k1
  have hl := h.le i (by omega)
  have hat : ∀ c' : Nat, b = (c' : Int) → part t m c' = c := fun c' hc' => by
   rcases h.at_ with ⟨h3, _⟩ | ⟨c2, h3, _, h5⟩
   ·omega
   ·obtain rfl : c' = c2 := by omega
    exact h5
  refine Ev.succ ?_
  simp only [laws_FnPostDelivers.l1, w, w1, en, Int.toNat_natCast]
  refine Ev.itet (by omega) (Ev.itet (by omega) (Ev.itet (by omega) (Ev.bind k1 (Ev.itet rfl (Ev.itef (by have := hl.1; unfold part at this; simp only [if_true]; omega) ?_)))))
  by_cases hq : part t m i = c
  ·refine Ev.itet hq (Ev.itef (by have := hl.2 hq; omega) ?_)
   by_cases hb : (i : Int) = b
   ·exact Ev.itet hb ih
   ·exact Ev.itef hb ih
  ·exact Ev.itef hq (Ev.itef (fun hb => hq (hat i hb.symm)) ih)
theorem q3_ev {more : List Int} (hc : codeOk more) : Ev (fun k => laws_FnPostDelivers.j3 k more) true := by
 obtain ⟨kd, p, l, d1, hl⟩ := drawDel_ev hc
 obtain ⟨t, m, d2, ht⟩ := drawBusy_ev hc
 obtain ⟨s, d3, hs⟩ := drawFree_ev hc
 obtain ⟨u, v, d4, hu, hv⟩ := drawJoin_ev hc
 obtain ⟨b, c, okb, b1, b2, b3⟩ := busy_both t (by omega) m
 obtain ⟨f, n, okf, f0, f1, f2, f3⟩ := free_both s (by omega)
 have m1 : Ev (fun k => impl_MirrorDeliveries.f k s) (mirR s) := implM_ev s (by omega)
 have m2 : Ev (fun k => spec_MirrorDeliveries.f k s) (mirR s) := specM_ev s (by omega)
 have a1 : Ev (fun k => impl_BackDeliveries.f k s) (backR s) := implB_ev s (by omega)
 have a2 : Ev (fun k => spec_BackDeliveries.f k s) (backR s) := specB_ev s (by omega)
 have e3 : (backR s).2 = (mirR s).2 := by unfold backR mirR; cases deliv s <;> rfl
 have q := j7_ev s u v hs hu hv f n okf f0 f1
 refine Ev.succ ?_
 simp only [laws_FnPostDelivers.j3]
 refine Ev.bind d1 (Ev.bind (implD_ev kd p l (by omega)) (Ev.bind (specD_ev kd p l (by omega)) (Ev.bind d2 (Ev.bind b2 (Ev.bind b1 (Ev.bind d3 (Ev.bind f2 (Ev.bind f3 (Ev.bind m1 (Ev.bind m2 (Ev.bind a1 (Ev.bind a2 (Ev.bind d4 (Ev.bind (implJ_ev u v (by omega) (by omega)) (Ev.bind (specJ_ev u v (by omega) (by omega)) ?_)))))))))))))))
 refine Ev.itef (by simp) (Ev.itet rfl (Ev.itef (by simp) (Ev.itet rfl (Ev.itet rfl (Ev.itef (by simp) (Ev.itet rfl (Ev.itet rfl (Ev.itef (by simp) (Ev.itet rfl (Ev.itef (by simp) (Ev.itet rfl (Ev.itef (by simp) (Ev.itet rfl (Ev.succ ?_))))))))))))))
 simp only [laws_FnPostDelivers.j4]
 have j5 : Ev (fun k => laws_FnPostDelivers.j5 k t m b c okb s (f : Int) (n : Int) okf (mirR s).1 (mirR s).2 (backR s).1 u v (joinR u v).1 (joinR u v).2) true := by
  refine Ev.succ ?_
  simp only [laws_FnPostDelivers.j5]
  cases okb
  ·exact Ev.itef (by simp) q
  ·obtain ⟨hd, n', rfl, h1, h2, h3⟩ := b3 rfl
   exact Ev.itet rfl (l1_ev t n' b c hd ⟨h1, h2⟩ h3 _ q s _ _ u v _ f n okf _ _ (fun k => rfl) (t.size + 1 - n') 0 (by omega))
 refine Ev.itef (by rw [e3]; simp) ?_
 cases hk : okD kd p l
 ·have e : resD kd p l = (⟨#[]⟩, false) := by unfold resD; rw [hk]; rfl
  rw [e]
  exact Ev.itef (by simp) j5
 ·have e : resD kd p l = (str (drow kd p l p.toNat), true) := by unfold resD; rw [hk]; rfl
  rw [e]
  have hp : p.toNat ≤ 60 := by
   simp only [okD, Bool.and_eq_true, decide_eq_true_eq] at hk
   omega
  have hN := implN_ev kd p (str (drow kd p l p.toNat)) (by rw [str_size, drow_len]; omega)
  rw [resN_drow hk] at hN
  exact Ev.itet rfl (Ev.bind hN (Ev.itet rfl (Ev.bind (zSame_ev l (by omega)) (Ev.itet rfl j5))))
theorem ord_ev {more : List Int} (hc : codeOk more) {kd p : Int} {s : ByteArray} (hf : fits kd p s = true) (L : List Int) (hL : L.length ≤ 1000) (hpw : L.Pairwise (Falls kd p s)) (hm : ∀ x ∈ L, ∃ o j, HouseAt s kd p s.size x o j) :
  ∀ (d i : Nat) (b : Int), i + d = L.length → (∀ j (hj : j < L.length), i ≤ j → ∀ o q, HouseAt s kd p s.size L[j] o q → b ≤ (q : Int)) → Ev (fun k => laws_FnPostDelivers.l0 k more L (R kd p s) b L (L.length : Int) (i : Int) kd p) true
 | 0, i, b, hi, hb => by
  refine Ev.succ ?_
  simp only [laws_FnPostDelivers.l0]
  exact Ev.itef (by omega) (q3_ev hc)
 | d + 1, i, b, hi, hb => by
  have hlt : i < L.length := by omega
  obtain ⟨o, q, hx⟩ := hm _ (List.getElem_mem hlt)
  have w1 : wrap64 ((i : Int) + 1) = ((i + 1 : Nat) : Int) := by rw [w64 (by omega) (by omega)]; rfl
  have ih := ord_ev hc hf L hL hpw hm d (i + 1) (q : Int) (by omega) (fun j hj hij o' q' hx' => by
   have := (List.pairwise_iff_getElem.1 hpw i j hlt hj (by omega)).2 o q o' q' hx hx'
   omega)
  have h60 := fits_len hf
  have hR := R_len kd p s
  have z1 := zHas_ev (R kd p s) (by omega) L[i]
  rw [decide_eq_true ((R_house L[i]).2 ⟨o, q, hx⟩)] at z1
  have z2 := zHas_ev (L.take i) (by simp; omega) L[i]
  have hn : L[i] ∉ L.take i := by
   intro h
   obtain ⟨j, hj, e⟩ := List.getElem_of_mem h
   have hji : j < i := by simp at hj; omega
   rw [List.getElem_take] at e
   exact (List.pairwise_iff_getElem.1 hpw j i (by omega) hlt hji).1 e
  rw [decide_eq_false hn] at z2
  have hbq := hb i hlt (Nat.le_refl _) o q hx
  refine Ev.succ ?_
  simp only [laws_FnPostDelivers.l0]
  rw [rd_get L i hlt, plot_f hf hx, w1, Int.toNat_natCast]
  simp only [Option.bind_some]
  exact Ev.itet (by omega) (Ev.itet (by omega) (Ev.itet (by omega) (Ev.itet trivial (Ev.bind z1 (Ev.itet rfl (Ev.itet (by omega) (Ev.bind z2 (Ev.itef (by simp) (Ev.itef (by omega) ih)))))))))
theorem main : laws_FnPostDelivers.Pure := by
 intro code more _ _ hw1 _ _ hw2
 refine Ev.rounds ?_
 unfold laws_FnPostDelivers.f
 rcases big_f code more with hb | ⟨hb, h1, h2⟩
 ·simp only [hb, Option.bind_some]
  exact Ev.itet trivial (Ev.now _)
 ·have b8 : ∀ x, (Lit.int .u8 x).wf = true → 0 ≤ x ∧ x ≤ 255 := fun x h => (Go.Lit.wf_int_iff .u8 x).1 h
  have hc : codeOk code := ⟨h1, fun x hx => b8 x (hw1 x hx)⟩;have hm : codeOk more := ⟨h2, fun x hx => b8 x (hw2 x hx)⟩
  simp only [hb, Option.bind_some]
  obtain ⟨kd, p, s, a, hd, hs⟩ := drawNums_ev hc;have hs6 : s.size ≤ 1048576 := by omega
  have hO := resO_len kd p s a;have hN := resN_len kd p s hs6;have q3 := q3_ev hm;have e1 : (resN kd p s).2 = fits kd p s := by unfold resN; cases fits kd p s <;> rfl
  have e2 : (resK s).2 = deliv s := by unfold resK; cases deliv s <;> rfl
  have e3 : (resO kd p s a).2 = (fits kd p s && decide (0 ≤ a ∧ a ≤ 2)) := by unfold resO; cases fits kd p s && decide (0 ≤ a ∧ a ≤ 2) <;> rfl
  have j1 : Ev (fun k => laws_FnPostDelivers.j1 k more (resO kd p s a).1 (resO kd p s a).2 (resN kd p s).1 kd p) true := by
   refine Ev.succ ?_
   simp only [laws_FnPostDelivers.j1]
   cases ho : (resO kd p s a).2
   ·exact Ev.itef (by simp) q3
   ·rw [e3, Bool.and_eq_true, decide_eq_true_eq] at ho
    have hf := ho.1;obtain ⟨g1, g2, g3, g4, _⟩ := fits_all hf;have h60 := deliv_len g3;have eo : (resO kd p s a).1 = impl_routeNumbers.acc kd p s (impl_bestRoute.sides s a s.size) s.size := by unfold resO; rw [hf, decide_eq_true ho.2]; rfl
    have en : (resN kd p s).1 = R kd p s := by unfold resN; rw [hf]; rfl
    have hl := sides_len s a s.size;have h01 := sides_01 s a s.size;have hcn := acc_cnt (kd := kd) (p := p) g3 _ hl h01 s.size (Nat.le_refl _);rw [List.take_of_length_le (by rw [len_data]; exact Nat.le_refl _)] at hcn;have hRc := R_cnt (kd := kd) (p := p) g3;have hal := impl_routeNumbers.acc_len kd p s (impl_bestRoute.sides s a s.size) s.size;rw [eo, en]
    refine Ev.itet rfl (Ev.itet (by omega) ?_)
    exact ord_ev hm hf _ (by omega) (acc_pw g4 h60 _ hl h01 s.size (Nat.le_refl _)) (fun x hx => (acc_mem _ hl h01 x s.size (Nat.le_refl _)).1 hx) _ 0 0 (Nat.zero_add _) (fun j hj _ o q _ => by omega)
  have j0 : ∀ y : Bool, y = false → Ev (fun k => laws_FnPostDelivers.j0 k more s (resO kd p s a).1 (resO kd p s a).2 (resN kd p s).1 (resN kd p s).2 (resK s).1 y kd p) true := by
   intro y hy
   subst hy
   refine Ev.succ ?_
   simp only [laws_FnPostDelivers.j0]
   refine Ev.itef (by simp) ?_
   cases hf : fits kd p s
   ·rw [e1, hf]
    exact Ev.itef (by simp) j1
   ·obtain ⟨g1, g2, g3, g4, _⟩ := fits_all hf
    have h60 := deliv_len g3;have en : resN kd p s = (R kd p s, true) := by unfold resN; rw [hf]; rfl
    have ek : resK s = (cnt s.data.toList, true) := by unfold resK; rw [g3]; rfl
    have hRl := R_len kd p s;have hD := implD_ev kd p (R kd p s) (by omega);rw [resD_R hf] at hD;rw [en] at j1 ⊢;rw [ek]
    exact Ev.itet rfl (Ev.bind hD (Ev.bind (zRises_ev (R kd p s) (by omega) (R_rise kd p s g4 h60)) (Ev.itet rfl (Ev.itet (R_cnt g3) (Ev.itet rfl (Ev.itet rfl j1))))))
  refine Ev.itef (by simp) (Ev.bind hd (Ev.bind (implO_ev kd p s a hs6) (Ev.bind (specO_ev kd p s a hs6) (Ev.bind (implN_ev kd p s hs6) (Ev.bind (specN_ev kd p s hs6) (Ev.bind (implK_ev s hs6) (Ev.bind (specK_ev s hs6) ?_)))))))
  refine Ev.itef (by simp) (Ev.bind (zSame_ev _ hO) (Ev.itet rfl (Ev.itef (by simp) (Ev.bind (zSame_ev _ hN) (Ev.itet rfl (Ev.itef (by simp) (Ev.itet rfl ?_)))))))
  have hfd : fits kd p s = true → deliv s = true := fits_deliv;cases hf : fits kd p s
  ·have e3' : (resO kd p s a).2 = false := by rw [e3, hf]; rfl
   have e1' : (resN kd p s).2 = false := by rw [e1, hf]
   have q := j0 false rfl;rw [e3', e1'] at q ⊢
   exact Ev.itef (by simp) (Ev.itef (by simp) q)
  ·have e1' : (resN kd p s).2 = true := by rw [e1, hf]
   have e2' : (resK s).2 = true := by rw [e2, hfd hf]
   have q := j0 (!(resK s).2) (by rw [e2']; rfl);rw [e1'] at q ⊢;cases ho : (resO kd p s a).2
   ·rw [ho] at q
    exact Ev.itef (by simp) (Ev.itet rfl q)
   ·rw [ho] at q
    exact Ev.itet rfl (Ev.itet rfl q)
end PostDelivers
theorem FnPostDelivers : laws_FnPostDelivers.Pure := PostDelivers.main
end Go.Proofs.YtpopeedfgenebaaGreat.Pure
