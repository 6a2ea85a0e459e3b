/- Cut by wip/cut.py out of the texts of this claim (printed by the kit's printer, or this session's own): what the row's theorem does not reach is struck. Not trusted: Lean checks it. -/
import Derived.Test.YtpopeedfgenebaaGreatZFnPostDeliversWWords
import Derived.Test.YtpopeedfgenebaaGreatZFnPostDeliversWMore
import Derived.Test.YtpopeedfgenebaaGreatZFnPostDeliversWSized
import Derived.RowKit
namespace Go.Proofs.YtpopeedfgenebaaGreatKit
open Go.RowKit Go.Proofs.YtpopeedfgenebaaGreatW.PrintWords Go.Proofs.YtpopeedfgenebaaGreatW.PrintMore
set_option linter.unusedVariables false
theorem w64 {x : Int} (h1 : -9223372036854775808 ≤ x) (h2 : x ≤ 9223372036854775807) : wrap64 x = x := by unfold wrap64; omega
theorem rd_get (l : List Int) (i : Nat) (h : i < l.length) : rd l (i : Int) = l[i] := by
 unfold rd; simp [h]
theorem rdOf_get {α : Type} (d : α) (l : List α) (i : Nat) (h : i < l.length) : rdOf d l (i : Int) = l[i] := by
 unfold rdOf; simp [h]
theorem Ev.stop {α : Type} {g : Nat → Option α} {r : α} (h : ∀ k, g (k + 1) = some r) : Ev g r := Ev.step (f := fun _ => some r) h (Ev.now r)
theorem Ev.to {α : Type} {g : Nat → Option α} (f : Nat → Option α) {r : α} (h : ∀ k, g (k + 1) = f k) (k : Ev f r) : Ev g r := Ev.step h k
theorem Ev.succ {α : Type} {g : Nat → Option α} {r : α} (h : Ev (fun k => g (k + 1)) r) : Ev g r := Ev.step (fun _ => rfl) h
theorem Ev.inj {α : Type} {g : Nat → Option α} {r r' : α} (h : Ev g r) (h' : Ev g r') : r = r' := by
 obtain ⟨K, h⟩ := h
 obtain ⟨K', h'⟩ := h'
 have a := h (K + K') (by omega)
 have b := h' (K + K') (by omega)
 rw [a] at b
 exact Option.some.inj b
theorem Ev.ite {α : Type} {c : Prop} [Decidable c] {g g' : Nat → Option α} {r r' : α} (h : c → Ev g r) (h' : ¬ c → Ev g' r') : Ev (fun k => if c then g k else g' k) (if c then r else r') := by
 by_cases hc : c
 ·simp only [if_pos hc]; exact h hc
 ·simp only [if_neg hc]; exact h' hc
theorem Ev.itet {α : Type} {c : Prop} [Decidable c] {g g' : Nat → Option α} {r : α} (hc : c) (h : Ev g r) : Ev (fun k => if c then g k else g' k) r := by simp only [if_pos hc]; exact h
theorem Ev.itef {α : Type} {c : Prop} [Decidable c] {g g' : Nat → Option α} {r : α} (hc : ¬ c) (h : Ev g' r) : Ev (fun k => if c then g k else g' k) r := by simp only [if_neg hc]; exact h
theorem Ev.mapb {α β : Type} {g : Nat → Option α} (f : α → β) {a : α} (h : Ev g a) : Ev (fun n => (g n).bind fun t => some (f t)) (f a) := Ev.bind (f := fun _ t => some (f t)) h (Ev.now _)
theorem Ev.sh {α : Type} {g : Nat → Option α} {r : α} (h : Ev g r) : Ev (fun k => g k) r := h
def runL {α σ ρ : Type} (step : Nat → α → σ → σ ⊕ ρ) (fin : σ → ρ) : Nat → List α → σ → ρ
 | _, [], s => fin s
 | i, x :: xs, s => match step i x s with
  | .inl s' => runL step fin (i + 1) xs s'
  | .inr r => r
theorem ev_loop {α σ ρ : Type} (l : List α) (F : Nat → Int → σ → Option ρ) (step : Nat → α → σ → σ ⊕ ρ) (fin : σ → ρ) (I : Nat → σ → Prop)
  (h : ∀ (i : Nat) (s : σ) (hi : i < l.length), I i s →
   (∀ s', step i l[i] s = .inl s' → I (i + 1) s' ∧ ∀ r, Ev (fun k => F k ((i : Int) + 1) s') r → Ev (fun k => F k (i : Int) s) r) ∧
   (∀ r, step i l[i] s = .inr r → Ev (fun k => F k (i : Int) s) r))
  (he : ∀ s, I l.length s → Ev (fun k => F k (l.length : Int) s) (fin s)) :
  ∀ (d i : Nat) (s : σ), i + d = l.length → I i s → Ev (fun k => F k (i : Int) s) (runL step fin i (l.drop i) s) := by
 intro d
 induction d with
 | zero =>
  intro i s hi hI
  have : i = l.length := by omega
  subst this
  rw [List.drop_length]
  exact he s hI
 | succ d ih =>
  intro i s hi hI
  have hlt : i < l.length := by omega
  rw [List.drop_eq_getElem_cons hlt]
  obtain ⟨h1, h2⟩ := h i s hlt hI
  cases hs : step i l[i] s with
  | inl s' =>
   obtain ⟨hI', hk⟩ := h1 s' hs
   simp only [runL, hs]
   refine hk _ ?_
   have := ih (i + 1) s' (by omega) hI'
   simpa using this
  | inr r =>
   simp only [runL, hs]
   exact h2 r hs
theorem ev_loop0 {α σ ρ : Type} (l : List α) (F : Nat → Int → σ → Option ρ) (step : Nat → α → σ → σ ⊕ ρ) (fin : σ → ρ) (I : Nat → σ → Prop) (s : σ) (hI : I 0 s)
  (h : ∀ (i : Nat) (s : σ) (hi : i < l.length), I i s →
   (∀ s', step i l[i] s = .inl s' → I (i + 1) s' ∧ ∀ r, Ev (fun k => F k ((i : Int) + 1) s') r → Ev (fun k => F k (i : Int) s) r) ∧
   (∀ r, step i l[i] s = .inr r → Ev (fun k => F k (i : Int) s) r))
  (he : ∀ s, I l.length s → Ev (fun k => F k (l.length : Int) s) (fin s)) :
  Ev (fun k => F k 0 s) (runL step fin 0 l s) := by
 have := ev_loop l F step fin I h he l.length 0 s (by omega) hI
 simpa using this
def foldI {α σ : Type} (step : Nat → α → σ → σ) : Nat → List α → σ → σ
 | _, [], s => s
 | i, x :: xs, s => foldI step (i + 1) xs (step i x s)
theorem runL_fold {α σ ρ : Type} (step : Nat → α → σ → σ) (fin : σ → ρ) : ∀ (l : List α) (i : Nat) (s : σ), runL (fun i x s => .inl (step i x s)) fin i l s = fin (foldI step i l s)
 | [], _, _ => rfl
 | x :: xs, i, s => by simp only [runL, foldI]; exact runL_fold step fin xs (i + 1) _
theorem ev_fold {α σ ρ : Type} (l : List α) (F : Nat → Int → σ → Option ρ) (step : Nat → α → σ → σ) (fin : σ → ρ) (I : Nat → σ → Prop) (s : σ) (hI : I 0 s)
  (h : ∀ (i : Nat) (s : σ) (hi : i < l.length), I i s → I (i + 1) (step i l[i] s) ∧ ∀ r, Ev (fun k => F k ((i : Int) + 1) (step i l[i] s)) r → Ev (fun k => F k (i : Int) s) r)
  (he : ∀ s, I l.length s → Ev (fun k => F k (l.length : Int) s) (fin s)) :
  Ev (fun k => F k 0 s) (fin (foldI step 0 l s)) := by
 rw [← runL_fold step fin l 0 s]
 refine ev_loop0 l F _ fin I s hI (fun i s hi hs => ⟨fun s' e => ?_, fun r e => by cases e⟩) he
 cases e
 exact h i s hi hs
theorem runL_all {α : Type} (p : α → Bool) : ∀ (l : List α) (i : Nat), runL (fun _ x (_ : Unit) => if p x then (Sum.inl () : Unit ⊕ Bool) else .inr false) (fun _ => true) i l () = l.all p
 | [], _ => rfl
 | x :: xs, i => by
  simp only [runL, List.all_cons]
  cases hp : p x
  ·simp
  ·simp only [if_true, Bool.true_and]
   exact runL_all p xs (i + 1)
theorem len_data (s : ByteArray) : s.data.toList.length = s.size := by rw [Array.length_toList]; rfl
theorem bt_get (s : ByteArray) (i : Nat) (h : i < s.data.toList.length) : bt s (i : Int) = ((s.data.toList[i]).toNat : Int) := by
 have h' : i < s.size := by rw [← len_data]; exact h
 unfold bt
 rw [dif_pos (by simpa using h')]
 rfl
theorem byte_back (b : UInt8) : ((b.toNat : Int)).toNat.toUInt8 = b := by simp
theorem byte_eq (b : UInt8) (n : Nat) (hn : n < 256) : ((b.toNat : Int) = (n : Int)) ↔ b = n.toUInt8 := by
 constructor
 ·intro h
  have h' : b.toNat = n := by omega
  rw [← h']
  simp
 ·rintro rfl
  simp [UInt8.toNat_ofNat']
  omega
theorem data_extract (s : ByteArray) (i j : Nat) : (s.extract i j).data.toList = (s.data.toList.drop i).take (j - i) := by
 rw [ByteArray.data_extract, Array.toList_extract]
theorem ba_ext {s t : ByteArray} (h : s.data.toList = t.data.toList) : s = t := by
 obtain ⟨⟨l⟩⟩ := s
 obtain ⟨⟨m⟩⟩ := t
 cases (show l = m from h)
 rfl
end Go.Proofs.YtpopeedfgenebaaGreatKit
namespace Go.Proofs.YtpopeedfgenebaaGreat
open Go.ChangeShapes Go.WideShapes
theorem PrintWords.sized_ints {H : Type} {f : TypeId × Value → H} {P : Program} {W : World} {b : Nat} {sp : Nat → Bool} {hd : Bool} {t e : TypeId} {k : IntKind} {a : Option Addr} {n c : Nat} {d : DataW H} {ps : List MemPlace} {ts : List TypeId} {ds : List (DataW H)} {j : Nat}
  (h1 : (DataW.weightsEach P ts ds).all (· ≤ reachBytes) = true) (h2 : ts[j]? = some t) (h3 : ds[j]? = some d) (h4 : P.underlying t = some (.slice e)) (h5 : P.underlying e = some (.int k)) (h6 : P.cellsOf e = 1) {B : Nat} (h7 : P.bytesOf e = B)
  (h8 : DataW.Trod f P W b sp hd t (.slice a n c) d ps) : n * B ≤ 140737488351232 := Go.Proofs.YtpopeedfgenebaaGreatW.PrintWords.sized_ints h1 h2 h3 h4 h5 h6 h7 h8
end Go.Proofs.YtpopeedfgenebaaGreat
