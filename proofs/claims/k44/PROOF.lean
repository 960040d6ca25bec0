import PyProof.Rows.All
import Wide.All
import OpenK.AllK
import Wide.FinOn
import HandS.ForMost
import HandS.EndBits
import HandS.Deep
import HandS.SortRule
import HandS.TupSets
import HandS.Property
import HandS.IsInst
import HandS.Conv
import HandS.Star
import HandS.TupLen
import HandS.Flow
import HandS.DictTup
import KE.SortData
import KE.KDictKeyed
import PyProof.FitsBits
import KE.GoesEnum
import KE.GoesMore
import HandS.Walk
import HandS.DictComp
import KE.KDictDisplayH
import KE.KDictSum
import PyProof.Rows.TupTab
import HandS.SetFor
import HandS.TupAny
import PySem.Challenge.RW_shovefloors_k44_whole_fillings_moved_and
set_option Elab.async false
set_option linter.all false
set_option maxRecDepth 100000
set_option maxHeartbeats 4000000
/-! Plain mathematics of fillings: sets of shoves whose blocks part a list of cells. -/
namespace Sf
abbrev Cell := Int × Int

/-! ### lists -/
theorem nodup_map {α β : Type} (f : α → β) : ∀ {l : List α}, (∀ a ∈ l, ∀ b ∈ l, f a = f b → a = b) → l.Nodup → (l.map f).Nodup := by
  intro l h n
  unfold List.Nodup at n ⊢
  rw [List.pairwise_map]
  induction l with
  | nil => exact List.Pairwise.nil
  | cons x r ih =>
    rw [List.pairwise_cons] at n ⊢
    refine ⟨fun y hy e => n.1 y hy (h x (.head _) y (.tail _ hy) e), ih (fun a ha b hb => h a (.tail _ ha) b (.tail _ hb)) n.2⟩
theorem nodup_of_map {α β : Type} (f : α → β) {l : List α} (n : (l.map f).Nodup) : l.Nodup := by
  unfold List.Nodup at n ⊢
  rw [List.pairwise_map] at n
  exact n.imp fun h e => h (congrArg f e)
theorem map_inj_on {α β : Type} (f : α → β) {l : List α} (n : (l.map f).Nodup) : ∀ a ∈ l, ∀ b ∈ l, f a = f b → a = b := by
  induction l with
  | nil =>
    intro a ha
    cases ha
  | cons x r ih =>
    rw [List.map_cons, List.nodup_cons] at n
    intro a ha b hb e
    rcases List.mem_cons.mp ha with e1 | h1
    · rcases List.mem_cons.mp hb with e2 | h2
      · rw [e1, e2]
      · subst e1
        exact absurd (e ▸ List.mem_map_of_mem (f := f) h2) n.1
    · rcases List.mem_cons.mp hb with e2 | h2
      · subst e2
        exact absurd (e ▸ List.mem_map_of_mem (f := f) h1) n.1
      · exact ih n.2 a h1 b h2 e
/-- a list without repetitions that lies within one that is no longer is a rearrangement of it -/
theorem perm_of_sub {α : Type} [BEq α] [LawfulBEq α] : ∀ {l m : List α}, l.Nodup → (∀ x ∈ l, x ∈ m) → m.length ≤ l.length → l.Perm m
  | [], m, _, _, hl => by
    have : m = [] := List.length_eq_zero_iff.mp (Nat.le_zero.mp hl)
    subst this
    exact .refl _
  | x :: r, m, n, hs, hl => by
    rw [List.nodup_cons] at n
    have hx : x ∈ m := hs x (.head _)
    have p := List.perm_cons_erase hx
    refine List.Perm.trans (List.Perm.cons x ?_) p.symm
    refine perm_of_sub n.2 (fun y hy => ?_) ?_
    · have h1 := (p.mem_iff (a := y)).mp (hs y (.tail _ hy))
      rcases List.mem_cons.mp h1 with rfl | h1
      · exact absurd hy n.1
      · exact h1
    · have := p.length_eq
      rw [List.length_cons] at this hl
      omega
theorem flatMap_perm_right {α β : Type} {f g : α → List β} : ∀ {l : List α}, (∀ x ∈ l, (f x).Perm (g x)) → (l.flatMap f).Perm (l.flatMap g)
  | [], _ => .refl _
  | x :: r, h => by
    rw [List.flatMap_cons, List.flatMap_cons]
    exact List.Perm.append (h x (.head _)) (flatMap_perm_right fun y hy => h y (.tail _ hy))
theorem filter_perm_split {α : Type} (p : α → Bool) (l : List α) : l.Perm (l.filter p ++ l.filter fun x => !p x) := by
  induction l with
  | nil => exact .refl _
  | cons x r ih =>
    by_cases h : p x = true
    · rw [List.filter_cons, List.filter_cons, if_pos h, if_neg (by simp [h])]
      exact List.Perm.cons x ih
    · have h' : p x = false := by simpa using h
      rw [List.filter_cons, List.filter_cons, if_neg h, if_pos (by simp [h'])]
      exact (List.Perm.cons x ih).trans List.perm_middle.symm
/-- what is taken out of a list without repetitions -/
theorem without_perm {α : Type} [BEq α] [LawfulBEq α] {left b : List α} (nl : left.Nodup) (nb : b.Nodup) (hs : ∀ x ∈ b, x ∈ left) : left.Perm (b ++ left.filter fun c => !b.contains c) := by
  refine (filter_perm_split (fun c => b.contains c) left).trans (List.Perm.append_right _ ?_)
  refine (perm_of_sub (nb) (fun x hx => ?_) ?_).symm
  · rw [List.mem_filter]
    exact ⟨hs x hx, List.contains_iff_mem.mpr hx⟩
  · refine List.Nodup.length_le_of_subset (nl.sublist List.filter_sublist) fun x hx => ?_
    exact List.contains_iff_mem.mp (List.mem_filter.mp hx).2

/-! ### the fillings, as the program makes them -/
section
variable (ss : List Cell) (B : Cell → List Cell)
def movesM (left : List Cell) : List Cell := ss.filter fun s => (match left with | [] => false | c :: _ => (B s).contains c) && (B s).all fun c => left.contains c
def withoutM (left b : List Cell) : List Cell := left.filter fun c => !b.contains c
def fillsM : Nat → List Cell → List (List Cell)
  | _, [] => [[]]
  | 0, _ :: _ => []
  | n + 1, c :: r => (movesM ss B (c :: r)).flatMap fun s => (fillsM n (withoutM (c :: r) (B s))).map fun some => s :: some
end
section
variable {ss : List Cell} {B : Cell → List Cell}
theorem mem_moves {left : List Cell} {s : Cell} : s ∈ movesM ss B left ↔ s ∈ ss ∧ (∃ c r, left = c :: r ∧ c ∈ B s) ∧ ∀ c ∈ B s, c ∈ left := by
  unfold movesM
  rw [List.mem_filter, Bool.and_eq_true, List.all_eq_true]
  constructor
  · rintro ⟨h1, h2, h3⟩
    refine ⟨h1, ?_, fun c hc => List.contains_iff_mem.mp (h3 c hc)⟩
    cases left with
    | nil => cases h2
    | cons c r => exact ⟨c, r, rfl, List.contains_iff_mem.mp h2⟩
  · rintro ⟨h1, ⟨c, r, rfl, h2⟩, h3⟩
    exact ⟨h1, List.contains_iff_mem.mpr h2, fun c hc => List.contains_iff_mem.mpr (h3 c hc)⟩
theorem without_len {left b : List Cell} {c : Cell} {r : List Cell} (e : left = c :: r) (h : c ∈ b) : (withoutM left b).length < left.length := by
  subst e
  unfold withoutM
  rw [List.filter_cons, if_neg (by rw [List.contains_iff_mem.mpr h]; decide)]
  exact Nat.lt_succ_of_le (List.length_filter_le _ _)
theorem without_nodup {left b : List Cell} (n : left.Nodup) : (withoutM left b).Nodup := n.sublist List.filter_sublist
/-- enough turns: more change nothing -/
theorem fills_more : ∀ (n m : Nat) (left : List Cell), left.length ≤ n → left.length ≤ m → fillsM ss B n left = fillsM ss B m left
  | n, m, [], _, _ => by
    cases n <;> cases m <;> rfl
  | 0, _, _ :: _, h, _ => absurd h (by simp)
  | _ + 1, 0, _ :: _, _, h => absurd h (by simp)
  | n + 1, m + 1, c :: r, h1, h2 => by
    show (movesM ss B (c :: r)).flatMap _ = (movesM ss B (c :: r)).flatMap _
    refine congrArg List.flatten (List.map_congr_left fun s hs => ?_)
    obtain ⟨_, ⟨c', r', e, hc⟩, _⟩ := mem_moves.mp hs
    have hl := without_len e hc
    rw [fills_more n m _ (by omega) (by omega)]
/-- every filling that is made parts the cells -/
theorem fills_sound : ∀ (n : Nat) (left : List Cell) (S : List Cell), left.Nodup → (∀ s ∈ ss, (B s).Nodup) → S ∈ fillsM ss B n left → (∀ s ∈ S, s ∈ ss) ∧ (S.flatMap B).Perm left
  | n, [], S, _, _, h => by
    have e : S = [] := by
      cases n <;> exact List.mem_singleton.mp h
    subst e
    exact ⟨fun s hs => absurd hs List.not_mem_nil, List.Perm.refl _⟩
  | 0, c :: r, S, _, _, h => by cases h
  | n + 1, c :: r, S, nl, nb, h => by
    obtain ⟨s, hs, hS⟩ := List.mem_flatMap.mp h
    obtain ⟨S', hS', rfl⟩ := List.mem_map.mp hS
    obtain ⟨h1, _, h3⟩ := mem_moves.mp hs
    obtain ⟨g1, g2⟩ := fills_sound n _ S' (without_nodup nl) nb hS'
    refine ⟨fun x hx => ?_, ?_⟩
    · rcases List.mem_cons.mp hx with rfl | hx
      · exact h1
      · exact g1 x hx
    · rw [List.flatMap_cons]
      exact (List.Perm.append_left _ g2).trans (without_perm nl (nb s h1) h3).symm
/-- every way to part the cells is made, in some order -/
theorem fills_complete : ∀ (n : Nat) (left : List Cell) (S : List Cell), left.length ≤ n → left.Nodup → (∀ s ∈ ss, B s ≠ []) → (∀ s ∈ S, s ∈ ss) → (S.flatMap B).Perm left → ∃ S', S' ∈ fillsM ss B n left ∧ S'.Perm S
  | n, [], S, _, _, ne, hs, p => by
    have e : S = [] := by
      cases S with
      | nil => rfl
      | cons s r =>
        have h := p.eq_nil
        rw [List.flatMap_cons] at h
        exact absurd (List.append_eq_nil_iff.mp h).1 (ne s (hs s (.head _)))
    subst e
    refine ⟨[], ?_, .refl _⟩
    cases n <;> exact List.mem_singleton.mpr rfl
  | 0, c :: r, S, h, _, _, _, _ => absurd h (by simp)
  | n + 1, c :: r, S, hl, nl, ne, hs, p => by
    have hc : c ∈ S.flatMap B := p.mem_iff.mpr (.head _)
    obtain ⟨s, hsS, hcs⟩ := List.mem_flatMap.mp hc
    have pS := List.perm_cons_erase hsS
    have p2 : (B s ++ (S.erase s).flatMap B).Perm (c :: r) := by
      have := (pS.flatMap_right B).symm.trans p
      rwa [List.flatMap_cons] at this
    have nb2 : (B s ++ (S.erase s).flatMap B).Nodup := p2.nodup_iff.mpr nl
    have nbs : (B s).Nodup := (List.nodup_append.mp nb2).1
    have sub : ∀ x ∈ B s, x ∈ c :: r := fun x hx => p2.mem_iff.mp (List.mem_append_left _ hx)
    have p3 : ((S.erase s).flatMap B).Perm (withoutM (c :: r) (B s)) := by
      have h := p2.trans (without_perm nl nbs sub)
      exact (List.perm_append_left_iff _).mp h
    have hlt := without_len (left := c :: r) rfl hcs
    obtain ⟨S', m', q'⟩ := fills_complete n _ (S.erase s) (by omega) (without_nodup nl) ne (fun x hx => hs x (List.mem_of_mem_erase hx)) p3
    refine ⟨s :: S', ?_, (List.Perm.cons s q').trans pS.symm⟩
    refine List.mem_flatMap.mpr ⟨s, mem_moves.mpr ⟨hs s hsS, ⟨c, r, rfl, hcs⟩, sub⟩, List.mem_map.mpr ⟨S', m', rfl⟩⟩
theorem count_flat_ge {c : Cell} : ∀ {S : List Cell} {s t : Cell}, s ≠ t → s ∈ S → t ∈ S → c ∈ B s → c ∈ B t → ¬ (S.flatMap B).Nodup
  | [], _, _, _, h, _, _, _ => by cases h
  | x :: r, s, t, ne, hs, ht, cs, ct => fun n => by
    rw [List.flatMap_cons, List.nodup_append] at n
    obtain ⟨_, n2, n3⟩ := n
    rcases List.mem_cons.mp hs with rfl | hs'
    · rcases List.mem_cons.mp ht with rfl | ht'
      · exact ne rfl
      · exact n3 c cs c (List.mem_flatMap.mpr ⟨t, ht', ct⟩) rfl
    · rcases List.mem_cons.mp ht with rfl | ht'
      · exact n3 c ct c (List.mem_flatMap.mpr ⟨s, hs', cs⟩) rfl
      · exact count_flat_ge ne hs' ht' cs ct n2
/-- no filling is made twice, in whatever order -/
theorem fills_apart : ∀ (n : Nat) (left : List Cell), left.Nodup → ss.Nodup → (∀ s ∈ ss, (B s).Nodup) → (fillsM ss B n left).Pairwise fun a b => ¬ a.Perm b
  | n, [], _, _, _ => by
    cases n <;> exact List.pairwise_singleton _ _
  | 0, _ :: _, _, _, _ => List.Pairwise.nil
  | n + 1, c :: r, nl, ns, nb => by
    show List.Pairwise _ ((movesM ss B (c :: r)).flatMap _)
    rw [List.pairwise_flatMap]
    constructor
    · intro s _
      rw [List.pairwise_map]
      exact (fills_apart n _ (without_nodup nl) ns nb).imp fun h p => h ((List.perm_cons s).mp p)
    · have nm : (movesM ss B (c :: r)).Nodup := ns.sublist List.filter_sublist
      have both : (movesM ss B (c :: r)).Pairwise fun a b => a ∈ movesM ss B (c :: r) ∧ b ∈ movesM ss B (c :: r) ∧ a ≠ b := by
        unfold List.Nodup at nm
        exact List.Pairwise.imp_of_mem (fun ha hb h => ⟨ha, hb, h⟩) nm
      refine both.imp ?_
      rintro s t ⟨hs, ht, ne⟩ S hS T hT p
      have mS : S ∈ fillsM ss B (n + 1) (c :: r) := List.mem_flatMap.mpr ⟨s, hs, hS⟩
      have mT : T ∈ fillsM ss B (n + 1) (c :: r) := List.mem_flatMap.mpr ⟨t, ht, hT⟩
      obtain ⟨S', _, rfl⟩ := List.mem_map.mp hS
      obtain ⟨T', _, rfl⟩ := List.mem_map.mp hT
      obtain ⟨_, ⟨c1, r1, e1, k1⟩, _⟩ := mem_moves.mp hs
      obtain ⟨_, ⟨c2, r2, e2, k2⟩, _⟩ := mem_moves.mp ht
      cases e1
      cases e2
      have pT := (fills_sound (n + 1) _ _ nl nb mT).2
      refine count_flat_ge (S := t :: T') ne (p.mem_iff.mp (.head _)) (.head _) k1 k2 (pT.nodup_iff.mpr nl)
end
end Sf

/-! Fillings of rolled floors: rearranged, shoved, turned, doubled. -/
namespace Sf
/-! ### an order of cells -/
def leC (a b : Cell) : Bool := decide (a.1 < b.1) || (decide (a.1 = b.1) && decide (a.2 ≤ b.2))
theorem leC_iff {a b : Cell} : leC a b = true ↔ a.1 < b.1 ∨ (a.1 = b.1 ∧ a.2 ≤ b.2) := by
  unfold leC
  rw [Bool.or_eq_true, Bool.and_eq_true, decide_eq_true_iff, decide_eq_true_iff, decide_eq_true_iff]
theorem leC_trans (a b c : Cell) (h1 : leC a b = true) (h2 : leC b c = true) : leC a c = true := by
  rw [leC_iff] at *
  omega
theorem leC_total (a b : Cell) : (leC a b || leC b a) = true := by
  rw [Bool.or_eq_true, leC_iff, leC_iff]
  omega
theorem leC_anti {a b : Cell} (h1 : leC a b = true) (h2 : leC b a = true) : a = b := by
  rw [leC_iff] at *
  exact Prod.ext (by omega) (by omega)
def sortC (l : List Cell) : List Cell := l.mergeSort leC
theorem sortC_perm (l : List Cell) : (sortC l).Perm l := List.mergeSort_perm l leC
theorem sortC_eq {a b : List Cell} (p : a.Perm b) : sortC a = sortC b :=
  List.Perm.eq_of_pairwise (le := fun x y => leC x y = true) (fun _ _ _ _ => leC_anti) (List.pairwise_mergeSort leC_trans leC_total a) (List.pairwise_mergeSort leC_trans leC_total b) ((sortC_perm a).trans (p.trans (sortC_perm b).symm))
theorem perm_of_sortC {a b : List Cell} (h : sortC a = sortC b) : a.Perm b := (sortC_perm a).symm.trans (h ▸ sortC_perm b)
/-! ### one way to part against another -/
section
variable {ss1 ss2 : List Cell} {B1 B2 : Cell → List Cell} {n1 n2 : Nat} {left1 left2 : List Cell}
theorem fills_carry (f g : Cell → Cell) (nl1 : left1.Nodup) (nb1 : ∀ s ∈ ss1, (B1 s).Nodup) (nl2 : left2.Nodup) (ne2 : ∀ s ∈ ss2, B2 s ≠ []) (hn2 : left2.length ≤ n2)
    (hf : ∀ s ∈ ss1, f s ∈ ss2) (hb : ∀ s ∈ ss1, (B2 (f s)).Perm ((B1 s).map g)) (hl : (left1.map g).Perm left2) {S : List Cell} (h : S ∈ fillsM ss1 B1 n1 left1) :
    ∃ S', S' ∈ fillsM ss2 B2 n2 left2 ∧ S'.Perm (S.map f) := by
  obtain ⟨h1, h2⟩ := fills_sound n1 left1 S nl1 nb1 h
  refine fills_complete n2 left2 (S.map f) hn2 nl2 ne2 (fun s hs => ?_) ?_
  · obtain ⟨t, ht, rfl⟩ := List.mem_map.mp hs
    exact hf t (h1 t ht)
  · rw [List.flatMap_map]
    refine (flatMap_perm_right (g := fun s => (B1 s).map g) fun s hs => hb s (h1 s hs)).trans ?_
    rw [← List.map_flatMap]
    exact (h2.map g).trans hl
theorem fills_le (f f' g : Cell → Cell) (nl1 : left1.Nodup) (ns1 : ss1.Nodup) (nb1 : ∀ s ∈ ss1, (B1 s).Nodup) (nl2 : left2.Nodup) (ne2 : ∀ s ∈ ss2, B2 s ≠ []) (hn2 : left2.length ≤ n2)
    (hf : ∀ s ∈ ss1, f s ∈ ss2) (hb : ∀ s ∈ ss1, (B2 (f s)).Perm ((B1 s).map g)) (hl : (left1.map g).Perm left2) (inv : ∀ s ∈ ss1, f' (f s) = s) :
    (fillsM ss1 B1 n1 left1).length ≤ (fillsM ss2 B2 n2 left2).length := by
  have nd : ((fillsM ss1 B1 n1 left1).map fun S => sortC (S.map f)).Nodup := by
    unfold List.Nodup
    rw [List.pairwise_map]
    refine List.Pairwise.imp_of_mem ?_ (fills_apart n1 left1 nl1 ns1 nb1)
    intro S T hS hT np e
    refine np ?_
    have back : ∀ U ∈ fillsM ss1 B1 n1 left1, (U.map f).map f' = U := fun U hU => by
      rw [List.map_map]
      conv => rhs; rw [← List.map_id U]
      exact List.map_congr_left fun s hs => inv s ((fills_sound n1 left1 U nl1 nb1 hU).1 s hs)
    have p := (perm_of_sortC e).map f'
    rwa [back S hS, back T hT] at p
  have sub : ∀ x ∈ (fillsM ss1 B1 n1 left1).map (fun S => sortC (S.map f)), x ∈ (fillsM ss2 B2 n2 left2).map sortC := fun x hx => by
    obtain ⟨S, hS, rfl⟩ := List.mem_map.mp hx
    obtain ⟨S', hS', p⟩ := fills_carry (n2 := n2) f g nl1 nb1 nl2 ne2 hn2 hf hb hl hS
    exact List.mem_map.mpr ⟨S', hS', sortC_eq p⟩
  have := List.Nodup.length_le_of_subset nd sub
  rwa [List.length_map, List.length_map] at this
end
/-! ### rolled floors -/
def zr (n : Nat) : List Int := (List.range n).map fun (i : Nat) => (i : Int)
theorem mem_zr {n : Nat} {x : Int} : x ∈ zr n ↔ 0 ≤ x ∧ x < n := by
  unfold zr
  rw [List.mem_map]
  constructor
  · rintro ⟨i, hi, rfl⟩
    have := List.mem_range.mp hi
    omega
  · rintro ⟨h0, h1⟩
    exact ⟨x.toNat, List.mem_range.mpr (by omega), by omega⟩
theorem zr_nodup (n : Nat) : (zr n).Nodup := nodup_map (fun (i : Nat) => (i : Int)) (fun a _ b _ h => Int.ofNat.inj h) List.nodup_range
theorem zr_length (n : Nat) : (zr n).length = n := by
  unfold zr
  rw [List.length_map, List.length_range]
def placesM (W H : Nat) : List Cell := (zr W).flatMap fun x => (zr H).map fun y => (x, y)
theorem mem_places {W H : Nat} {c : Cell} : c ∈ placesM W H ↔ (0 ≤ c.1 ∧ c.1 < W) ∧ 0 ≤ c.2 ∧ c.2 < H := by
  unfold placesM
  rw [List.mem_flatMap]
  constructor
  · rintro ⟨x, hx, h⟩
    obtain ⟨y, hy, rfl⟩ := List.mem_map.mp h
    exact ⟨mem_zr.mp hx, mem_zr.mp hy⟩
  · rintro ⟨h1, h2⟩
    exact ⟨c.1, mem_zr.mpr h1, List.mem_map.mpr ⟨c.2, mem_zr.mpr h2, rfl⟩⟩
theorem places_nodup (W H : Nat) : (placesM W H).Nodup := by
  unfold List.Nodup placesM
  rw [List.pairwise_flatMap]
  constructor
  · intro x _
    exact nodup_map _ (fun a _ b _ h => congrArg Prod.snd h) (zr_nodup H)
  · refine (zr_nodup W).imp ?_
    intro a b ne p hp q hq e
    obtain ⟨y, _, rfl⟩ := List.mem_map.mp hp
    obtain ⟨z, _, rfl⟩ := List.mem_map.mp hq
    exact ne (congrArg Prod.fst e)
theorem places_length (W H : Nat) : (placesM W H).length = W * H := by
  unfold placesM
  rw [List.length_flatMap]
  have : ∀ l : List Int, (l.map fun x => ((zr H).map fun y => ((x, y) : Cell)).length).sum = l.length * H := by
    intro l
    induction l with
    | nil => simp
    | cons a r ih =>
      rw [List.map_cons, List.sum_cons, ih, List.length_map, zr_length, List.length_cons, Nat.succ_mul]
      omega
  rw [this, zr_length]
def bringM (W H : Nat) (s c : Cell) : Cell := ((c.1 + s.1) % (W : Int), (c.2 + s.2) % (H : Int))
def blkM (W H : Nat) (cs : List Cell) (s : Cell) : List Cell := cs.map (bringM W H s)
def okM (W H : Nat) (cs : List Cell) : List Cell := (placesM W H).filter fun s => decide (blkM W H cs s).Nodup
def allM (W H : Nat) (cs : List Cell) : List (List Cell) := fillsM (okM W H cs) (blkM W H cs) (W * H) (placesM W H)
def countM (W H : Nat) (cs : List Cell) : Nat := (allM W H cs).length
theorem bring_in {W H : Nat} (hW : 0 < W) (hH : 0 < H) (s c : Cell) : bringM W H s c ∈ placesM W H :=
  mem_places.mpr ⟨⟨Int.emod_nonneg _ (by omega), Int.emod_lt_of_pos _ (by omega)⟩, Int.emod_nonneg _ (by omega), Int.emod_lt_of_pos _ (by omega)⟩
theorem mem_ok {W H : Nat} {cs : List Cell} {s : Cell} : s ∈ okM W H cs ↔ s ∈ placesM W H ∧ (blkM W H cs s).Nodup := by
  unfold okM
  rw [List.mem_filter, decide_eq_true_iff]
theorem ok_nodup (W H : Nat) (cs : List Cell) : (okM W H cs).Nodup := (places_nodup W H).sublist List.filter_sublist
theorem blk_ne {W H : Nat} {cs : List Cell} (h : cs ≠ []) (s : Cell) : blkM W H cs s ≠ [] := fun e => h (List.map_eq_nil_iff.mp e)
theorem md_eq {W x y : Int} (k : Int) (h : x = y + W * k) : x % W = y % W := by
  rw [h, Int.add_mul_emod_self_left]
/-- from one shape to another: places by g, shoves by f -/
theorem count_le {W H W2 H2 : Nat} {cs cs2 : List Cell} (hW : 0 < W2) (hH : 0 < H2) (ne2 : cs2 ≠ []) (f f' g h : Cell → Cell) (size : W * H = W2 * H2)
    (hcs : cs2.Perm (cs.map h)) (hs : ∀ s ∈ placesM W H, f s ∈ placesM W2 H2) (inv : ∀ s ∈ placesM W H, f' (f s) = s)
    (hg : ∀ c ∈ placesM W H, g c ∈ placesM W2 H2) (ig : ∀ a ∈ placesM W H, ∀ b ∈ placesM W H, g a = g b → a = b) (hin : 0 < W ∧ 0 < H)
    (com : ∀ s ∈ placesM W H, ∀ c, bringM W2 H2 (f s) (h c) = g (bringM W H s c)) : countM W H cs ≤ countM W2 H2 cs2 := by
  have hb : ∀ s ∈ placesM W H, (blkM W2 H2 cs2 (f s)).Perm ((blkM W H cs s).map g) := fun s hs' => by
    unfold blkM
    refine (hcs.map _).trans ?_
    rw [List.map_map, List.map_map]
    have e : List.map (bringM W2 H2 (f s) ∘ h) cs = List.map (g ∘ bringM W H s) cs := List.map_congr_left fun c _ => com s hs' c
    rw [e]
  refine fills_le f f' g (places_nodup W H) (ok_nodup W H cs) (fun s h => (mem_ok.mp h).2) (places_nodup W2 H2) (fun s _ => blk_ne ne2 s) (by rw [places_length]; exact Nat.le_refl _)
    (fun s h => ?_) (fun s h => hb s (mem_ok.mp h).1) ?_ (fun s h => inv s (mem_ok.mp h).1)
  · obtain ⟨h1, h2⟩ := mem_ok.mp h
    refine mem_ok.mpr ⟨hs s h1, (hb s h1).nodup_iff.mpr (nodup_map g (fun a ha b hb => ?_) h2)⟩
    have inn : ∀ z ∈ blkM W H cs s, z ∈ placesM W H := fun z hz => by
      obtain ⟨c, _, rfl⟩ := List.mem_map.mp hz
      exact bring_in hin.1 hin.2 s c
    exact ig a (inn a ha) b (inn b hb)
  · refine perm_of_sub (nodup_map g ig (places_nodup W H)) (fun z hz => ?_) ?_
    · obtain ⟨c, hc, rfl⟩ := List.mem_map.mp hz
      exact hg c hc
    · rw [List.length_map, places_length, places_length, size]
      exact Nat.le_refl _
theorem unit_sq {e : Int} (h : e = 1 ∨ e = -1) : e * e = 1 := by
  rcases h with rfl | rfl <;> rfl
theorem em_mul (W e u : Int) : (e * (u % W)) % W = (e * u) % W := by
  rw [Int.mul_emod, Int.emod_emod, ← Int.mul_emod]
theorem em_id {W x : Int} (h0 : 0 ≤ x) (h1 : x < W) : x % W = x := Int.emod_eq_of_lt h0 h1
/-- the back way of x -> (e x - a) % W -/
theorem unit_back {W e a x : Int} (he : e = 1 ∨ e = -1) (h0 : 0 ≤ x) (h1 : x < W) : (e * ((e * x - a) % W + a)) % W = x := by
  have h : (e * ((e * x - a) % W + a)) % W = (e * (e * x - a + a)) % W := by
    rw [Int.mul_emod, Int.emod_add_emod, ← Int.mul_emod]
  rw [h, show e * (e * x - a + a) = (e * e) * x by rw [Int.mul_assoc]; congr 1; omega, unit_sq he, Int.one_mul, em_id h0 h1]
theorem unit_inj {W e x y : Int} (he : e = 1 ∨ e = -1) (hx : 0 ≤ x ∧ x < W) (hy : 0 ≤ y ∧ y < W) (h : (e * x) % W = (e * y) % W) : x = y := by
  have h2 : (e * (e * x)) % W = (e * (e * y)) % W := by
    rw [← em_mul W e (e * x), ← em_mul W e (e * y), h]
  rw [← Int.mul_assoc, ← Int.mul_assoc, unit_sq he, Int.one_mul, Int.one_mul, em_id hx.1 hx.2, em_id hy.1 hy.2] at h2
  exact h2
theorem unit_com (W e a u s : Int) : ((e * u + a) + (e * s - a) % W) % W = (e * ((u + s) % W)) % W := by
  rw [em_mul, Int.add_emod_emod]
  congr 1
  rw [Int.mul_add]
  omega
/-- turned by half, flipped: the same columns and lines -/
theorem count_flip {W H : Nat} {cs cs2 : List Cell} (hW : 0 < W) (hH : 0 < H) (ne2 : cs2 ≠ []) {e1 e2 a b : Int} (h1 : e1 = 1 ∨ e1 = -1) (h2 : e2 = 1 ∨ e2 = -1)
    (hcs : cs2.Perm (cs.map fun c => (e1 * c.1 + a, e2 * c.2 + b))) : countM W H cs ≤ countM W H cs2 := by
  refine count_le hW hH ne2 (fun s => ((e1 * s.1 - a) % (W : Int), (e2 * s.2 - b) % (H : Int))) (fun s => ((e1 * (s.1 + a)) % (W : Int), (e2 * (s.2 + b)) % (H : Int)))
    (fun c => ((e1 * c.1) % (W : Int), (e2 * c.2) % (H : Int))) (fun c => (e1 * c.1 + a, e2 * c.2 + b)) rfl hcs (fun s _ => ?_) (fun s hs => ?_) (fun c _ => ?_) (fun c hc d hd e => ?_) ⟨hW, hH⟩ (fun s _ c => ?_)
  · exact mem_places.mpr ⟨⟨Int.emod_nonneg _ (by omega), Int.emod_lt_of_pos _ (by omega)⟩, Int.emod_nonneg _ (by omega), Int.emod_lt_of_pos _ (by omega)⟩
  · obtain ⟨⟨k1, k2⟩, k3, k4⟩ := mem_places.mp hs
    exact Prod.ext (unit_back h1 k1 k2) (unit_back h2 k3 k4)
  · exact mem_places.mpr ⟨⟨Int.emod_nonneg _ (by omega), Int.emod_lt_of_pos _ (by omega)⟩, Int.emod_nonneg _ (by omega), Int.emod_lt_of_pos _ (by omega)⟩
  · obtain ⟨k1, k2⟩ := mem_places.mp hc
    obtain ⟨k3, k4⟩ := mem_places.mp hd
    exact Prod.ext (unit_inj h1 k1 k3 (congrArg Prod.fst e)) (unit_inj h2 k2 k4 (congrArg Prod.snd e))
  · exact Prod.ext (unit_com W e1 a c.1 s.1) (unit_com H e2 b c.2 s.2)
/-- turned by a quarter: columns and lines exchanged -/
theorem count_quart {W H : Nat} {cs cs2 : List Cell} (hW : 0 < W) (hH : 0 < H) (ne2 : cs2 ≠ []) {e1 e2 a b : Int} (h1 : e1 = 1 ∨ e1 = -1) (h2 : e2 = 1 ∨ e2 = -1)
    (hcs : cs2.Perm (cs.map fun c => (e1 * c.2 + a, e2 * c.1 + b))) : countM W H cs ≤ countM H W cs2 := by
  refine count_le hH hW ne2 (fun s => ((e1 * s.2 - a) % (H : Int), (e2 * s.1 - b) % (W : Int))) (fun s => ((e2 * (s.2 + b)) % (W : Int), (e1 * (s.1 + a)) % (H : Int)))
    (fun c => ((e1 * c.2) % (H : Int), (e2 * c.1) % (W : Int))) (fun c => (e1 * c.2 + a, e2 * c.1 + b)) (Nat.mul_comm W H) hcs (fun s _ => ?_) (fun s hs => ?_) (fun c _ => ?_) (fun c hc d hd e => ?_) ⟨hW, hH⟩ (fun s _ c => ?_)
  · exact mem_places.mpr ⟨⟨Int.emod_nonneg _ (by omega), Int.emod_lt_of_pos _ (by omega)⟩, Int.emod_nonneg _ (by omega), Int.emod_lt_of_pos _ (by omega)⟩
  · obtain ⟨⟨k1, k2⟩, k3, k4⟩ := mem_places.mp hs
    exact Prod.ext (unit_back h2 k1 k2) (unit_back h1 k3 k4)
  · exact mem_places.mpr ⟨⟨Int.emod_nonneg _ (by omega), Int.emod_lt_of_pos _ (by omega)⟩, Int.emod_nonneg _ (by omega), Int.emod_lt_of_pos _ (by omega)⟩
  · obtain ⟨k1, k2⟩ := mem_places.mp hc
    obtain ⟨k3, k4⟩ := mem_places.mp hd
    exact Prod.ext (unit_inj h2 k1 k3 (congrArg Prod.snd e)) (unit_inj h1 k2 k4 (congrArg Prod.fst e))
  · exact Prod.ext (unit_com H e1 a c.2 s.2) (unit_com W e2 b c.1 s.1)
/-- shoved: a filling brought by a shove is a filling -/
theorem fill_shoved {W H : Nat} {cs : List Cell} (hW : 0 < W) (hH : 0 < H) (ne : cs ≠ []) (p q : Int) {S : List Cell} (hS : S ∈ allM W H cs) :
    ∃ S', S' ∈ allM W H cs ∧ S'.Perm (S.map fun s => ((s.1 + p) % (W : Int), (s.2 + q) % (H : Int))) := by
  have g_in : ∀ c : Cell, ((c.1 + p) % (W : Int), (c.2 + q) % (H : Int)) ∈ placesM W H := fun c =>
    mem_places.mpr ⟨⟨Int.emod_nonneg _ (by omega), Int.emod_lt_of_pos _ (by omega)⟩, Int.emod_nonneg _ (by omega), Int.emod_lt_of_pos _ (by omega)⟩
  have back : ∀ (W x p : Int), 0 ≤ x → x < W → ((x + p) % W - p) % W = x := fun W x p h0 h1 => by
    rw [Int.emod_sub_emod, show x + p - p = x by omega, em_id h0 h1]
  have ig : ∀ a ∈ placesM W H, ∀ b ∈ placesM W H, ((a.1 + p) % (W : Int), (a.2 + q) % (H : Int)) = ((b.1 + p) % (W : Int), (b.2 + q) % (H : Int)) → a = b := fun a ha b hb e => by
    obtain ⟨⟨k1, k2⟩, k3, k4⟩ := mem_places.mp ha
    obtain ⟨⟨l1, l2⟩, l3, l4⟩ := mem_places.mp hb
    have e1 := congrArg Prod.fst e
    have e2 := congrArg Prod.snd e
    dsimp only at e1 e2
    refine Prod.ext ?_ ?_
    · rw [← back W a.1 p k1 k2, e1, back W b.1 p l1 l2]
    · rw [← back H a.2 q k3 k4, e2, back H b.2 q l3 l4]
  have hb : ∀ s : Cell, (blkM W H cs ((s.1 + p) % (W : Int), (s.2 + q) % (H : Int))) = ((blkM W H cs s).map fun c => ((c.1 + p) % (W : Int), (c.2 + q) % (H : Int))) := fun s => by
    unfold blkM
    rw [List.map_map]
    refine List.map_congr_left fun c _ => ?_
    refine Prod.ext ?_ ?_
    · show (c.1 + (s.1 + p) % (W : Int)) % W = ((c.1 + s.1) % (W : Int) + p) % W
      rw [Int.add_emod_emod, Int.emod_add_emod]
      congr 1
      omega
    · show (c.2 + (s.2 + q) % (H : Int)) % H = ((c.2 + s.2) % (H : Int) + q) % H
      rw [Int.add_emod_emod, Int.emod_add_emod]
      congr 1
      omega
  refine fills_carry (fun s => ((s.1 + p) % (W : Int), (s.2 + q) % (H : Int))) (fun c => ((c.1 + p) % (W : Int), (c.2 + q) % (H : Int))) (places_nodup W H) (fun s h => (mem_ok.mp h).2) (places_nodup W H) (fun s _ => blk_ne ne s) (by rw [places_length]; exact Nat.le_refl _)
    (fun s h => ?_) (fun s _ => by rw [hb s]) ?_ hS
  · obtain ⟨_, h2⟩ := mem_ok.mp h
    refine mem_ok.mpr ⟨g_in s, ?_⟩
    rw [hb s]
    have inn : ∀ z ∈ blkM W H cs s, z ∈ placesM W H := fun z hz => by
      obtain ⟨c, _, rfl⟩ := List.mem_map.mp hz
      exact bring_in hW hH s c
    exact nodup_map _ (fun a ha b hb => ig a (inn a ha) b (inn b hb)) h2
  · refine perm_of_sub (nodup_map _ ig (places_nodup W H)) (fun z hz => ?_) ?_
    · obtain ⟨c, hc, rfl⟩ := List.mem_map.mp hz
      exact g_in c
    · rw [List.length_map]
      exact Nat.le_refl _
end Sf

/-! Fillings: doubled floors, numbers of cells, how many there may be; the told list; drawn pieces. -/
namespace Sf
theorem flat_len {B : Cell → List Cell} {n : Nat} : ∀ {S : List Cell}, (∀ s ∈ S, (B s).length = n) → (S.flatMap B).length = S.length * n
  | [], _ => by simp
  | s :: r, h => by
    rw [List.flatMap_cons, List.length_append, h s (.head _), flat_len fun x hx => h x (.tail _ hx), List.length_cons, Nat.succ_mul]
    omega
theorem blk_len {W H : Nat} {cs : List Cell} (s : Cell) : (blkM W H cs s).length = cs.length := List.length_map _
/-- the number of cells of the floor is a multiple of that of the shape if there is a filling -/
theorem fill_size {W H : Nat} {cs S : List Cell} (h : S ∈ allM W H cs) : W * H = S.length * cs.length := by
  obtain ⟨_, p⟩ := fills_sound (W * H) (placesM W H) S (places_nodup W H) (fun s h => (mem_ok.mp h).2) h
  have := p.length_eq
  rw [flat_len (n := cs.length) fun s _ => blk_len s, places_length] at this
  exact this.symm
theorem count_none {W H : Nat} {cs : List Cell} (h : ¬ (W * H) % cs.length = 0) : countM W H cs = 0 := by
  unfold countM
  rw [List.length_eq_zero_iff]
  cases e : allM W H cs with
  | nil => rfl
  | cons S r =>
    have hS : S ∈ allM W H cs := by
      rw [e]
      exact .head _
    rw [fill_size hS, Nat.mul_mod_left] at h
    exact absurd rfl h
theorem odd_even (k : Int) : (∃ j, k = 2 * j) ∨ ∃ j, k + 1 = 2 * j := by
  by_cases h : k % 2 = 0
  · exact .inl ⟨k / 2, by omega⟩
  · exact .inr ⟨(k + 1) / 2, by omega⟩
theorem double_at {W u x : Int} (h0 : 0 ≤ x) (h1 : x < 2 * W) (h : u % W = x % W) : u % (2 * W) = x ∨ (u + W) % (2 * W) = x := by
  have hd : W ∣ u - x := Int.dvd_of_emod_eq_zero (Int.emod_eq_emod_iff_emod_sub_eq_zero.mp h)
  obtain ⟨k, hk⟩ := hd
  rcases odd_even k with ⟨j, rfl⟩ | ⟨j, hj⟩
  · refine .inl ?_
    rw [md_eq (W := 2 * W) (x := u) (y := x) j ?_, em_id h0 h1]
    rw [Int.mul_assoc, Int.mul_left_comm] 
    omega
  · refine .inr ?_
    rw [md_eq (W := 2 * W) (x := u + W) (y := x) j ?_, em_id h0 h1]
    have e : W * (k + 1) = 2 * W * j := by
      rw [hj, Int.mul_left_comm, Int.mul_assoc]
    rw [Int.mul_add] at e
    omega
theorem count_double {W H : Nat} {cs : List Cell} (hW : 0 < W) (hH : 0 < H) (ne : cs ≠ []) (h : 0 < countM W H cs) : 0 < countM (2 * W) H cs := by
  have hne : allM W H cs ≠ [] := fun e => by
    unfold countM at h
    rw [e] at h
    exact absurd h (by decide)
  obtain ⟨S, hS⟩ := List.exists_mem_of_ne_nil _ hne
  obtain ⟨h1, p⟩ := fills_sound (W * H) (placesM W H) S (places_nodup W H) (fun s h => (mem_ok.mp h).2) hS
  have dvd : (W : Int) ∣ ((2 * W : Nat) : Int) := ⟨2, by omega⟩
  have nd : ∀ s : Cell, (blkM W H cs s).Nodup → ∀ z : Int, z % (W : Int) = s.1 % (W : Int) → (blkM (2 * W) H cs (z, s.2)).Nodup := fun s hn z hz => by
    refine nodup_of_map (fun c => (c.1 % (W : Int), c.2)) ?_
    have e : (blkM (2 * W) H cs (z, s.2)).map (fun c => (c.1 % (W : Int), c.2)) = blkM W H cs s := by
      unfold blkM
      rw [List.map_map]
      refine List.map_congr_left fun c _ => Prod.ext ?_ rfl
      show ((c.1 + z) % ((2 * W : Nat) : Int)) % (W : Int) = (c.1 + s.1) % (W : Int)
      rw [Int.emod_emod_of_dvd _ dvd, ← Int.add_emod_emod, hz, Int.add_emod_emod]
    rw [e]
    exact hn
  have zW : ∀ s : Cell, (s.1 + (W : Int)) % (W : Int) = s.1 % (W : Int) := fun s => Int.add_emod_right _ _
  have okS : ∀ s ∈ S ++ S.map (fun s => (s.1 + (W : Int), s.2)), s ∈ okM (2 * W) H cs := fun s hs => by
    rcases List.mem_append.mp hs with hs | hs
    · obtain ⟨k1, k2⟩ := mem_ok.mp (h1 s hs)
      obtain ⟨⟨k3, k4⟩, k5⟩ := mem_places.mp k1
      exact mem_ok.mpr ⟨mem_places.mpr ⟨⟨k3, by omega⟩, k5⟩, nd s k2 s.1 rfl⟩
    · obtain ⟨t, ht, rfl⟩ := List.mem_map.mp hs
      obtain ⟨k1, k2⟩ := mem_ok.mp (h1 t ht)
      obtain ⟨⟨k3, k4⟩, k5⟩ := mem_places.mp k1
      exact mem_ok.mpr ⟨mem_places.mpr ⟨⟨by show 0 ≤ t.1 + (W : Int); omega, by show t.1 + (W : Int) < ((2 * W : Nat) : Int); omega⟩, k5⟩, nd t k2 _ (zW t)⟩
  have size : W * H = S.length * cs.length := fill_size hS
  have part : ((S ++ S.map fun s => (s.1 + (W : Int), s.2)).flatMap (blkM (2 * W) H cs)).Perm (placesM (2 * W) H) := by
    refine (perm_of_sub (places_nodup (2 * W) H) (fun z hz => ?_) ?_).symm
    · obtain ⟨⟨k1, k2⟩, k3, k4⟩ := mem_places.mp hz
      have hz2 : (z.1 % (W : Int), z.2) ∈ S.flatMap (blkM W H cs) := p.mem_iff.mpr (mem_places.mpr ⟨⟨Int.emod_nonneg _ (by omega), Int.emod_lt_of_pos _ (by omega)⟩, k3, k4⟩)
      obtain ⟨s, hs, hb⟩ := List.mem_flatMap.mp hz2
      obtain ⟨c, hc, e⟩ := List.mem_map.mp hb
      have e1 : (c.1 + s.1) % (W : Int) = z.1 % (W : Int) := congrArg Prod.fst e
      have e2 : (c.2 + s.2) % (H : Int) = z.2 := congrArg Prod.snd e
      have cast : ((2 * W : Nat) : Int) = 2 * (W : Int) := by omega
      rcases double_at (W := (W : Int)) k1 (by omega) e1 with e3 | e3
      · refine List.mem_flatMap.mpr ⟨s, List.mem_append_left _ hs, List.mem_map.mpr ⟨c, hc, Prod.ext ?_ e2⟩⟩
        show (c.1 + s.1) % ((2 * W : Nat) : Int) = z.1
        rw [cast]
        exact e3
      · refine List.mem_flatMap.mpr ⟨(s.1 + (W : Int), s.2), List.mem_append_right _ (List.mem_map.mpr ⟨s, hs, rfl⟩), List.mem_map.mpr ⟨c, hc, Prod.ext ?_ e2⟩⟩
        show (c.1 + (s.1 + (W : Int))) % ((2 * W : Nat) : Int) = z.1
        rw [cast, ← Int.add_assoc]
        exact e3
    · rw [flat_len (n := cs.length) fun s _ => blk_len s, places_length, List.length_append, List.length_map, Nat.add_mul, ← size, Nat.mul_assoc, Nat.two_mul]
      exact Nat.le_refl _
  obtain ⟨S', hS', _⟩ := fills_complete (2 * W * H) (placesM (2 * W) H) _ (by rw [places_length]; exact Nat.le_refl _) (places_nodup _ _) (fun s _ => blk_ne ne s) okS part
  unfold countM
  exact List.length_pos_of_mem hS'
/-! ### how many -/
section
variable {ss : List Cell} {B : Cell → List Cell} {n : Nat}
theorem without_size {left : List Cell} {s : Cell} (nl : left.Nodup) (nb : ∀ s ∈ ss, (B s).Nodup) (hs : s ∈ movesM ss B left) : (withoutM left (B s)).length + (B s).length = left.length := by
  obtain ⟨h1, _, h3⟩ := mem_moves.mp hs
  have := (without_perm nl (nb s h1) h3).length_eq
  rw [List.length_append] at this
  unfold withoutM
  omega
/-- the fillings of what is left, with turns enough -/
def FL (ss : List Cell) (B : Cell → List Cell) (left : List Cell) : List (List Cell) := fillsM ss B left.length left
theorem FL_nil : FL ss B [] = [[]] := rfl
theorem FL_cons (c : Cell) (r : List Cell) : FL ss B (c :: r) = (movesM ss B (c :: r)).flatMap fun s => (FL ss B (withoutM (c :: r) (B s))).map fun some => s :: some := by
  unfold FL
  show (movesM ss B (c :: r)).flatMap _ = _
  refine congrArg List.flatten (List.map_congr_left fun s hs => ?_)
  obtain ⟨_, ⟨c', r', e, hc⟩, _⟩ := mem_moves.mp hs
  have hl := without_len e hc
  rw [List.length_cons] at hl
  rw [fills_more _ _ _ (show _ ≤ r.length by omega) (Nat.le_refl _)]
theorem len_flat_le {f : Cell → List (List Cell)} {m : Nat} : ∀ {l : List Cell}, (∀ s ∈ l, (f s).length ≤ m) → (l.flatMap f).length ≤ l.length * m
  | [], _ => by simp
  | s :: r, h => by
    have h1 := h s (.head _)
    have h2 := len_flat_le fun x hx => h x (.tail _ hx)
    rw [List.flatMap_cons, List.length_append, List.length_cons, Nat.succ_mul]
    omega
theorem FL_le (few : ∀ left, (movesM ss B left).length ≤ n) (nb : ∀ s ∈ ss, (B s).Nodup) (bl : ∀ s ∈ ss, (B s).length = n) (hn : 0 < n) : ∀ (k : Nat) (left : List Cell), left.Nodup → left.length < n * (k + 1) → (FL ss B left).length ≤ n ^ k
  | k, [], _, _ => by
    rw [FL_nil]
    exact Nat.one_le_pow _ _ hn
  | 0, c :: r, nl, h => by
    rw [FL_cons]
    have e : movesM ss B (c :: r) = [] := by
      cases e : movesM ss B (c :: r) with
      | nil => rfl
      | cons s q =>
        have hs : s ∈ movesM ss B (c :: r) := by
          rw [e]
          exact .head _
        have := without_size nl nb hs
        rw [bl s (mem_moves.mp hs).1] at this
        omega
    rw [e]
    exact Nat.zero_le _
  | k + 1, c :: r, nl, h => by
    rw [FL_cons]
    refine Nat.le_trans (len_flat_le (m := n ^ k) fun s hs => ?_) ?_
    · rw [List.length_map]
      refine FL_le few nb bl hn k _ (without_nodup nl) ?_
      have := without_size nl nb hs
      rw [bl s (mem_moves.mp hs).1] at this
      rw [Nat.mul_succ] at h
      omega
    · rw [Nat.pow_succ, Nat.mul_comm (n ^ k)]
      exact Nat.mul_le_mul_right _ (few _)
end
theorem moves_few {W H : Nat} {cs : List Cell} (left : List Cell) : (movesM (okM W H cs) (blkM W H cs) left).length ≤ cs.length := by
  have key : ∀ (s c d : Cell), s ∈ placesM W H → bringM W H s c = d → s = ((d.1 - c.1) % (W : Int), (d.2 - c.2) % (H : Int)) := fun s c d hs e => by
    obtain ⟨⟨k1, k2⟩, k3, k4⟩ := mem_places.mp hs
    subst e
    refine Prod.ext ?_ ?_
    · show s.1 = ((c.1 + s.1) % (W : Int) - c.1) % (W : Int)
      rw [Int.emod_sub_emod, show c.1 + s.1 - c.1 = s.1 by omega, em_id k1 k2]
    · show s.2 = ((c.2 + s.2) % (H : Int) - c.2) % (H : Int)
      rw [Int.emod_sub_emod, show c.2 + s.2 - c.2 = s.2 by omega, em_id k3 k4]
  cases left with
  | nil =>
    have : movesM (okM W H cs) (blkM W H cs) [] = [] := by
      unfold movesM
      rw [List.filter_eq_nil_iff]
      intro a _
      simp
    rw [this]
    exact Nat.zero_le _
  | cons d r =>
    have n : (movesM (okM W H cs) (blkM W H cs) (d :: r)).Nodup := (ok_nodup W H cs).sublist List.filter_sublist
    have := List.Nodup.length_le_of_subset (l₂ := cs.map fun c => ((d.1 - c.1) % (W : Int), (d.2 - c.2) % (H : Int))) n fun s hs => by
      obtain ⟨h1, ⟨d', r', e, hd⟩, _⟩ := mem_moves.mp hs
      cases e
      obtain ⟨c, hc, e⟩ := List.mem_map.mp hd
      exact List.mem_map.mpr ⟨c, hc, (key s c d (mem_ok.mp h1).1 e).symm⟩
    rwa [List.length_map] at this
theorem allM_FL (W H : Nat) (cs : List Cell) : allM W H cs = FL (okM W H cs) (blkM W H cs) (placesM W H) := by
  unfold allM FL
  rw [places_length]
/-- shapes of up to five cells on floors of up to sixteen: at most 256 fillings -/
theorem all_few {W H : Nat} {cs : List Cell} (h0 : cs ≠ []) (h5 : cs.length ≤ 5) (h16 : W * H ≤ 16) : (allM W H cs).length ≤ 256 := by
  have hn : 0 < cs.length := List.length_pos_iff.mpr h0
  have base : ∀ k, W * H < cs.length * (k + 1) → (allM W H cs).length ≤ cs.length ^ k := fun k hk => by
    rw [allM_FL]
    refine FL_le (n := cs.length) (fun left => moves_few left) (fun s h => (mem_ok.mp h).2) (fun s _ => blk_len s) hn k _ (places_nodup W H) ?_
    rw [places_length]
    exact hk
  have h : cs.length = 1 ∨ cs.length = 2 ∨ cs.length = 3 ∨ cs.length = 4 ∨ cs.length = 5 := by omega
  rcases h with h | h | h | h | h
  · have := base 16 (by omega)
    rw [h] at this
    exact Nat.le_trans this (by decide)
  · have := base 8 (by omega)
    rw [h] at this
    exact Nat.le_trans this (by decide)
  · have := base 5 (by omega)
    rw [h] at this
    exact Nat.le_trans this (by decide)
  · have := base 4 (by omega)
    rw [h] at this
    exact Nat.le_trans this (by decide)
  · have := base 3 (by omega)
    rw [h] at this
    exact Nat.le_trans this (by decide)
end Sf

/-! pieces that grow. -/
namespace Sf
def besM (c : Cell) : List Cell := [(c.1 + 1, c.2), (c.1, c.2 + 1), (c.1 - 1, c.2), (c.1, c.2 - 1)]
def remM (w s h : Int) (c : Cell) : Cell := ((c.1 - c.2 / h * s) % w, c.2 - c.2 / h * h)
def within (t : Int) (c : Cell) : Prop := (-t ≤ c.1 ∧ c.1 ≤ t) ∧ (-t ≤ c.2 ∧ c.2 ≤ t)
theorem bes_within {t : Int} {c d : Cell} (h : within t c) (m : d ∈ besM c) : within (t + 1) d := by
  unfold within at *
  unfold besM at m
  simp only [List.mem_cons, List.not_mem_nil, or_false] at m
  rcases m with rfl | rfl | rfl | rfl <;> (dsimp only; omega)
structure Piece (t : Nat) (fs : List Cell) : Prop where
  len : fs.length = t + 1
  nd : fs.Nodup
  box : ∀ c ∈ fs, within t c
theorem piece_one : Piece 0 [((0 : Int), (0 : Int))] where
  len := rfl
  nd := List.nodup_cons.mpr ⟨List.not_mem_nil, List.nodup_nil⟩
  box := fun c hc => by
    rw [List.mem_singleton] at hc
    subst hc
    exact ⟨⟨by decide, by decide⟩, by decide, by decide⟩
theorem piece_more {t : Nat} {fs : List Cell} {f c : Cell} (p : Piece t fs) (hf : f ∈ fs) (hc : c ∈ besM f) (hn : c ∉ fs) : Piece (t + 1) (fs ++ [c]) where
  len := by rw [List.length_append, p.len]; rfl
  nd := by
    rw [List.nodup_append]
    refine ⟨p.nd, List.nodup_cons.mpr ⟨List.not_mem_nil, List.nodup_nil⟩, fun a ha b hb => ?_⟩
    rw [List.mem_singleton] at hb
    rintro rfl
    subst hb
    exact hn ha
  box := fun d hd => by
    rcases List.mem_append.mp hd with hd | hd
    · have := p.box d hd
      unfold within at *
      omega
    · rw [List.mem_singleton] at hd
      subst hd
      exact bes_within (p.box f hf) hc
def nearM (bad : Cell → Bool) (fs : List Cell) : List Cell := fs.flatMap fun f => (besM f).filter fun c => !bad c
theorem near_mem {bad : Cell → Bool} {fs : List Cell} {c : Cell} : c ∈ nearM bad fs ↔ ∃ f ∈ fs, c ∈ besM f ∧ bad c = false := by
  unfold nearM
  rw [List.mem_flatMap]
  constructor
  · rintro ⟨f, hf, h⟩
    obtain ⟨h1, h2⟩ := List.mem_filter.mp h
    exact ⟨f, hf, h1, Bool.not_eq_true' _ |>.mp h2⟩
  · rintro ⟨f, hf, h1, h2⟩
    exact ⟨f, hf, List.mem_filter.mpr ⟨h1, Bool.not_eq_true' _ |>.mpr h2⟩⟩
theorem near_len (bad : Cell → Bool) : ∀ fs : List Cell, (nearM bad fs).length ≤ 4 * fs.length
  | [] => Nat.le_refl _
  | f :: r => by
    have h := near_len bad r
    unfold nearM at *
    rw [List.flatMap_cons, List.length_append, List.length_cons]
    have : ((besM f).filter fun c => !bad c).length ≤ 4 := List.length_filter_le _ _
    omega
theorem max_x : ∀ {fs : List Cell}, fs ≠ [] → ∃ f ∈ fs, ∀ c ∈ fs, c.1 ≤ f.1
  | [], h => absurd rfl h
  | [f], _ => ⟨f, .head _, fun c hc => by rw [List.mem_singleton] at hc; subst hc; exact Int.le_refl _⟩
  | f :: g :: r, _ => by
    obtain ⟨m, hm, h⟩ := max_x (fs := g :: r) (by simp)
    by_cases e : f.1 ≤ m.1
    · refine ⟨m, .tail _ hm, fun c hc => ?_⟩
      rcases List.mem_cons.mp hc with rfl | hc
      · exact e
      · exact h c hc
    · refine ⟨f, .head _, fun c hc => ?_⟩
      rcases List.mem_cons.mp hc with rfl | hc
      · exact Int.le_refl _
      · have := h c hc
        omega
theorem grown_ne {fs : List Cell} (h : fs ≠ []) : nearM (fun c => decide (c ∈ fs)) fs ≠ [] := by
  obtain ⟨f, hf, hm⟩ := max_x h
  intro e
  have : (f.1 + 1, f.2) ∈ nearM (fun c => decide (c ∈ fs)) fs := near_mem.mpr ⟨f, hf, .head _, decide_eq_false fun hc => by
    have := hm _ hc
    dsimp only at this
    omega⟩
  rw [e] at this
  exact List.not_mem_nil this
theorem fit_ne {w s h : Nat} (w1 : 1 ≤ w) (h1 : 1 ≤ h) {fs : List Cell} (h0 : ((0 : Int), (0 : Int)) ∈ fs) (hl : fs.length < w * h) : nearM (fun c => decide (remM w s h c ∈ fs.map (remM w s h))) fs ≠ [] := by
  intro e
  have closed : ∀ f ∈ fs, ∀ c ∈ besM f, remM w s h c ∈ fs.map (remM w s h) := fun f hf c hc => by
    by_cases hb : remM w s h c ∈ fs.map (remM w s h)
    · exact hb
    · have : c ∈ nearM (fun c => decide (remM w s h c ∈ fs.map (remM w s h))) fs := near_mem.mpr ⟨f, hf, hc, decide_eq_false hb⟩
      rw [e] at this
      exact absurd this List.not_mem_nil
  have hw : (0 : Int) < w := by omega
  have hh : (0 : Int) < h := by omega
  have step1 : ∀ i : Nat, i < w → ((i : Int), (0 : Int)) ∈ fs.map (remM w s h) := by
    intro i
    induction i with
    | zero =>
      intro _
      have := List.mem_map_of_mem (f := remM w s h) h0
      have hz : remM w s h ((0 : Int), (0 : Int)) = ((0 : Int), (0 : Int)) := by
        unfold remM
        simp
      rw [hz] at this
      exact this
    | succ i ih =>
      intro hi
      obtain ⟨f, hf, ef⟩ := List.mem_map.mp (ih (by omega))
      have hc := closed f hf (f.1 + 1, f.2) (.head _)
      have e1 : (f.1 - f.2 / h * s) % (w : Int) = i := congrArg Prod.fst ef
      have e2 : f.2 - f.2 / h * (h : Int) = 0 := congrArg Prod.snd ef
      have : remM w s h (f.1 + 1, f.2) = (((i + 1 : Nat) : Int), (0 : Int)) := by
        unfold remM
        dsimp only
        rw [e2]
        refine Prod.ext ?_ rfl
        show (f.1 + 1 - f.2 / h * s) % (w : Int) = ((i + 1 : Nat) : Int)
        have h3 : f.1 + 1 - f.2 / h * s = (f.1 - f.2 / h * s) + 1 := by omega
        rw [h3, Int.add_emod, e1]
        have h4 : (1 : Int) % w = if w = 1 then 0 else 1 := by
          split
          · rename_i hw1
            subst hw1
            rfl
          · exact Int.emod_eq_of_lt (by decide) (by omega)
        rw [h4]
        split
        · omega
        · rw [Int.emod_eq_of_lt (by omega) (by omega)]
          omega
      rw [this] at hc
      exact hc
  have step2 : ∀ i : Nat, i < w → ∀ j : Nat, j < h → ((i : Int), (j : Int)) ∈ fs.map (remM w s h) := by
    intro i hi j
    induction j with
    | zero => intro _; exact step1 i hi
    | succ j ih =>
      intro hj
      obtain ⟨f, hf, ef⟩ := List.mem_map.mp (ih (by omega))
      have hc := closed f hf (f.1, f.2 + 1) (.tail _ (.head _))
      have e1 : (f.1 - f.2 / h * s) % (w : Int) = i := congrArg Prod.fst ef
      have e2 : f.2 - f.2 / h * (h : Int) = j := congrArg Prod.snd ef
      have hd : (f.2 + 1) / (h : Int) = f.2 / h := by
        have h5 : f.2 + 1 = (j + 1 : Int) + f.2 / h * h := by omega
        rw [h5, Int.add_mul_ediv_right _ _ (by omega), Int.ediv_eq_zero_of_lt (by omega) (by omega), Int.zero_add]
      have : remM w s h (f.1, f.2 + 1) = ((i : Int), ((j + 1 : Nat) : Int)) := by
        unfold remM
        dsimp only
        rw [hd, e1]
        refine Prod.ext rfl ?_
        show f.2 + 1 - f.2 / h * (h : Int) = ((j + 1 : Nat) : Int)
        omega
      rw [this] at hc
      exact hc
  have hsub : ∀ c ∈ placesM w h, c ∈ fs.map (remM w s h) := fun c hc => by
    obtain ⟨⟨a1, a2⟩, b1, b2⟩ := mem_places.mp hc
    have := step2 c.1.toNat (by omega) c.2.toNat (by omega)
    rw [Int.toNat_of_nonneg a1, Int.toNat_of_nonneg b1] at this
    exact this
  have key : ∀ {l m : List Cell}, l.Nodup → (∀ c ∈ l, c ∈ m) → l.length ≤ m.length := by
    intro l
    induction l with
    | nil => intro m _ _; exact Nat.zero_le _
    | cons x r ih =>
      intro m hn hs
      rw [List.nodup_cons] at hn
      have hx : x ∈ m := hs x (.head _)
      have h1 : (m.erase x).length = m.length - 1 := by rw [List.length_erase_of_mem hx]
      have h2 := ih (m := m.erase x) hn.2 (fun c hc => by
        have hne : c ≠ x := fun e => hn.1 (e ▸ hc)
        exact (List.mem_erase_of_ne hne).mpr (hs c (.tail _ hc)))
      have h3 : 0 < m.length := List.length_pos_of_mem hx
      rw [List.length_cons]
      omega
  have := key (places_nodup w h) hsub
  rw [places_length, List.length_map] at this
  omega
end Sf

/-! Rules of our own over the hand layer: data, len of an own object, sorted of data, in a tuple of data, enumerate of a tuple. -/
namespace Sf
open PySem PySem.Spec PyProof.Rows L2
/-! ### heaps -/
theorem same_new {H : Hp} {p : Addr} {o : HO} (h : H p = none) : Same H (upd H p o) := fun b x e => by
  rw [upd_ne (ne_of_none e h)]
  exact e
/-- H' is H with p's place, where H had nothing, written -/
theorem same_own {H H' : Hp} {p : Addr} {o : HO} (s : Same H H') (h : H p = none) : Same H (upd H' p o) := fun b x e => by
  rw [upd_ne (ne_of_none e h)]
  exact s _ _ e
/-- tuples stay -/
def Tups (H H' : Hp) : Prop := ∀ b xs, H b = some (.tup xs) → H' b = some (.tup xs)
theorem Same.tups {H H' : Hp} (s : Same H H') : Tups H H' := fun b xs e => s b _ e
theorem Tups.trans {H H' H2 : Hp} (a : Tups H H') (b : Tups H' H2) : Tups H H2 := fun c xs e => b c xs (a c xs e)
theorem Tups.refl {H : Hp} : Tups H H := fun _ _ e => e
theorem tups_upd {H : Hp} {p : Addr} {o : HO} (h : ∀ xs, H p ≠ some (.tup xs)) : Tups H (upd H p o) := fun b xs e => by
  have n : b ≠ p := fun q => by
    rw [q] at e
    exact h xs e
  rw [upd_ne n]
  exact e
theorem tups_lst {H : Hp} {p : Addr} {ys : List V} {o : HO} (h : H p = some (.lst ys)) : Tups H (upd H p o) := tups_upd fun xs e => by rw [h] at e; cases e
theorem tups_dT {H : Hp} {p : Addr} {ys : List (List Key × V)} {o : HO} (h : H p = some (.dT ys)) : Tups H (upd H p o) := tups_upd fun xs e => by rw [h] at e; cases e
theorem tups_new {H : Hp} {p : Addr} {o : HO} (h : H p = none) : Tups H (upd H p o) := tups_upd fun xs e => by rw [h] at e; cases e
theorem tups_ins {H : Hp} {p C dx : Addr} {fs : List (Str × V)} {o : HO} (h : H p = some (.ins C dx fs)) : Tups H (upd H p o) := tups_upd fun xs e => by rw [h] at e; cases e
/-! ### cells in the heap -/
abbrev Cel := Int × Int
def CellV (H : Hp) (v : V) (c : Cel) : Prop := ∃ p, v = .ref p ∧ H p = some (.tup [.int c.1, .int c.2])
theorem CellV.up {H H' : Hp} (t : Tups H H') {v : V} {c : Cel} (h : CellV H v c) : CellV H' v c := let ⟨p, e, q⟩ := h; ⟨p, e, t _ _ q⟩
abbrev CellVs (H : Hp) : List V → List Cel → Prop := Paired (CellV H)
theorem CellVs.up {H H' : Hp} (t : Tups H H') {vs : List V} {cs : List Cel} (h : CellVs H vs cs) : CellVs H' vs cs := Paired.mapP h fun _ _ q => q.up t
/-- a tuple, a list of cells -/
def CellsT (H : Hp) (a : Addr) (cs : List Cel) : Prop := ∃ vs, H a = some (.tup vs) ∧ CellVs H vs cs
def CellsL (H : Hp) (a : Addr) (cs : List Cel) : Prop := ∃ vs, H a = some (.lst vs) ∧ CellVs H vs cs
theorem CellsT.up {H H' : Hp} (t : Tups H H') {a : Addr} {cs : List Cel} (h : CellsT H a cs) : CellsT H' a cs := let ⟨vs, e, q⟩ := h; ⟨vs, t _ _ e, q.up t⟩
theorem CellsL.up {H H' : Hp} (s : Same H H') {a : Addr} {cs : List Cel} (h : CellsL H a cs) : CellsL H' a cs := let ⟨vs, e, q⟩ := h; ⟨vs, s _ _ e, q.up (Same.tups s)⟩
theorem Paired.snoc {α β : Type} {F : α → β → Prop} : ∀ {l : List α} {m : List β} {a : α} {b : β}, Paired F l m → F a b → Paired F (l ++ [a]) (m ++ [b])
  | _, _, _, _, .nil, r => .cons r .nil
  | _, _, _, _, .cons q t, r => .cons q (Paired.snoc t r)
theorem Paired.append {α β : Type} {F : α → β → Prop} : ∀ {l l2 : List α} {m m2 : List β}, Paired F l m → Paired F l2 m2 → Paired F (l ++ l2) (m ++ m2)
  | _, _, _, _, .nil, r => r
  | _, _, _, _, .cons q t, r => .cons q (Paired.append t r)
theorem Paired.at {α β : Type} {F : α → β → Prop} : ∀ {l : List α} {m : List β}, Paired F l m → ∀ {i : Nat} {a : α}, l[i]? = some a → ∃ b, m[i]? = some b ∧ F a b
  | _, _, .nil, i, a, h => by simp at h
  | _, _, .cons q t, 0, a, h => ⟨_, rfl, by cases h; exact q⟩
  | _, _, .cons q t, i + 1, a, h => Paired.at t h
theorem Paired.at2 {α β : Type} {F : α → β → Prop} : ∀ {l : List α} {m : List β}, Paired F l m → ∀ {i : Nat} {b : β}, m[i]? = some b → ∃ a, l[i]? = some a ∧ F a b
  | _, _, .nil, i, a, h => by simp at h
  | _, _, .cons q t, 0, a, h => ⟨_, rfl, by cases h; exact q⟩
  | _, _, .cons q t, i + 1, a, h => Paired.at2 t h
theorem Paired.map_left {α β γ : Type} {F : γ → β → Prop} (f : α → γ) : ∀ {l : List α} {m : List β}, Paired (fun a b => F (f a) b) l m → Paired F (l.map f) m
  | _, _, .nil => .nil
  | _, _, .cons q t => .cons q (Paired.map_left f t)
/-! ### numbers -/
section
variable {X : Cx}
theorem op_mulB : OpR X (binaryOp .Mult) (rI (fun i j => Builtin.Int.intBits i ≤ 2 ^ 20 ∧ Builtin.Int.intBits j ≤ 2 ^ 20) fun i j => .int (i * j)) := opI fun _ _ _ _ _ _ _ hc q => mul_int q (IntMulOk.of_bits hc.1 hc.2)
/-! ### len of an own object -/
theorem call_lenI {CX : CXT} {C g : Addr} {k : Nat} {fd : FuncData} {sp : Sp} {E : XK} (c : Cls X.K C) (hm : Meth X.K C "__len__" g) (F : FnOk X.prog X.w X.K X.mg X.base CX k g fd ["self"] sp) (hr : Room (k + 1) X.A) (hb : Binds X.K fd ["self"] [])
    (hx : Passes CX X E) : CallR X (.builtin "len") (fun xs H Q => ∃ a dx fs, xs = [.ref a] ∧ H a = some (.ins C dx fs) ∧ sp [.ref a] H (fun v H' => ∃ n : Int, v = .int n ∧ 0 ≤ n ∧ n < 2 ^ 63 ∧ Q (.int n) H') E) := by
  intro pins s σ H xs us Q I r h
  obtain ⟨a, dx, fs, rfl, ea, h⟩ := h
  obtain ⟨u, rfl, ru⟩ := vals1 r
  obtain rfl : u = .ref a := ru
  obtain ⟨mA, O, _, _, _, _⟩ := ins_get I.hok ea
  obtain ⟨od, J, _⟩ := O.look
  obtain ⟨m, fr⟩ := I.fr
  refine PySem.W.len_K fr I.mod.kin J hm.at_ hm.fn ?_
  refine wpAny_call (codeAny_mono (F.run X.A.in1 X.stack s H ⟨[.ref a], []⟩ [.ref a] [.ref a] _ E hr.in1 I.env0.in1 (hb s [.ref a] I.kIn rfl) (.cons rfl .nil) h) fun r s' hq => ?_)
  cases r with
  | error er => exact hx pins σ H s er s' I hq
  | ok fl =>
    cases fl with
    | ret u =>
      obtain ⟨v, H', I3, rv, n, rfl, h0, h1, q⟩ := I.after hq
      obtain ⟨t, rfl⟩ := rv
      exact ⟨⟨h0, h1⟩, .int n, H', I3.tok _, ⟨_, rfl⟩, q⟩
    | next => exact False.elim hq
    | brk => exact False.elim hq
    | cont => exact False.elim hq
end
end Sf

/-! in a tuple of data; sorted of a list of data; enumerate of a tuple. -/
namespace Sf
open PySem PySem.Spec PyProof.Rows L2
section
variable {X : Cx}
/-! ### x in t, t a tuple of data -/
def rInDT (K : PySem.W.Frag) : R2 := fun x y H Q => ∃ d ds, Dp K H x d ∧ Dp K H y (.tuple ds) ∧ SeqAt.shaped d = true ∧ SeqAt.shaped (.tuple ds) = true ∧ Q (.bl (ds.any fun z => PyData.eqv z d)) H
def rNotInDT (K : PySem.W.Frag) : R2 := fun x y H Q => ∃ d ds, Dp K H x d ∧ Dp K H y (.tuple ds) ∧ SeqAt.shaped d = true ∧ SeqAt.shaped (.tuple ds) = true ∧ Q (.bl (!ds.any fun z => PyData.eqv z d)) H
theorem op_inDT (hu : X.A.units + 65 < cLine) : OpR X (compareOp .In) (rInDT X.K) := by
  intro pins s σ H x y v u Q I rx ry ⟨d, ds, hd, he, sd, se, q⟩
  obtain ⟨as, r1⟩ := Dp.reads I d x v hd rx
  obtain ⟨bs, r2⟩ := Dp.reads I (.tuple ds) y u he ry
  exact SeqAt.in_tuple_reads r2 r1 (SeqAt.canLay_of_shaped se) (SeqAt.canLay_of_shaped sd) (room_in_shaped sd hu) ⟨.bl _, H, I, rfl, q⟩
theorem op_notInDT (hu : X.A.units + 65 < cLine) : OpR X (compareOp .NotIn) (rNotInDT X.K) := by
  intro pins s σ H x y v u Q I rx ry ⟨d, ds, hd, he, sd, se, q⟩
  obtain ⟨as, r1⟩ := Dp.reads I d x v hd rx
  obtain ⟨bs, r2⟩ := Dp.reads I (.tuple ds) y u he ry
  exact SeqAt.notIn_tuple_reads r2 r1 (SeqAt.canLay_of_shaped se) (SeqAt.canLay_of_shaped sd) (room_in_shaped sd hu) ⟨.bl _, H, I, rfl, q⟩
/-! ### sorted(xs), xs a list of data -/
theorem each_of {β : Type} {R : V → β → Prop} : ∀ {xs : List V} {us : List Value} {bs : List β}, Vals xs us → Paired R xs bs → PySem.W.EachIs (fun u b => ∃ x, RelV x u ∧ R x b) us bs
  | _, _, _, .nil, .nil => .nil
  | _, _, _, .cons r t, .cons p q => .cons ⟨_, r, p⟩ (each_of t q)
theorem of_each {β : Type} {R : V → β → Prop} : ∀ {us : List Value} {bs : List β}, PySem.W.EachIs (fun u b => ∃ x, RelV x u ∧ R x b) us bs → ∃ xs, Vals xs us ∧ Paired R xs bs
  | _, _, .nil => ⟨[], .nil, .nil⟩
  | _, _, .cons ⟨x, r, p⟩ t => let ⟨xs, h1, h2⟩ := of_each t; ⟨x :: xs, .cons r h1, .cons p h2⟩
theorem paired_len {α β : Type} {F : α → β → Prop} : ∀ {l : List α} {m : List β}, Paired F l m → l.length = m.length
  | _, _, .nil => rfl
  | _, _, .cons _ t => congrArg (· + 1) (paired_len t)
theorem each_mem {α β : Type} {R : α → β → Prop} : ∀ {as : List α} {bs : List β}, PySem.W.EachIs R as bs → ∀ {R' : α → β → Prop}, (∀ a b, b ∈ bs → R a b → R' a b) → PySem.W.EachIs R' as bs
  | _, _, .nil, _, _ => .nil
  | _, _, .cons r t, _, h => .cons (h _ _ (.head _) r) (each_mem t fun a b hb => h a b (.tail _ hb))
/-- the items stand for bs (R), which read as enc: a new list that stands for bs in order -/
def rSortedD (K : PySem.W.Frag) {β : Type} (R : Hp → V → β → Prop) (enc : β → PyData) : List V → Hp → VK → Prop := fun vs H Q => ∃ (a : Addr) (xs : List V) (bs : List β), vs = [V.ref a] ∧ SqL K H a xs ∧ Paired (R H) xs bs ∧
  (∀ x b, b ∈ bs → R H x b → Dp K H x (enc b)) ∧ PySem.W.AllAlike (bs.map enc) ∧ PySem.W.Sortable (bs.map enc) ∧ (∀ b, b ∈ bs → (enc b).depth ≤ 60) ∧
  ∀ ys p, Paired (R H) ys (bs.mergeSort (PySem.W.dataLe false enc)) → H p = none → Q (.ref p) (upd H p (.lst ys))
theorem cr_sortedD {β : Type} {R : Hp → V → β → Prop} {enc : β → PyData} (hu : X.A.units + 64 < cLine) : CallR X (.builtin "sorted") (rSortedD X.K R enc) := by
  intro pins s σ H vs us Q I r h
  obtain ⟨a, xs, bs, rfl, hs, hp, hr, hal, hk, hd, q⟩ := h
  obtain ⟨its, rv, hl, hz⟩ := I.list hs
  obtain ⟨u, rfl, ru⟩ := vals1 r
  obtain rfl : u = Value.ref a := ru
  have hlen := paired_len hp
  have e1 := each_of rv hp
  have e2 : PySem.W.EachIs (fun v b => ∃ as, Reads s.heap v (enc b) as) its bs := each_mem e1 fun u b hb ⟨x, rx, px⟩ => Dp.reads I (enc b) x u (hr x b hb px) rx
  refine PySem.W.sorted_data hl.isList e1 e2 hal hk (by omega) (fun b hb => by have := hd b hb; omega) fun out ho eo => ?_
  obtain ⟨ys, rv2, py⟩ := of_each eo
  obtain ⟨e, he⟩ := sortedAll_at s.heap its (List.toArray out)
  have hz2 : ys.length ≤ sizeLine := by rw [rv2.length, ho]; omega
  have hle : s.heap.objs.size ≤ s.heap.objs.size + 1 := Nat.le_succ _
  refine ⟨.ref (s.heap.objs.size + 1), upd H (s.heap.objs.size + 1) (.lst ys), I.laid (t' := s.toks) (fun b o hb => sortedAll_old hb) hle ⟨hz2, out, e, rv2, he⟩, rfl, q ys _ py (I.hok.fresh hle)⟩
end
/-! ### enumerate(t), t a tuple -/
/-- the tuple at a, each item in a new pair -/
def ItE (K : PySem.W.Frag) (a : Addr) : It :=
  ⟨fun i H => ∃ (xs : List V) (x : V), SqT K H a xs ∧ xs[i]? = some x, fun i H v H' => ∃ T x, v = .ref T ∧ H T = none ∧ H' = upd H T (.tup [.int (i : Nat), x]) ∧ ∀ xs, SqT K H a xs → xs[i]? = some x, fun i H => ∃ xs : List V, SqT K H a xs ∧ xs.length ≤ i⟩
end Sf

/-! enumerate of a tuple. -/
namespace PySem
open Sem (wp)
open AutoSeq1 (wpAny_loadPart')
set_option maxHeartbeats 4000000 in
theorem sf_meets_enum {v : Value} {o : Obj} {H : Heap → Prop} (B : Begins v o H) :
    Meets (Builtin.«enumerate.__new__» ⟨[.type "enumerate", v], []⟩) (fun _ R s => H s.heap ∧
      R (.ok (.ret (.ref (s.heap.push o).objs.size))) { s with heap := (s.heap.push o).push { cls := .type "enumerate", data := .fields #[.none, .bool false, .ref s.heap.objs.size, rawInt 0, .none, .none] } }) :=
  .of_wp fun prog w A R s h => by
    obtain ⟨hp, g, d, tk, os⟩ := s
    obtain ⟨h1, h⟩ := h
    have hsub := sub_enumerate
    have q1 : ∀ {A' : Around} {E : Value → Shared → Prop} {Q : Value → Shared → Prop}, Q (.ref hp.objs.size) ⟨hp.push o, g, d, tk, os⟩ → wpAny (model prog w) A' (pyIter v) Q E ⟨hp, g, d, tk, os⟩ :=
      fun q => B.iter prog w _ _ ⟨hp, g, d, tk, os⟩ _ h1 q
    wp_walk using q1
    refine wpAny_stack_any fun st => wpAny_pure ?_
    split
    · rename_i c _ _ _ _ _
      cases (c == Value.type "enumerate")
      · wp_walk using q1
        exact ⟨_, rfl, h⟩
      · wp_walk using q1
        exact ⟨_, rfl, h⟩
    · wp_walk using q1
      exact ⟨_, rfl, h⟩
section
variable {prog : Program} {w : World} {A : Around} {E : Value → Shared → Prop} {s : Shared}
theorem sf_call_enum {v : Value} {o : Obj} {H : Heap → Prop} {Q : Value → Shared → Prop} (B : Begins v o H) (h1 : H s.heap)
    (h : ∀ h', IsEnum h' (s.heap.objs.size + 1) s.heap.objs.size 0 .none → h'.get? s.heap.objs.size = some o → (∀ b u, s.heap.get? b = some u → h'.get? b = some u) → Q (.ref (s.heap.objs.size + 1)) { s with heap := h' }) :
    wpAny (model prog w) A (call (.type "enumerate") [v]) Q E s := by
  refine callType_new F.called_enumerate (by decide) (F.typeCall_enumerate_1 _) (F.newCall_enumerate_1 _) (fun obj => F.args_object_init_2 obj _) F.entry_enumerate_new (sf_meets_enum B) ⟨h1, ?_⟩
  have hz : (s.heap.push o).objs.size = s.heap.objs.size + 1 := Heap.size_push ..
  show _ ∧ _
  rw [hz]
  have he : IsEnum ((s.heap.push o).push { cls := .type "enumerate", data := .fields #[.none, .bool false, .ref s.heap.objs.size, rawInt 0, .none, .none] }) (s.heap.objs.size + 1) s.heap.objs.size 0 .none := by
    have q := Heap.get?_push_size (s.heap.push o) (o := { cls := .type "enumerate", data := .fields #[.none, .bool false, .ref s.heap.objs.size, rawInt 0, .none, .none] }) rfl
    rw [hz] at q
    exact q
  exact ⟨⟨_, he, rfl⟩, h _ he (Heap.get?_push_of_some _ (Heap.get?_push_size _ B.free)) fun b u x => Heap.get?_push_of_some _ (Heap.get?_push_of_some _ x)⟩
end
end PySem
namespace Sf
open PySem PySem.Spec PyProof.Rows L2
theorem turn_enumT {P : Program} {w : World} {K : PySem.W.Frag} {elts : List Expr} {kk : Nat} {tpos : Pos} (a e it : Addr) :
    Turn P w K (.Tuple elts kk tpos) (ItE K a) [e, it] e (fun i h => (∃ old, IsEnum h e it ((i : Nat) : Int) old) ∧ h.IsTupleIter it a i ∧ e ≠ it) where
  mem := List.mem_cons_self
  obj := by
    rintro i h ⟨⟨old, he⟩, ⟨o, ho, hc, hd⟩, _⟩ b hb
    rcases List.mem_cons.mp hb with rfl | hb
    · exact ⟨_, he, fun v q => nomatch q⟩
    · obtain rfl := List.mem_singleton.mp hb
      exact ⟨o, ho, fun v q => by rw [hd] at q; cases q⟩
  keep := by
    rintro i h h' ⟨⟨old, he⟩, hi, hne⟩ k
    exact ⟨⟨old, k e List.mem_cons_self _ he⟩, hi.at fun o q => k it (List.mem_cons_of_mem _ List.mem_cons_self) o q, hne⟩
  item := by
    rintro X rfl rfl rfl hc i pins s σ H E I hf ⟨⟨old, he⟩, hit, hne⟩ ⟨xs, x, hq, hx⟩
    obtain ⟨its, rv, p, hz⟩ := I.tuple hq
    obtain ⟨u, hu, ru⟩ := rv.get hx
    have hel : e < s.heap.objs.size := Heap.lt_size he
    have hil : it < s.heap.objs.size := by obtain ⟨_, q, _⟩ := hit; exact Heap.lt_size q
    have hta : a ≠ it := fun z => by
      obtain ⟨o1, h1, c1, _⟩ := p
      obtain ⟨o2, h2, c2, _⟩ := hit
      rw [z, h2] at h1
      cases h1
      rw [c2] at c1
      exact absurd c1 (by decide)
    have hlt : i < its.toArray.size := by
      have := (List.getElem?_eq_some_iff.mp hu).1
      simpa using this
    have hea : e ≠ a := fun z => by
      obtain ⟨o1, h1, c1, _⟩ := p
      rw [← z, he] at h1
      cases h1
      exact absurd (show Value.type "enumerate" = .type "tuple" from c1) (by decide)
    have D : Draws X.prog X.w X.A.in1 it [it, a] its.toArray.size (fun i v => its.toArray[i]? = some v) (fun i h => h.IsTupleIter it a i ∧ h.IsTuple a its.toArray) := Draws.tuple (A := X.A.in1) (I.ok.hd hc) it a hta its.toArray
    refine wpAny_pyNext_enum_itemD D he ⟨hit, p⟩ hlt hne (by simp [hne, hea]) fun y h' tk hy ho hst hT hsz hk => ?_
    have hxy : its.toArray[i]? = some u := by simpa using hu
    obtain rfl : u = y := Option.some.inj (hxy.symm.trans hy)
    refine ⟨_, rfl, wpAny_letOwnedTupleGo_enum (s := { s with heap := h', toks := tk + 1 }) ho fun h'' he' sb => ?_⟩
    have hT2 : h''.get? s.heap.objs.size = some { cls := .type "tuple", data := .seq #[.int i tk, u] } := (sb.2 _ (Nat.ne_of_gt hel)).trans hT
    have new : ObjOk X.prog X.w (upd H s.heap.objs.size (.tup [.int (i : Nat), x])) h'' s.heap.objs.size (.tup [.int (i : Nat), x]) :=
      ⟨by show 2 ≤ sizeLine; decide, [.int i tk, u], .cons ⟨_, rfl⟩ (.cons ru .nil), ⟨_, hT2, rfl, _, rfl⟩⟩
    have I1 : Inv X pins σ (upd H s.heap.objs.size (.tup [.int (i : Nat), x])) { s with heap := h'', toks := tk + 1 } :=
      I.turnedNew (ch := [e, it]) (fun b ob hb q => (sb.2 b (fun z => hb (by simp [z]))).trans (hk b ob (fun z => hb (by simp [z])) (fun z => hb (by simp [z])) q)) hf (Nat.le_refl _) new
    refine ⟨.ref s.heap.objs.size, _, I1, rfl, ⟨_, x, rfl, I.hok.fresh (Nat.le_refl _), rfl, fun ys hy => by rw [I.tuple_inj hy hq]; exact hx⟩, ⟨⟨u, ?_⟩, hst.1.at fun o q => (sb.2 it (Ne.symm hne)).trans q, hne⟩, fun b hb => ?_⟩
    · have e1 : ((i + 1 : Nat) : Int) = (i : Int) + 1 := by omega
      rw [e1]
      exact he'
    · have hb' : b < s.heap.objs.size := by
        rcases List.mem_cons.mp hb with rfl | hb
        · exact hel
        · obtain rfl := List.mem_singleton.mp hb
          exact hil
      rw [upd_ne (Nat.ne_of_lt hb')]
      exact (hf b hb).1
  done := by
    rintro X rfl rfl rfl hc i pins s σ H E I hf ⟨⟨old, he⟩, hit, hne⟩ ⟨xs, hq, hx⟩
    obtain ⟨its, rv, p, hz⟩ := I.tuple hq
    have hta : a ≠ it := fun z => by
      obtain ⟨o1, h1, c1, _⟩ := p
      obtain ⟨o2, h2, c2, _⟩ := hit
      rw [z, h2] at h1
      cases h1
      rw [c2] at c1
      exact absurd c1 (by decide)
    obtain ⟨f0, f1, f2, f3, f4, f5⟩ := hf it (List.mem_cons_of_mem _ List.mem_cons_self)
    have hl := rv.length
    have hT : s.TypeIs (.ref e) "enumerate" := ⟨_, he, rfl⟩
    unfold pyNext
    refine wpAny_bind (wpAny_attempt (wpAny_callSpecial?_slot (name := Str.ofString "__next__") hT F.slot_enumerate_next
      (wpAny_call_entry F.slot_enumerate_next hT F.entry_enumerate_next ?_ (F.args_enumerate_next_1 _))))
    show wpAny _ _ (field (.ref e) 2 >>= _) _ _ _
    refine wpAny_bind (wpAny_field he rfl (x := .ref it) rfl ?_)
    refine wpAny_bind (wpAny_nextOf_tuple_end (I.ok.hd hc) hit p (by simp; omega) fun h' x he' hx' => ?_)
    obtain ⟨o, ho, hc'⟩ := hx'
    refine wpAny_bind (wpAny_isInstance (T := "StopIteration") (b := true) ⟨o, ho, hc'⟩ isSubtype_stop ?_)
    exact wpAny_pure ⟨rfl, I.turned (t' := s.toks) (fun b o hb q => he' b o hb q) f0 f1 f3 f4 f5⟩
  self := fun A i s Q E st h => let ⟨⟨_, he⟩, _⟩ := st; wpAny_pyIter_enum he h
def iEnumT (K : PySem.W.Frag) (ta : TA) : TI := fun σ H R => ta σ H fun vs H1 => ∃ a xs, vs = [.ref a] ∧ SqT K H1 a xs ∧ R (ItE K a) H1
theorem pi_enumT {X : Cx} {e : Expr} {ta : TA} {p pos tpos : Pos} {elts : List Expr} {kk : Nat} (hg : Gl X "enumerate") (hm : X.mg "enumerate" = none) (ha : PA X [e] ta) (hs : starEach [e] X.env = [(false, eval e X.env)] := by rfl) :
    PI X (.Tuple elts kk tpos) (.Call (.Name "enumerate" p) [e] [] pos) (iEnumT X.K ta) := by
  refine ⟨fun pins s σ H R I h => ?_⟩
  refine Call_ (ld_blt I hg hm boot_enumerate (PyProof.Rows.callWith_type1 (thn (ha.run pos pins s σ H _ I h) fun us s1 ⟨vs, H1, I1, r1, q1⟩ => ?_) hs rfl))
  obtain ⟨a, xs, rfl, hq, q⟩ := q1
  obtain ⟨u, rfl, ru⟩ := vals1 r1
  obtain rfl : u = .ref a := ru
  obtain ⟨its, rv, p', hz⟩ := I1.tuple hq
  refine sf_call_enum (begins_tuple a its.toArray) p' fun h' he hit hk => wpAny_pyIter_enum he ?_
  have I2 : Inv X pins σ H1 { s1 with heap := h' } := I1.kept (t' := s1.toks) hk
  refine ⟨s1.heap.objs.size + 1, [s1.heap.objs.size + 1, s1.heap.objs.size], _, _, H1, rfl, I2, turn_enumT a (s1.heap.objs.size + 1) s1.heap.objs.size, ⟨⟨.none, he⟩, ⟨_, hit, rfl, rfl⟩, Nat.succ_ne_self _⟩, fun b hb => ?_, q⟩
  have hle : s1.heap.objs.size ≤ b := by
    rcases List.mem_cons.mp hb with rfl | hb
    · exact Nat.le_succ _
    · obtain rfl := List.mem_singleton.mp hb
      exact Nat.le_refl _
  exact I1.fpOk hle (I1.hok.fresh hle)
theorem walk_enumT {K : PySem.W.Frag} {a : Addr} {xs : List V} : Walk (ItE K a) xs.length (fun H => SqT K H a xs) (fun i H v H' => ∃ T x, v = .ref T ∧ H T = none ∧ H' = upd H T (.tup [.int (i : Nat), x]) ∧ xs[i]? = some x) where
  goes := fun i H hi h => ⟨xs, xs[i], h, List.getElem?_eq_getElem hi⟩
  stops := fun H h => ⟨xs, h, Nat.le_refl _⟩
  yields := fun i H v H' hi h ⟨T, x, e1, e2, e3, f⟩ => ⟨T, x, e1, e2, e3, f xs h⟩
end Sf

/-! dict comprehensions whose keys are tuples; a display with one tuple key. -/
namespace Sf
open PySem PySem.Spec PyProof.Rows L2
/-- a comprehension stores d[k] = v, k a tuple -/
theorem set_dT {X : Cx} {pins : List (Addr × Obj)} {σ : L2.St} {H : Hp} {s : Shared} {E : Value → Shared → Prop} {D b : Addr} {kvs : List (List Key × V)} {k : List Key} {v : V} {r : Value} {Q : Unit → Shared → Prop} (hu : X.A.units + 1 < cLine) (I : Inv X pins σ H s) (e : H D = some (.dT kvs)) (l : kvs.length < sizeLine)
    (eb : H b = some (.tup (k.map kV))) (rv : RelV v r) (h : ∀ s', Inv X pins σ (upd H D (.dT (putK kvs k v))) s' → Q () s') : wpAny (model X.prog X.w) X.A (dictSet D (.ref b) r) Q E s := by
  obtain ⟨z, hd, xs, rel, dd⟩ := dt_of I.hok e
  have hz : xs.length ≤ sizeLine := by
    rw [← Paired.length rel]
    exact z
  have hl : (putK kvs k v).length ≤ sizeLine := Nat.le_trans (length_putK kvs k v) l
  refine wpAny_dictSet_heap (hsz := hz) (show (tupleKind (mixKind X.prog X.w)).room X.A from Nat.lt_of_succ_lt hu) (key_of I.hok eb) dd fun h' dd' hs => h _ ?_
  obtain ⟨q, es, ep, hq, h2, h3, h4, _, h5⟩ := dd'
  exact d_write I (by rw [e]; exact True.intro) hs ⟨q, hq⟩ ⟨hl, hd, _, (rel.put k eb rv).keeps (tups_dT e), q, es, ep, hq, h2, h3, h4, h5⟩
section
variable {X : Cx}
/-- {k: v for target in iter if ..}, the keys tuples: D the new dict -/
def tDcT (wi : TI) (g : TG) (tt : TT) (tk tv : TE) (vs : List Nat) : TE := fun σ H Q => wi σ H fun J H1 => ∀ D, H1 D = none → ∃ W : Nat → Nat → Hp → Prop, (∃ m, W 0 m (upd H1 D (.dT []))) ∧ ∀ i m H, W i m H →
  (J.stop i H ∧ Q (.ref D) H) ∨ (J.go i H ∧ ∃ Nx : Hp → Prop, (∀ H', Nx H' → ∃ m', m' < m ∧ W (i + 1) m' H') ∧ ∀ x H', J.yld i H x H' → g x (wipe σ vs) H' fun σ2 H2 => wipe σ2 vs = wipe σ vs ∧ tt σ2 H2 fun c H3 =>
    if c = true then tk σ2 H3 fun y H4 => tv σ2 H4 fun z H5 => ∃ kvs k b, y = .ref b ∧ H5 b = some (.tup (k.map kV)) ∧ H5 D = some (.dT kvs) ∧ kvs.length < sizeLine ∧ Nx (upd H5 D (.dT (putK kvs k z))) else Nx H3)
theorem pe_dcT {kx vx tg iter : Expr} {ifs : List Expr} {scope : Scope} {own : List (Str × Nat)} {pos : Pos} {wi : TI} {g : TG} {tt : TT} {tk tv : TE} (hu : X.A.units + 1 < cLine) (hc : X.calm = true) (hN : X.N.Nodup) (hi : PI X tg iter wi) (ok : BlkOk X.N X.env.scope scope own)
    (hg : ∀ (s : Shared) (H : Hp) (C : Addr) (cl : List (Str × Addr)) (fp : List Addr), PG (X.blk s H scope (compEnvC scope cl C X.env) fp) tg g) (ht : ∀ (s : Shared) (H : Hp) (C : Addr) (cl : List (Str × Addr)) (fp : List Addr), PTs (X.blk s H scope (compEnvC scope cl C X.env) fp) ifs tt)
    (hk : ∀ (s : Shared) (H : Hp) (C : Addr) (cl : List (Str × Addr)) (fp : List Addr), PE (X.blk s H scope (compEnvC scope cl C X.env) fp) kx tk)
    (he : ∀ (s : Shared) (H : Hp) (C : Addr) (cl : List (Str × Addr)) (fp : List Addr), PE (X.blk s H scope (compEnvC scope cl C X.env) fp) vx tv) (hs : ∀ x, foldedSetIterable iter X.env x = pure x := by intro _; rfl) :
    PE X (.DictComp kx vx [⟨tg, iter, ifs, 0⟩] scope pos) (tDcT wi g tt tk tv (own.map (·.2))) := by
  refine ⟨fun pins s σ H Q I h => ?_⟩
  rw [arm_eval_DictComp]
  have hfree : ∀ y ∈ scope.names, y.2 = .free → ∃ c, X.env.cells.lookup y.1 = some c := fun y hy e => (ok.free y hy e).elim (fun k => I.ok.has _ (.inl k)) fun k => I.ok.has _ (.inr k)
  refine wpAny_comprehension_free (use := none) rfl hs (closure_ok hfree) ok.kind (fun y hy e => by rw [ok.uniq y hy, e]) (thn (hi.run pins s σ H _ I h) fun xv s1 hx => thn hx fun itv s2 h2 => ?_)
  obtain ⟨it, fp, tn, J, H2, rfl, I2, T, st2, f2, q⟩ := h2
  refine wpAny_newObj_type (newEnv_comp ?_)
  generalize hD : s2.heap.objs.size = D
  have hDn : H2 D = none := I2.hok.fresh (Nat.le_of_eq hD)
  obtain ⟨W, ⟨m0, w0⟩, turn⟩ := q D hDn
  generalize hs3 : ({ s2 with heap := s2.heap.push { cls := .type "dict", data := .dict #[] } } : Shared) = s3
  have h3 : s3.heap = s2.heap.push { cls := .type "dict", data := .dict #[] } := by rw [← hs3]
  have I3 : Inv X pins σ (upd H2 D (.dT [])) s3 := by
    rw [← hs3]
    refine I2.laid (t' := s2.toks) (fun b o e => Heap.get?_push_of_some _ e) (Nat.le_of_eq hD) ?_
    rw [← hD]
    exact dt_empty s2.heap I2.big
  have sz : ∀ b ∈ fp, b < s2.heap.objs.size := fun b hb => let ⟨_, e, _⟩ := T.obj _ _ st2 b hb; Heap.lt_size e
  have f3 : ∀ b ∈ fp, FpOk X pins (upd H2 D (.dT [])) b ∧ b < s3.heap.objs.size := fun b hb => by
    have hlt := sz b hb
    refine ⟨⟨?_, (f2 b hb).2⟩, ?_⟩
    · rw [upd_ne (by rw [← hD]; exact Nat.ne_of_lt hlt)]
      exact (f2 b hb).1
    · rw [h3, Heap.size_push]
      exact Nat.lt_succ_of_lt hlt
  have st3 : tn 0 s3.heap := T.keep _ _ _ st2 fun b _ o e => by
    rw [h3]
    exact Heap.get?_push_of_some _ e
  have I4 := block_start I3 ok hN f3
  have pg := hg s3 (upd H2 D (.dT [])) s3.heap.objs.size (cellsFrom (s3.heap.objs.size + 1) scope.names (cloFrom X.env.cells scope.names [])) fp
  have pt := ht s3 (upd H2 D (.dT [])) s3.heap.objs.size (cellsFrom (s3.heap.objs.size + 1) scope.names (cloFrom X.env.cells scope.names [])) fp
  have pk := hk s3 (upd H2 D (.dT [])) s3.heap.objs.size (cellsFrom (s3.heap.objs.size + 1) scope.names (cloFrom X.env.cells scope.names [])) fp
  have pe := he s3 (upd H2 D (.dT [])) s3.heap.objs.size (cellsFrom (s3.heap.objs.size + 1) scope.names (cloFrom X.env.cells scope.names [])) fp
  show codeAny _ _ (.compStart (.DictComp kx vx [⟨tg, iter, ifs, 0⟩] scope pos) 0 (.ref it) (.ref D) (compEnvC scope (cellsFrom (s3.heap.objs.size + 1) scope.names (cloFrom X.env.cells scope.names [])) s3.heap.objs.size X.env)) (compPost (model X.prog X.w) X.A X.xe none (EP X pins σ Q) (.ref D) s3.heap.objs.size) { s3 with heap := pushCells (s3.heap.push { cls := .type "dict", data := .dict #[] }) scope.names }
  have nfp : ∀ b ∈ fp, (upd H2 D (.dT [])) b = none := fun b hb => (f3 b hb).1.1
  generalize hce : compEnvC scope (cellsFrom (s3.heap.objs.size + 1) scope.names (cloFrom X.env.cells scope.names [])) s3.heap.objs.size X.env = ce at I4 pg pt pk pe ⊢
  have cL : ce.locals = s3.heap.objs.size := by
    subst hce
    rfl
  generalize hH3 : upd H2 D (.dT []) = H3 at I3 I4 pg pt pk pe w0 nfp f3
  generalize hs4 : ({ s3 with heap := pushCells (s3.heap.push { cls := .type "dict", data := .dict #[] }) scope.names } : Shared) = s4 at I4 ⊢
  have st4 : tn 0 s4.heap := T.keep _ _ _ st3 fun b _ o e => by
    rw [← hs4]
    exact pushCells_keeps _ _ _ _ (Heap.get?_push_of_some _ e)
  have stat : ∀ {σ' : L2.St} {H' : Hp} {s' : Shared}, Inv (X.blk s3 H3 scope ce fp) [] σ' H' s' → (∀ b ∈ fp, H' b = none) → ∀ b ∈ fp, FpOk (X.blk s3 H3 scope ce fp) [] H' b := fun {σ' H' s'} I' hn b hb =>
    ⟨hn b hb, (I'.ok.exf b hb).1, I'.ok.exfs b hb, .inl hb, fun x c e => (I'.ok.exf b hb).2 x c e, fun p hp => absurd hp List.not_mem_nil⟩
  have loop : codeAny (model X.prog X.w) X.A (.compLoop (.DictComp kx vx [⟨tg, iter, ifs, 0⟩] scope pos) 0 (.ref it) (.ref D) ce) (compPost (model X.prog X.w) X.A X.xe none (EP X pins σ Q) (.ref D) s3.heap.objs.size) s4 := by
    refine compLoop_anyD (fun n s' => ∃ i H', Inv (X.blk s3 H3 scope ce fp) [] (wipe σ (own.map (·.2))) H' s' ∧ tn i s'.heap ∧ (∀ b ∈ fp, H' b = none) ∧ W i n H') ?_ m0 ⟨0, H3, I4, st4, nfp, w0⟩
    rintro n s5 ⟨i, H5, I5, st5, n5, w5⟩
    rcases turn i n H5 w5 with ⟨stop, qq⟩ | ⟨go, Nx, hNx, step⟩
    · refine thnF (T.done (X.blk s3 H3 scope ce fp) rfl rfl rfl hc i [] s5 _ H5 (fun _ _ => False) I5 (stat I5 n5) st5 stop) fun r s6 ⟨hr, I6⟩ => ?_
      subst hr
      have I7 : Inv X pins σ H5 s6 := I3.call' (ch := fp) I6.os I6.base I6.hok I6.bare fun b hb => ⟨(f3 b hb).1.2.2.2.1, (f3 b hb).1.2.1, (f3 b hb).1.2.2.2.2.1, (f3 b hb).1.2.2.2.2.2⟩
      have nC : H5 s3.heap.objs.size = none := by
        have z : H5 ce.locals = none := I6.free
        rwa [cL] at z
      obtain ⟨m, hn, _⟩ := I6.loc
      have hn2 : s6.heap.Ns s3.heap.objs.size m := by
        rw [← cL]
        exact hn
      obtain ⟨f0, f1, f2', f3', f4, f5⟩ := I3.fpOk (Nat.le_refl _) nC
      refine ⟨m, hn2, fun h'' sb => ?_⟩
      exact ⟨.ref D, H5, I7.turned (t' := s6.toks) (fun b o hb e => (sb.2 b hb).trans e) f0 f1 f3' f4 f5, rfl, qq⟩
    · refine thnF (T.item (X.blk s3 H3 scope ce fp) rfl rfl rfl hc i [] s5 _ H5 (fun _ _ => False) I5 (stat I5 n5) st5 go) fun r s6 ⟨u, hr, h6⟩ => ?_
      subst hr
      refine thnF h6 fun _ s7 ⟨x, H7, I7, r7, y7, st7, n7⟩ => ?_
      have I7' := I7.pinned (stat I7 n7) (T.obj _ _ st7)
      refine thnF (pg.run _ s7 _ H7 x u _ I7' r7 (step x H7 y7)) fun _ s8 ⟨σ8, H8, I8, hw8, q8⟩ => ?_
      refine thnF (pt.run _ s8 σ8 H8 _ I8 q8) fun c s9 ⟨H9, I9, q9⟩ => ?_
      have fin : ∀ {s' : Shared} {H' : Hp}, Inv (X.blk s3 H3 scope ce fp) ([] ++ pinsAt fp s7.heap) σ8 H' s' → Nx H' → ∃ m, m < n ∧ ∃ i H', Inv (X.blk s3 H3 scope ce fp) [] (wipe σ (own.map (·.2))) H' s' ∧ tn i s'.heap ∧ (∀ b ∈ fp, H' b = none) ∧ W i m H' := fun {s' H'} I' nx => by
        obtain ⟨m', hm, w'⟩ := hNx H' nx
        have pin' : ∀ b ∈ fp, ∀ o, s7.heap.get? b = some o → s'.heap.get? b = some o ∧ H' b = none := fun b hb o e =>
          let z := I'.pin (b, o) (List.mem_append_right _ (List.mem_append_right _ (mem_pinsAt hb e)))
          ⟨z.1, z.2.1⟩
        have hl : (wipe σ (own.map (·.2))).length = σ8.length := by rw [← hw8, wipe_length]
        refine ⟨m', hm, i + 1, H', (I'.unpinned (pins := [])).weak hl (fun j v e => ?_), T.keep _ _ _ st7 fun b hb o e => (pin' b hb o e).1, fun b hb => ?_, w'⟩
        · rw [← hw8] at e
          exact (wipe_some e).1
        · obtain ⟨o, e, _⟩ := T.obj _ _ st7 b hb
          exact (pin' b hb o e).2
      cases c with
      | false => exact fin I9 q9
      | true =>
        refine thnF (pk.run _ s9 σ8 H9 _ I9 q9) fun z s10 ⟨yk, H10, I10, r10, q10⟩ => ?_
        refine thnF (pe.run _ s10 σ8 H10 _ I10 q10) fun z2 s11 ⟨yv, H11, I11, r11, kvs, k, b, ek, eb, hD11, hz11, nx⟩ => ?_
        subst ek
        obtain rfl : z = .ref b := r10
        exact set_dT (X := X.blk s3 H3 scope ce fp) hu I11 hD11 hz11 eb r11 fun s12 I12 => fin I12 nx
  exact codeAny_compStart_dict loop (T.self X.A 0 _ _ _ st4 loop)
/-- over a walk: Pv by the turn and the heap -/
theorem dc_it {J : It} {n : Nat} {G : Hp → Prop} {Y : Nat → Hp → V → Hp → Prop} (w : Walk J n G Y) {g : TG} {tt : TT} {tk tv : TE} {vs : List Nat} {σ : L2.St} {H1 : Hp} {D : Addr} {Qd : Hp → Prop} (Pv : Nat → Hp → Prop) (h0 : Pv 0 (upd H1 D (.dT []))) (hG : ∀ i H, i ≤ n → Pv i H → G H)
    (hs : ∀ i x H H', i < n → Pv i H → Y i H x H' → g x (wipe σ vs) H' fun σ2 H2 => wipe σ2 vs = wipe σ vs ∧ tt σ2 H2 fun c H3 =>
      if c = true then tk σ2 H3 fun y H4 => tv σ2 H4 fun z H5 => ∃ kvs k b, y = .ref b ∧ H5 b = some (.tup (k.map kV)) ∧ H5 D = some (.dT kvs) ∧ kvs.length < sizeLine ∧ Pv (i + 1) (upd H5 D (.dT (putK kvs k z))) else Pv (i + 1) H3) (hd : ∀ H, Pv n H → Qd H) :
    ∃ W : Nat → Nat → Hp → Prop, (∃ m, W 0 m (upd H1 D (.dT []))) ∧ ∀ i m H, W i m H →
      (J.stop i H ∧ Qd H) ∨ (J.go i H ∧ ∃ Nx : Hp → Prop, (∀ H', Nx H' → ∃ m', m' < m ∧ W (i + 1) m' H') ∧ ∀ x H', J.yld i H x H' → g x (wipe σ vs) H' fun σ2 H2 => wipe σ2 vs = wipe σ vs ∧ tt σ2 H2 fun c H3 =>
        if c = true then tk σ2 H3 fun y H4 => tv σ2 H4 fun z H5 => ∃ kvs k b, y = .ref b ∧ H5 b = some (.tup (k.map kV)) ∧ H5 D = some (.dT kvs) ∧ kvs.length < sizeLine ∧ Nx (upd H5 D (.dT (putK kvs k z))) else Nx H3) := by
  refine ⟨fun i m H => m = n - i ∧ i ≤ n ∧ Pv i H, ⟨n, rfl, Nat.zero_le _, h0⟩, ?_⟩
  rintro i m H ⟨rfl, hi, p⟩
  by_cases hlt : i < n
  · exact .inr ⟨w.goes i H hlt (hG i H hi p), Pv (i + 1), fun H' p' => ⟨n - (i + 1), by omega, rfl, hlt, p'⟩, fun x H' y => hs i x H H' hlt p (w.yields i H x H' hlt (hG i H hi p) y)⟩
  · obtain rfl : i = n := by omega
    exact .inl ⟨w.stops H (hG i H hi p), hd H p⟩
end
end Sf

/-! {k: v} with a tuple key; sorted of what is collected: a dict with tuple keys (and a set, later). -/
namespace Sf
open PySem PySem.Spec PyProof.Rows L2
/-! ### data without lists read off no list -/
mutual
def flatT : PyData → Bool
  | .list _ => false
  | .dict _ => false
  | .tuple xs => flatTs xs
  | _ => true
def flatTs : List PyData → Bool
  | [] => true
  | x :: xs => flatT x && flatTs xs
end
mutual
theorem reads_flat {h : Heap} : ∀ (d : PyData) (v : Value) (as : List Addr), flatT d = true → Reads h v d as → as = []
  | .none, _, _, _, .none => rfl
  | .bool _, _, _, _, .bool _ => rfl
  | .int _, _, _, _, .int _ _ => rfl
  | .str _, _, _, _, .str _ _ => rfl
  | .list _, _, _, f, _ => by simp [flatT] at f
  | .dict _, _, _, f, _ => by simp [flatT] at f
  | .tuple xs, _, as, f, .tuple _ _ _ r => readsAll_flat xs _ as (by simpa [flatT] using f) r
theorem readsAll_flat {h : Heap} : ∀ (ds : List PyData) (vs : List Value) (as : List Addr), flatTs ds = true → ReadsAll h vs ds as → as = []
  | [], _, _, _, .nil => rfl
  | d :: ds, _, _, f, .cons r t => by
    rw [flatTs, Bool.and_eq_true] at f
    rw [reads_flat d _ _ f.1 r, readsAll_flat ds _ _ f.2 t]
    all_goals rfl
end
section
variable {X : Cx}
/-! ### sorted of what is collected -/
theorem sorted_by {β : Type} {R : Hp → V → β → Prop} {enc : β → PyData} {pins : List (Addr × Obj)} {σ : L2.St} {H : Hp} {s : Shared} {r : Addr} {bs : List β} {Q : VK} {E : Value → Shared → Prop} (hu : X.A.units + 64 < cLine)
    (hcol : wpAny (model X.prog X.w) X.A.in1 (collect (.ref r)) (fun vs s1 => Inv X pins σ H s1 ∧ ∃ (xs : List V) (bs' : List β), Vals xs vs ∧ bs'.Perm bs ∧ Paired (R H) xs bs') E s)
    (hr : ∀ H' x b, Tups H H' → b ∈ bs → R H x b → Dp X.K H' x (enc b)) (hf : ∀ b ∈ bs, flatT (enc b) = true) (hal : PySem.W.AllAlike (bs.map enc)) (hk : PySem.W.Sortable (bs.map enc)) (hd : ∀ b, b ∈ bs → (enc b).depth ≤ 60) (hz : bs.length ≤ sizeLine)
    (q : ∀ (bs' : List β) (ys : List V) (p : Addr), bs'.Perm bs → Paired (R H) ys (bs'.mergeSort (PySem.W.dataLe false enc)) → H p = none → Q (.ref p) (upd H p (.lst ys))) :
    wpAny (model X.prog X.w) X.A (call (.builtin "sorted") [.ref r]) (EP X pins σ Q) E s := by
  refine Calls.call_function_entry kind_sorted plain_sorted entry_sorted (args_sorted1 _) ?_
  unfold Builtin.«sorted»
  refine wpAny_bind (m := checkCount "sorted" 1 1 _) (wpAny_pure ?_)
  refine wpAny_bind (thn hcol fun vs s1 ⟨I1, xs, bs', rv, pm, hp⟩ => ?_)
  have hlen := paired_len hp
  have hlv := rv.length
  have hlb := pm.length_eq
  refine wpAny_bind (wpAny_newList ?_ (by omega))
  have hn : H s1.heap.objs.size = none := I1.hok.fresh (Nat.le_refl _)
  have hob : (s1.heap.push { cls := .type "list", data := .seq vs.toArray }).get? s1.heap.objs.size = some (seqObj "list" vs.toArray 0) := Heap.get?_push_size _ rfl
  have I2 : Inv X pins σ (upd H s1.heap.objs.size (.lst xs)) { s1 with heap := s1.heap.push { cls := .type "list", data := .seq vs.toArray } } :=
    I1.laid (t' := s1.toks) (fun b o e => Heap.get?_push_of_some _ e) (Nat.le_refl _) ⟨by omega, vs, 0, rv, hob⟩
  have e1 := each_of rv hp
  have e2 : PySem.W.EachIs (fun v b => ∃ as, Reads (s1.heap.push { cls := .type "list", data := .seq vs.toArray }) v (enc b) as ∧ s1.heap.objs.size ∉ as) vs bs' := each_mem e1 fun u b hb ⟨x, rx, px⟩ => by
    have hb' := pm.mem_iff.mp hb
    obtain ⟨as, ra⟩ := Dp.reads I2 (enc b) x u (hr _ x b (tups_new hn) hb' px) rx
    refine ⟨as, ra, ?_⟩
    rw [reads_flat _ _ _ (hf b hb') ra]
    exact List.not_mem_nil
  have pmm : (bs'.map enc).Perm (bs.map enc) := pm.map enc
  have hal' : PySem.W.AllAlike (bs'.map enc) := fun d h1 d' h2 => hal d (pmm.mem_iff.mp h1) d' (pmm.mem_iff.mp h2)
  have hk' : PySem.W.Sortable (bs'.map enc) := hk.elim (fun h => .inl fun d h1 => h d (pmm.mem_iff.mp h1)) fun h => .inr fun d h1 => h d (pmm.mem_iff.mp h1)
  have hg := PySem.W.list_sort_data (prog := X.prog) (w := X.w) (A := X.A.in1) (E := E) (s := { s1 with heap := s1.heap.push { cls := .type "list", data := .seq vs.toArray } }) (a := s1.heap.objs.size) (n := 0) (Q := fun v s' => EP X pins σ Q (.ref s1.heap.objs.size) s') hob e1 e2 hal' hk' (by omega)
    (fun b hb => by
      have := hd b (pm.mem_iff.mp hb)
      show X.A.units + 1 + 1 + (enc b).depth < cLine
      omega)
    fun out ho eo => by
      obtain ⟨ys, rv2, py⟩ := of_each eo
      obtain ⟨e, he⟩ := sortedHeap_at (vs := vs) (out := List.toArray out) hob
      have hz2 : ys.length ≤ sizeLine := by
        rw [rv2.length, ho]
        omega
      have mu : Mut (upd H s1.heap.objs.size (.lst xs) s1.heap.objs.size) := by
        rw [upd_same]
        trivial
      have I3 := I2.write (x := s1.heap.objs.size) (e := s1.heap.objs.size) (o := .lst ys) (t' := s1.toks) (h' := sortedHeap (s1.heap.push { cls := .type "list", data := .seq vs.toArray }) s1.heap.objs.size vs (List.toArray out)) mu (.inl rfl)
        (fun b u hb hu => by
          rw [sortedHeap_old hb (Heap.lt_size hu)]
          exact hu) ⟨_, he⟩ ⟨hz2, out, e, rv2, he⟩
      rw [upd_upd] at I3
      exact ⟨.ref s1.heap.objs.size, _, I3, rfl, q bs' ys _ pm py hn⟩
  refine wpAny_bind (wpAny_holding (wpAny_mono hg (fun _ s' x => ?_) fun _ _ e => e))
  exact wpAny_pure ⟨_, rfl, x⟩
/-! ### sorted(d), d a dict whose keys are cells -/
abbrev keyC (c : Cel) : List Key := [Sum.inl c.1, Sum.inl c.2]
def cD (c : Cel) : PyData := .tuple [.int c.1, .int c.2]
theorem CellV.dp {K : PySem.W.Frag} {H : Hp} {v : V} {c : Cel} (h : CellV H v c) : Dp K H v (cD c) := by
  obtain ⟨p, rfl, e⟩ := h
  exact .tup (SqT.of e) (.cons (.int _) (.cons (.int _) .nil))
theorem cD_alike (a b : Cel) : PySem.W.alike (cD a) (cD b) = true := rfl
theorem cD_flat (a : Cel) : flatT (cD a) = true := rfl
theorem cD_depth (a : Cel) : (cD a).depth ≤ 60 := by
  have h : (cD a).depth = 1 := rfl
  rw [h]
  decide
def rSortedDT : List V → Hp → VK → Prop := fun vs H Q => ∃ (d : Addr) (kvs : List (List Key × V)) (cs : List Cel), vs = [V.ref d] ∧ Rd H d (.dT kvs) ∧ kvs.map (·.1) = cs.map keyC ∧
  ∀ ys p, CellVs H ys (cs.mergeSort (PySem.W.dataLe false cD)) → H p = none → Q (.ref p) (upd H p (.lst ys))
theorem cell_keys {P : Program} {w : World} {H : Hp} {kvs : List (List Key × V)} {xs : List (List Key × Addr × Value)} : ∀ {cs : List Cel}, KT H kvs xs → kvs.map (·.1) = cs.map keyC → CellVs H (xs.map fun x => V.ref x.2.1) cs := by
  intro cs r
  induction r generalizing cs with
  | nil =>
    intro e
    cases cs with
    | nil => exact .nil
    | cons c r => cases e
  | cons q t ih =>
    intro e
    cases cs with
    | nil => cases e
    | cons c r =>
      rw [List.map_cons, List.map_cons, List.cons.injEq] at e
      refine .cons ⟨_, rfl, ?_⟩ (ih e.2)
      rw [q.2.1, e.1]
      rfl
theorem cr_sortedDT (hc : X.calm = true) (hu : X.A.units + 64 < cLine) : CallR X (.builtin "sorted") rSortedDT := by
  intro pins s σ H vs us Q I r h
  obtain ⟨d, kvs, cs, rfl, hd, ek, q⟩ := h
  obtain ⟨u, rfl, rx⟩ := vals1 r
  obtain rfl : u = .ref d := rx
  obtain ⟨z, hs, ks, pr, o, es, ep, ho, hx, hdt, he, hn⟩ := (show ObjOk X.prog X.w H s.heap d (.dT kvs) from hd.ok I.hok)
  have l1 : es.size = ks.length := size_of_entries he
  have l2 : kvs.length = ks.length := Paired.length pr
  have l3 : kvs.length = cs.length := by
    have := congrArg List.length ek
    rwa [List.length_map, List.length_map] at this
  refine sorted_by (R := CellV) (enc := cD) (bs := cs) hu (PySem.W.kdu_collect (kdl_raw hs hx hdt) (I.ok.hd hc) ho (by omega) fun h' tk acc kp it => ⟨I.kept (t' := tk) kp, _, cs, ?_, .refl _, cell_keys (P := X.prog) (w := X.w) pr ek⟩)
    (fun H' x b t _ p => (p.up t).dp) (fun b _ => cD_flat b) (PySem.W.AllAlike.of fun a b => cD_alike a b) (.inl fun d hd => by
      obtain ⟨c, _, rfl⟩ := List.mem_map.mp hd
      exact ⟨_, _, rfl⟩) (fun b _ => cD_depth b) (by omega) fun bs' ys p pm hp hn => ?_
  · have ea : acc.toList = ks.map fun x => Value.ref x.2.1 := by
      apply List.ext_getElem?
      intro j
      rw [List.getElem?_map]
      cases hj : acc.toList[j]? with
      | none =>
        have h1 := List.getElem?_eq_none_iff.mp hj
        have h2 : acc.toList.length = ks.length := by
          rw [Array.length_toList, it.1]
          exact l1
        rw [List.getElem?_eq_none (by omega)]
        rfl
      | some v =>
        obtain ⟨en, hen, hv⟩ := it.2 j v (by rw [← Array.getElem?_toList]; exact hj)
        have qe := entry_at he j
        rw [hen] at qe
        cases hb : ks[j]? with
        | none =>
          rw [hb] at qe
          cases qe
        | some x =>
          rw [hb] at qe
          have e2 : en = entryOfKey (tupleKind (mixKind X.prog X.w)) x := Option.some.inj qe
          rw [hv, e2]
          rfl
    rw [ea]
    have : ∀ l : List (List Key × Addr × Value), Vals (l.map fun x => V.ref x.2.1) (l.map fun x => Value.ref x.2.1) := fun l => by
      induction l with
      | nil => exact .nil
      | cons x r ih => exact .cons rfl ih
    exact this ks
  · have tot : PySem.W.TotalLe (PySem.W.dataLe false cD) := PySem.W.sortLe_total _ _ _
    have e : bs'.mergeSort (PySem.W.dataLe false cD) = cs.mergeSort (PySem.W.dataLe false cD) := by
      have anti : ∀ a b : Cel, PySem.W.dataLe false cD a b = true → PySem.W.dataLe false cD b a = true → a = b := fun a b h1 h2 => by
        have f : PySem.W.dataLe false cD = fun p q : Cel => decide (p.1 < q.1 ∨ (p.1 = q.1 ∧ p.2 ≤ q.2)) := PySem.W.dataLe_ii (fun c : Cel => c.1) (fun c : Cel => c.2)
        rw [f] at h1 h2
        have g1 := of_decide_eq_true h1
        have g2 := of_decide_eq_true h2
        exact Prod.ext (by omega) (by omega)
      exact List.Perm.eq_of_pairwise (le := fun x y => PySem.W.dataLe false cD x y = true) (fun a b _ _ => anti a b) (PySem.W.sort_pairwise tot bs') (PySem.W.sort_pairwise tot cs)
        ((List.mergeSort_perm bs' _).trans (pm.trans (List.mergeSort_perm cs _).symm))
    rw [e] at hp
    exact q ys p hp hn
end
end Sf

/-! {k: v} with one tuple key; a dict whose keys are tuples of cells and whose values are ints. -/
namespace Sf
open PySem PySem.Spec PyProof.Rows L2
section
variable {X : Cx}
/-- {k: v}, the key a tuple -/
def tDisp1 (tk tv : TE) : TE := fun σ H Q => ∀ p, H p = none → tk σ (upd H p (.dT [])) fun y H1 => tv σ H1 fun z H2 => ∃ (k : List Key) (b : Addr), y = .ref b ∧ H2 b = some (.tup (k.map kV)) ∧ H2 p = some (.dT []) ∧ Q (.ref p) (upd H2 p (.dT [(k, z)]))
theorem pe_disp1 {pos : Pos} {ke ve : Expr} {tk tv : TE} (hu : X.A.units + 1 < cLine) (hk : PE X ke tk) (hv : PE X ve tv) : PE X (.Dict [some ke] [ve] pos) (tDisp1 tk tv) := by
  refine ⟨fun pins s σ H Q I q => ?_⟩
  have hn := I.hok.fresh (Nat.le_refl s.heap.objs.size)
  have I1 := I.laid (a := s.heap.objs.size) (o := .dT []) (h' := s.heap.push { cls := .type "dict", data := .dict #[] }) (t' := s.toks) (fun _ _ q => Heap.get?_push_of_some _ q) (Nat.le_refl _) (dt_empty s.heap I.big)
  rw [arm_eval_Dict, zip_pairTrees [some ke] [ve] X.env pos rfl rfl, dictDisplay_pairs _ (by intro e; cases e) (by show 1 < 17; decide)]
  refine wpAny_bind (wpAny_standAt (wpAny_bind (wpAny_subDictH (knd := tupleKind (mixKind X.prog X.w)) (Q := fun d s' => wpAny (model X.prog X.w) X.A (pure (Value.ref d)) (EP X pins σ Q) X.xe s') (show X.A.units < cLine by omega) (by show 1 ≤ 15; decide) ?_)))
  refine pairTrees_cons_walk (thn (hk.run pins _ σ _ _ I1 (q _ hn)) fun u s1 ⟨y, H1, I2, ry, q1⟩ => thn (hv.run pins s1 σ H1 _ I2 q1) fun r s2 ⟨z, H2, I3, rz, k, b, ey, eb, ed, q2⟩ => pairTrees_nil_walk ?_)
  subst ey
  obtain rfl : u = .ref b := ry
  obtain ⟨hz, hd, xs, rel, dd⟩ := dt_of I3.hok ed
  cases rel
  refine ⟨[(k, b, r)], ⟨rfl, rfl, key_of I3.hok eb, trivial⟩, dd, fun h' tk dd' hs => wpAny_pure ?_⟩
  obtain ⟨o, es, ep, hq, h2, h3, h4, _, h5⟩ := dd'
  have hl : ([(k, z)] : List (List Key × V)).length ≤ sizeLine := by show 1 ≤ sizeLine; decide
  have new : ObjOk X.prog X.w (upd H2 s.heap.objs.size (.dT [(k, z)])) h' s.heap.objs.size (.dT [(k, z)]) := ⟨hl, hd, [(k, b, r)], .cons ⟨rfl, tups_dT ed _ _ eb, rz⟩ .nil, o, es, ep, hq, h2, h3, h4, h5⟩
  exact ⟨.ref s.heap.objs.size, _, d_write I3 (by rw [ed]; exact True.intro) hs ⟨o, hq⟩ new, rfl, q2⟩
end
/-! ### keys that are tuples of cells -/
def nkC (c : Cel) : NestedKey := .tup [.num c.1, .num c.2]
def nkL (l : List Cel) : NestedKey := .tup (l.map nkC)
theorem nkC_inj {a b : Cel} (h : nkC a = nkC b) : a = b := by
  unfold nkC at h
  injection h with h
  injection h with h1 h2
  injection h2 with h2 _
  injection h1 with h1
  injection h2 with h2
  exact Prod.ext h1 h2
theorem nkL_inj : ∀ {l m : List Cel}, nkL l = nkL m → l = m := by
  intro l m h
  unfold nkL at h
  injection h with h
  induction l generalizing m with
  | nil =>
    cases m with
    | nil => rfl
    | cons c r => cases h
  | cons a t ih =>
    cases m with
    | nil => cases h
    | cons c r =>
      rw [List.map_cons, List.map_cons] at h
      injection h with h1 h2
      rw [nkC_inj h1, ih h2]
theorem nkL_depth (l : List Cel) : (nkL l).depth ≤ 8 := by
  have h : ∀ l : List Cel, NestedKey.depthAll (l.map nkC) ≤ 1 := by
    intro l
    induction l with
    | nil => exact Nat.zero_le _
    | cons c r ih =>
      show max (nkC c).depth _ ≤ 1
      have : (nkC c).depth = 1 := rfl
      omega
  have h2 : (nkL l).depth = NestedKey.depthAll (l.map nkC) + 1 := rfl
  have := h l
  omega
section
variable {P : Program} {w : World} {H : Hp} {h : Heap}
theorem cell_nested {v : V} {u : Value} {c : Cel} (ok : HOk P w H h) (hc : CellV H v c) (r : RelV v u) : NestedIs h (nkC c) u := by
  obtain ⟨p, rfl, e⟩ := hc
  obtain rfl : u = .ref p := r
  obtain ⟨_, its, rv, o, ho, hcl, n, hd⟩ := ok _ _ e
  obtain ⟨u1, u2, rfl, ⟨t1, rfl⟩, ⟨t2, rfl⟩⟩ := vals2 rv
  exact .tup ho hcl hd (.cons (.int _ _) (.cons (.int _ _) .nil))
theorem cells_nested (ok : HOk P w H h) : ∀ {vs : List V} {us : List Value} {cs : List Cel}, CellVs H vs cs → Vals vs us → NestedAll h (cs.map nkC) us
  | _, _, _, .nil, .nil => .nil
  | _, _, _, .cons q t, .cons r s => .cons (cell_nested ok q r) (cells_nested ok t s)
theorem cellsT_nested {a : Addr} {cs : List Cel} (ok : HOk P w H h) (hc : CellsT H a cs) : NestedIs h (nkL cs) (.ref a) := by
  obtain ⟨vs, e, q⟩ := hc
  obtain ⟨_, its, rv, o, ho, hcl, n, hd⟩ := ok _ _ e
  exact .tup ho hcl hd (cells_nested ok q rv)
theorem cellsT_key {a : Addr} {cs : List Cel} (ok : HOk P w H h) (hc : CellsT H a cs) : (nestedKind P w).is h (nkL cs) a := ⟨cellsT_nested ok hc, nkL_depth cs⟩
end
/-- at a stands a dict with these entries -/
def KnownO (P : Program) (w : World) (a : Addr) (xs : List (NestedKey × Addr × Value)) : HO := .ext fun h => (a == sysModules) = false ∧ xs.length ≤ sizeLine ∧ (xs.map (·.1)).Nodup ∧ ∃ o es ep, h.get? a = some o ∧ o.ExactDict ∧ o.data = .dict es ep ∧ es.toList = xs.map (entryOfKey (nestedKind P w))
abbrev KnownP (H : Hp) : List (List Cel × Int) → List (NestedKey × Addr × Value) → Prop := Paired fun kv x => x.1 = nkL kv.1 ∧ CellsT H x.2.1 kv.1 ∧ ∃ t, x.2.2 = .int kv.2 t
/-- a dict from tuples of cells to ints -/
def KnownAt (P : Program) (w : World) (H : Hp) (a : Addr) (kvs : List (List Cel × Int)) : Prop := ∃ xs, H a = some (KnownO P w a xs) ∧ KnownP H kvs xs
theorem KnownP.up {H H' : Hp} (t : Tups H H') {kvs : List (List Cel × Int)} {xs : List (NestedKey × Addr × Value)} (r : KnownP H kvs xs) : KnownP H' kvs xs := Paired.mapP r fun _ _ q => ⟨q.1, q.2.1.up t, q.2.2⟩
theorem KnownAt.up {P : Program} {w : World} {H H' : Hp} {a : Addr} {kvs : List (List Cel × Int)} (h : KnownAt P w H a kvs) (e : ∀ o, H a = some o → H' a = some o) (t : Tups H H') : KnownAt P w H' a kvs := let ⟨xs, e1, r⟩ := h; ⟨xs, e _ e1, r.up t⟩
def kget (kvs : List (List Cel × Int)) (l : List Cel) : Option Int := (kvs.find? fun kv => decide (kv.1 = l)).map (·.2)
def kput (kvs : List (List Cel × Int)) (l : List Cel) (v : Int) : List (List Cel × Int) := if (kget kvs l).isSome = true then kvs.map (fun kv => if kv.1 = l then (l, v) else kv) else kvs ++ [(l, v)]
theorem kget_some {kvs : List (List Cel × Int)} {l : List Cel} {v : Int} (h : kget kvs l = some v) : (l, v) ∈ kvs := by
  unfold kget at h
  rw [Option.map_eq_some_iff] at h
  obtain ⟨p, h1, h2⟩ := h
  have e := List.find?_some h1
  have e2 : p.1 = l := of_decide_eq_true e
  have m := List.mem_of_find?_eq_some h1
  rw [← h2, ← e2]
  exact m
theorem mem_kput {kvs : List (List Cel × Int)} {l : List Cel} {v : Int} {p : List Cel × Int} (h : p ∈ kput kvs l v) : p = (l, v) ∨ p ∈ kvs := by
  unfold kput at h
  split at h
  · obtain ⟨q, hq, e⟩ := List.mem_map.mp h
    split at e
    · exact .inl e.symm
    · exact .inr (e ▸ hq)
  · rcases List.mem_append.mp h with h | h
    · exact .inr h
    · exact .inl (List.mem_singleton.mp h)
theorem kput_len (kvs : List (List Cel × Int)) (l : List Cel) (v : Int) : (kput kvs l v).length ≤ kvs.length + 1 := by
  unfold kput
  split
  · rw [List.length_map]
    exact Nat.le_succ _
  · rw [List.length_append]
    exact Nat.le_refl _
theorem kget_kput (kvs : List (List Cel × Int)) (l : List Cel) (v : Int) : kget (kput kvs l v) l = some v := by
  have old : ∀ kvs : List (List Cel × Int), (kget kvs l).isSome = true → kget (kvs.map fun kv => if kv.1 = l then (l, v) else kv) l = some v := by
    intro kvs
    induction kvs with
    | nil => intro h; cases h
    | cons p r ih =>
      intro h
      unfold kget at h ih ⊢
      rw [List.map_cons]
      by_cases e : p.1 = l
      · rw [if_pos e, List.find?_cons_of_pos (by simp)]
        rfl
      · rw [if_neg e, List.find?_cons_of_neg (by simpa using e)]
        rw [List.find?_cons_of_neg (by simpa using e)] at h
        exact ih h
  have new : ∀ kvs : List (List Cel × Int), kget kvs l = none → kget (kvs ++ [(l, v)]) l = some v := by
    intro kvs h
    unfold kget at h ⊢
    rw [Option.map_eq_none_iff] at h
    rw [List.find?_append, h, List.find?_cons_of_pos (by simp)]
    rfl
  unfold kput
  split
  · rename_i h
    exact old kvs h
  · rename_i h
    exact new kvs (by cases e : kget kvs l with | none => rfl | some x => rw [e] at h; exact absurd rfl h)
theorem known_at {H : Hp} {l : List Cel} : ∀ {kvs : List (List Cel × Int)} {xs : List (NestedKey × Addr × Value)}, KnownP H kvs xs → (kget kvs l = none → atKey xs (nkL l) = none) ∧ ∀ v, kget kvs l = some v → ∃ p t, atKey xs (nkL l) = some p ∧ p.2 = .int v t
  | _, _, .nil => ⟨fun _ => rfl, fun v h => by cases h⟩
  | _, _, .cons (a := kv) (b := x) q t => by
    have ih := known_at (l := l) t
    unfold kget atKey at ih ⊢
    by_cases e : kv.1 = l
    · have e2 : x.1 = nkL l := by rw [q.1, e]
      rw [List.find?_cons_of_pos (by simpa using e), List.find?_cons_of_pos (by simpa using e2)]
      obtain ⟨tk, ht⟩ := q.2.2
      refine ⟨fun h => (by cases h), fun v h => ⟨x.2, tk, rfl, ?_⟩⟩
      rw [ht]
      exact congrArg (fun z => Value.int z tk) (Option.some.inj h)
    · have e2 : ¬ x.1 = nkL l := fun z => e (nkL_inj (q.1.symm.trans z))
      rw [List.find?_cons_of_neg (by simpa using e), List.find?_cons_of_neg (by simpa using e2)]
      exact ih
theorem KnownP.put {H : Hp} {l : List Cel} {b : Addr} {v : Int} {t : Tok} (hb : CellsT H b l) {kvs : List (List Cel × Int)} {xs : List (NestedKey × Addr × Value)} (r : KnownP H kvs xs) : KnownP H (kput kvs l v) (storedH xs (nkL l) b (.int v t)) := by
  have rep : ∀ {kvs : List (List Cel × Int)} {xs : List (NestedKey × Addr × Value)}, KnownP H kvs xs → KnownP H (kvs.map fun kv => if kv.1 = l then (l, v) else kv) (xs.map (putAt (nkL l) (.int v t))) := by
    intro kvs xs r
    induction r with
    | nil => exact .nil
    | @cons kv x _ _ q _ ih =>
      refine .cons ?_ ih
      unfold putAt
      dsimp only
      by_cases e : kv.1 = l
      · have e2 : x.1 = nkL l := by rw [q.1, e]
        rw [if_pos e, if_pos e2]
        exact ⟨e2, e ▸ q.2.1, t, rfl⟩
      · have e2 : ¬ x.1 = nkL l := fun z => e (nkL_inj (q.1.symm.trans z))
        rw [if_neg e, if_neg e2]
        exact q
  have k := known_at (l := l) r
  unfold kput
  cases e : kget kvs l with
  | none =>
    rw [storedH_new (k.1 e)]
    exact Paired.snoc r ⟨rfl, hb, t, rfl⟩
  | some z =>
    obtain ⟨p, _, hp, _⟩ := k.2 z e
    rw [storedH_old hp]
    exact rep r
section
variable {X : Cx}
theorem known_dict {pins : List (Addr × Obj)} {σ : L2.St} {H : Hp} {s : Shared} {a : Addr} {kvs : List (List Cel × Int)} (I : Inv X pins σ H s) (k : KnownAt X.prog X.w H a kvs) : (a == sysModules) = false ∧ ∃ xs, H a = some (KnownO X.prog X.w a xs) ∧ xs.length ≤ sizeLine ∧ KnownP H kvs xs ∧ s.heap.DictOfH (nestedKind X.prog X.w) a xs := by
  obtain ⟨xs, e, r⟩ := k
  obtain ⟨⟨h1, h2, h3, o, es, ep, h4, h5, h6, h7⟩, _, _⟩ := I.hok _ _ e
  refine ⟨h1, xs, e, h2, r, o, es, ep, h4, h5, h6, h7, fun x hx => ?_, h3⟩
  obtain ⟨i, hi⟩ := List.getElem?_of_mem hx
  obtain ⟨kv, _, q1, q2, _⟩ := Paired.at2 r hi
  rw [q1]
  exact cellsT_key I.hok q2
theorem KnownO_ok {P : Program} {w : World} {H : Hp} {h : Heap} {a : Addr} {xs : List (NestedKey × Addr × Value)} (h1 : (a == sysModules) = false) (h2 : xs.length ≤ sizeLine) (dd : h.DictOfH (nestedKind P w) a xs) : ObjOk P w H h a (KnownO P w a xs) := by
  obtain ⟨o, es, ep, h4, h5, h6, h7, _, h8⟩ := dd
  exact ⟨⟨h1, h2, h8, o, es, ep, h4, h5, h6, h7⟩, ⟨o, h4⟩, fun g1 g2 ⟨k1, k2, k3, o', es', ep', k4, k5, k6, k7⟩ kp => ⟨k1, k2, k3, o', es', ep', kp _ k4, k5, k6, k7⟩⟩
/-- {} , to be such a dict -/
theorem pe_dnewN {pos : Pos} : PE X (.Dict [] [] pos) (fun _ H Q => ∀ p H', H p = none → Same H H' → KnownAt X.prog X.w H' p [] → Q (.ref p) H') := ⟨fun pins s σ H Q I h => by
  have hn := I.hok.fresh (Nat.le_refl s.heap.objs.size)
  have dd : (s.heap.push { cls := .type "dict", data := .dict #[] }).DictOfH (nestedKind X.prog X.w) s.heap.objs.size [] := ⟨_, #[], _, Heap.get?_push_size _ rfl, ⟨rfl, rfl, rfl⟩, rfl, rfl, fun x hx => absurd hx List.not_mem_nil, List.nodup_nil⟩
  have hb := I.big
  have hs : (s.heap.objs.size == sysModules) = false := beq_eq_false_iff_ne.mpr (Nat.ne_of_gt hb)
  exact wpAny_Dict_empty ⟨.ref s.heap.objs.size, _, I.laid (a := s.heap.objs.size) (o := KnownO X.prog X.w s.heap.objs.size []) (t' := s.toks) (fun _ _ q => Heap.get?_push_of_some _ q) (Nat.le_refl _) (KnownO_ok hs (Nat.zero_le _) dd), rfl,
    h _ _ hn (same_new hn) ⟨[], upd_same, .nil⟩⟩⟩
/-- l not in d -/
def rNotInN (P : Program) (w : World) : R2 := fun x y H Q => ∃ a b l kvs, x = .ref b ∧ y = .ref a ∧ CellsT H b l ∧ KnownAt P w H a kvs ∧ Q (.bl (!(kget kvs l).isSome)) H
theorem op_notInN (hu : X.A.units + 9 < cLine) : OpR X (compareOp .NotIn) (rNotInN X.prog X.w) := by
  intro pins s σ H x y v u Q I rx ry ⟨a, b, l, kvs, hx, hy, hb, hk, q⟩
  subst hx hy
  obtain rfl : v = .ref b := rx
  obtain rfl : u = .ref a := ry
  obtain ⟨hd, xs, _, _, r, dd⟩ := known_dict I hk
  refine wpAny_notIn_heap (show X.A.units + 1 + 8 < cLine by omega) (cellsT_key I.hok hb) hd dd ?_
  have e : (atKey xs (nkL l)).isSome = (kget kvs l).isSome := by
    have k := known_at (l := l) r
    cases e : kget kvs l with
    | none => rw [k.1 e]; rfl
    | some z => obtain ⟨p, _, hp, _⟩ := k.2 z e; rw [hp]; rfl
  rw [e]
  exact ⟨.bl _, H, I.tok _, rfl, q⟩
/-- d[l] -/
def tGetN (P : Program) (w : World) (td tl : TE) : TE := fun σ H Q => td σ H fun x H1 => tl σ H1 fun y H2 => ∃ a b l kvs z, x = .ref a ∧ y = .ref b ∧ CellsT H2 b l ∧ KnownAt P w H2 a kvs ∧ kget kvs l = some z ∧ Q (.int z) H2
theorem pe_getN {o i : Expr} {pos : Pos} {td tl : TE} (hu : X.A.units + 9 < cLine) (ho : PE X o td) (hi : PE X i tl) (hs : NoSl i) : PE X (.Subscript o i pos) (tGetN X.prog X.w td tl) := by
  refine ⟨fun pins s σ H Q I h => ?_⟩
  refine subD_of PySem.F.slot_dict_getitem.lookup hs (thn (ho.run pins s σ H _ I h) fun u s1 ⟨x, H1, I1, rx, q1⟩ => thn (hi.run pins s1 σ H1 _ I1 q1) fun iv s2 ⟨y, H2, I2, ry, a, b, l, kvs, z, ex, ey, hb, hk, hz, q2⟩ => ?_)
  subst ex ey
  obtain rfl : u = .ref a := rx
  obtain rfl : iv = .ref b := ry
  obtain ⟨hd, xs, _, _, r, dd⟩ := known_dict I2 hk
  obtain ⟨p, t, hp, ht⟩ := (known_at (l := l) r).2 z hz
  have ty : s2.TypeIs (.ref a) "dict" := let ⟨o, _, _, h1, h2, _⟩ := dd; ⟨o, h1, h2.1⟩
  refine ⟨ty, wpAny_getItem_heap (show X.A.units + 1 + 8 < cLine by omega) (cellsT_key I2.hok hb) dd hp ?_⟩
  rw [ht]
  exact ⟨.int z, H2, I2.tok _, ⟨t, rfl⟩, q2⟩
/-- d[l] = z -/
def rSetN (P : Program) (w : World) : V → V → V → Hp → (Hp → Prop) → Prop := fun o i v H Q => ∃ a b l kvs z, o = .ref a ∧ i = .ref b ∧ v = .int z ∧ CellsT H b l ∧ KnownAt P w H a kvs ∧ kvs.length < sizeLine ∧
  ∀ H', (∀ c, c ≠ a → H' c = H c) → KnownAt P w H' a (kput kvs l z) → Q H'
theorem set_known (hu : X.A.units + 9 < cLine) : PSet X (rSetN X.prog X.w) := by
  intro pins s σ H o i v ov iv u Q I ro ri rv ⟨a, b, l, kvs, z, eo, ei, ev, hb, hk, hz, q⟩
  subst eo ei ev
  obtain rfl : ov = .ref a := ro
  obtain rfl : iv = .ref b := ri
  obtain ⟨t, rfl⟩ := rv
  obtain ⟨hd, xs, ea, hl, r, dd⟩ := known_dict I hk
  have hlen := paired_len r
  refine wpAny_setItem_heap (hsz := hl) (show X.A.units + 1 + 8 < cLine by omega) (cellsT_key I.hok hb) dd fun h' dd' hs => ?_
  have mu : Mut (H a) := by
    rw [ea]
    exact True.intro
  have he : ∃ q, h'.get? a = some q := let ⟨q, _, _, hq, _⟩ := dd'; ⟨q, hq⟩
  have r2 : KnownP H (kput kvs l z) (storedH xs (nkL l) b (.int z t)) := KnownP.put hb r
  have hl2 : (storedH xs (nkL l) b (.int z t)).length ≤ sizeLine := by
    rw [← paired_len r2]
    have := kput_len kvs l z
    omega
  have tp : Tups H (upd H a (KnownO X.prog X.w a (storedH xs (nkL l) b (.int z t)))) := tups_upd fun xs e => by
    rw [ea] at e
    cases e
  exact ⟨_, d_write I mu hs he (KnownO_ok hd hl2 dd'), q _ (fun c hc => upd_ne hc) ⟨_, upd_same, r2.up tp⟩⟩
end
end Sf

/-! Hash tables of sets up to 512 places: a free place is always met; laid anew, all find a place. -/
namespace Sf
open PySem PySem.Spec PyProof.Rows L2
def MaskF (m : Nat) : Prop := m = 7 ∨ m = 31 ∨ m = 127 ∨ m = 511
/-! ### the round of i -> 5 i + 1 below 512 -/
def orbit (m : Nat) : Nat → Nat → List Nat
  | 0, _ => []
  | n + 1, x => x :: orbit m n ((x * 5 + 1) % (m + 1))
theorem orbit_get (m : Nat) : ∀ (n x b : Nat), b < n → (orbit m n x)[b]? = some (lcgI m x b)
  | 0, _, b, h => absurd h (Nat.not_lt_zero _)
  | n + 1, x, 0, _ => rfl
  | n + 1, x, b + 1, h => by
    have back : ∀ k, lcgI m ((x * 5 + 1) % (m + 1)) k = lcgI m x (k + 1) := by
      intro k
      induction k with
      | zero => rfl
      | succ k ih =>
        show (lcgI m ((x * 5 + 1) % (m + 1)) k * 5 + 1) % (m + 1) = (lcgI m x (k + 1) * 5 + 1) % (m + 1)
        rw [ih]
    show (orbit m n ((x * 5 + 1) % (m + 1)))[b]? = some (lcgI m x (b + 1))
    rw [orbit_get m n _ b (Nat.lt_of_succ_lt_succ h), back]
theorem lcgI_zero (m : Nat) : ∀ k, lcgI m 0 k = lcgN m k
  | 0 => rfl
  | k + 1 => by
    show (lcgI m 0 k * 5 + 1) % (m + 1) = (lcgN m k * 5 + 1) % (m + 1)
    rw [lcgI_zero m k]
/-- the places met, as the bits of one number -/
def bitsOf (l : List Nat) : Nat := l.foldl (fun a x => a ||| 2 ^ x) 0
theorem bits_fold (j : Nat) : ∀ (l : List Nat) (a : Nat), (l.foldl (fun a x => a ||| 2 ^ x) a).testBit j = true → a.testBit j = true ∨ j ∈ l
  | [], a, h => .inl h
  | x :: r, a, h => by
    rcases bits_fold j r _ h with h | h
    · rw [Nat.testBit_or, Bool.or_eq_true] at h
      rcases h with h | h
      · exact .inl h
      · rw [Nat.testBit_two_pow] at h
        have e : x = j := of_decide_eq_true h
        subst e
        exact .inr (.head _)
    · exact .inr (.tail _ h)
theorem full_bits (m : Nat) (h : bitsOf (orbit m (m + 1) 0) = 2 ^ (m + 1) - 1) {j : Nat} (hj : j ≤ m) : ∃ b, b ≤ m ∧ lcgN m b = j := by
  have ht : (bitsOf (orbit m (m + 1) 0)).testBit j = true := by
    rw [h, Nat.testBit_two_pow_sub_one]
    exact decide_eq_true (Nat.lt_succ_of_le hj)
  rcases bits_fold j _ 0 ht with z | z
  · rw [Nat.zero_testBit] at z
    cases z
  · obtain ⟨b, hb⟩ := List.getElem?_of_mem z
    have hlen : ∀ n x, (orbit m n x).length = n := by
      intro n
      induction n with
      | zero => intro x; rfl
      | succ n ih => intro x; exact congrArg (· + 1) (ih _)
    have hlt : b < m + 1 := by
      have := (List.getElem?_eq_some_iff.mp hb).1
      rwa [hlen] at this
    rw [orbit_get m _ _ b hlt, lcgI_zero] at hb
    exact ⟨b, Nat.le_of_lt_succ hlt, Option.some.inj hb⟩
theorem full7 : bitsOf (orbit 7 8 0) = 2 ^ 8 - 1 := by decide +kernel
theorem full31 : bitsOf (orbit 31 32 0) = 2 ^ 32 - 1 := by decide +kernel
theorem full127 : bitsOf (orbit 127 128 0) = 2 ^ 128 - 1 := by decide +kernel
theorem full511 : bitsOf (orbit 511 512 0) = 2 ^ 512 - 1 := by decide +kernel
theorem round511 : lcgN 511 512 = 0 := by decide +kernel
theorem lcgF_all {m : Nat} (hm : MaskF m) {j : Nat} (hj : j ≤ m) : ∃ b, b ≤ m ∧ lcgN m b = j := by
  rcases hm with rfl | rfl | rfl | rfl
  · exact full_bits 7 full7 hj
  · exact full_bits 31 full31 hj
  · exact full_bits 127 full127 hj
  · exact full_bits 511 full511 hj
theorem lcgF_round {m : Nat} (hm : MaskF m) : lcgN m (m + 1) = 0 := by
  rcases hm with rfl | rfl | rfl | rfl
  · exact lcg_round (.inl rfl)
  · exact lcg_round (.inr (.inl rfl))
  · exact lcg_round (.inr (.inr rfl))
  · exact round511
theorem lcgF_mod {m : Nat} (hm : MaskF m) : ∀ k, lcgN m (m + 1 + k) = lcgN m k
  | 0 => lcgF_round hm
  | k + 1 => by
    show (lcgN m (m + 1 + k) * 5 + 1) % (m + 1) = (lcgN m k * 5 + 1) % (m + 1)
    rw [lcgF_mod hm k]
theorem lcgF_from {m : Nat} (hm : MaskF m) {i j : Nat} (hi : i ≤ m) (hj : j ≤ m) : ∃ k, k ≤ m ∧ lcgI m i k = j := by
  obtain ⟨a, ha, rfl⟩ := lcgF_all hm hi
  obtain ⟨b, hb, rfl⟩ := lcgF_all hm hj
  by_cases c : b < a
  · refine ⟨b + (m + 1) - a, by omega, ?_⟩
    rw [lcgN_add, show a + (b + (m + 1) - a) = m + 1 + b by omega, lcgF_mod hm]
  · refine ⟨b - a, by omega, ?_⟩
    rw [lcgN_add, show a + (b - a) = b by omega]
/-- each place begins a run soon enough -/
theorem meetsF {m : Nat} (hm : MaskF m) (h : Int) {j : Nat} (hj : j ≤ m) : ∃ n, n ≤ m + 12 ∧ runI m (SetTable.bits h) n = j := by
  obtain ⟨k, hk, e⟩ := lcgF_from hm (runI_le m (SetTable.bits h) 12) hj
  exact ⟨12 + k, by omega, by rw [runI_tail (bits_lt h)]; exact e⟩
/-- the first free place on the way -/
theorem firstF {m : Nat} (hm : MaskF m) {pl : List Nat} (hl : pl.length ≤ m) (h : Int) : ∃ K, K < 10 * SetTable.turns m ∧ way m h K ∉ pl ∧ ∀ k, k < K → way m h k ∈ pl := by
  obtain ⟨j, hj, hn⟩ := st_missing pl (m + 1) (by omega)
  obtain ⟨n, hn2, e⟩ := meetsF hm h (Nat.le_of_lt_succ hj)
  obtain ⟨k, hk, e2⟩ := run_nth m (SetTable.bits h) n
  have ek : way m h k = j := by
    show (nth m (runAt m (SetTable.bits h % (m + 1)) (SetTable.bits h)) k).j = j
    rw [e2]
    exact e
  obtain ⟨K, h1, h2, h3⟩ := st_least (p := fun k => way m h k ∉ pl) k (by rw [ek]; exact hn)
  refine ⟨K, ?_, h2, fun k' hk' => Classical.not_not.mp (h3 k' hk')⟩
  unfold SetTable.turns
  omega
theorem wayF_le {m : Nat} {h : Int} {k : Nat} : way m h k ≤ m := by
  have hi : SetTable.bits h % (m + 1) ≤ m := Nat.le_of_lt_succ (Nat.mod_lt _ (Nat.succ_pos _))
  have r := runEnd_bd hi
  have q := nth_in (m := m) k (runAt m (SetTable.bits h % (m + 1)) (SetTable.bits h)) (by
    show SetTable.bits h % (m + 1) + (SetTable.runEnd m (SetTable.bits h % (m + 1)) - SetTable.bits h % (m + 1)) ≤ m
    omega)
  show (nth m (runAt m (SetTable.bits h % (m + 1)) (SetTable.bits h)) k).j ≤ m
  omega
/-! ### laid anew -/
theorem freeF {m : Nat} (hm : MaskF m) (owner : Array (Option Nat)) (h : Int) {j : Nat} (hj : j ≤ m) (hf : oAt owner j = none) :
    ∃ K, SetTable.layClean.free m owner (SetTable.turns m) (SetTable.bits h % (m + 1)) (SetTable.bits h) = some (way m h K) ∧ oAt owner (way m h K) = none := by
  obtain ⟨n, hn, e⟩ := meetsF hm h hj
  have hw : way m h (off m (SetTable.bits h % (m + 1)) (SetTable.bits h) n) = j := by
    show (nth m (runAt m (SetTable.bits h % (m + 1)) (SetTable.bits h)) (off m (SetTable.bits h % (m + 1)) (SetTable.bits h) n)).j = j
    rw [nth_off, itL_run]
    exact e
  obtain ⟨K, k1, k2, k3⟩ := st_least (p := fun k => oAt owner (way m h k) = none) (off m (SetTable.bits h % (m + 1)) (SetTable.bits h) n) (by rw [hw]; exact hf)
  refine ⟨K, free_spec m owner (SetTable.turns m) n _ _ K (by unfold SetTable.turns; omega) k1 (fun k hk => ?_) (Option.isNone_iff_eq_none.mpr k2), k2⟩
  cases z : oAt owner (nth m (runAt m (SetTable.bits h % (m + 1)) (SetTable.bits h)) k).j with
  | none => exact absurd z (k3 k hk)
  | some _ => rfl
/-- n hashes have their places -/
structure Laid (m n : Nat) (owner : Array (Option Nat)) : Prop where
  sz : owner.size = m + 1
  all : ∀ k, k < n → ∃ j, j ≤ m ∧ oAt owner j = some k
  few : ∃ ps : List Nat, ps.length = n ∧ ∀ j, j ≤ m → oAt owner j ≠ none → j ∈ ps
theorem Laid.init (m : Nat) : Laid m 0 (Array.replicate (m + 1) none) where
  sz := Array.size_replicate
  all := fun k hk => absurd hk (Nat.not_lt_zero _)
  few := ⟨[], rfl, fun j hj e => absurd (oAt_init hj) e⟩
theorem Laid.step {m n : Nat} (hm : MaskF m) {owner : Array (Option Nat)} (W : Laid m n owner) (hl : n ≤ m) (h : Int) :
    ∃ j, SetTable.layClean.free m owner (SetTable.turns m) (SetTable.bits h % (m + 1)) (SetTable.bits h) = some j ∧ Laid m (n + 1) (owner.setIfInBounds j (some n)) := by
  obtain ⟨ps, hps, hin⟩ := W.few
  obtain ⟨j0, h0, hn0⟩ := st_missing ps (m + 1) (by omega)
  have hj0 : oAt owner j0 = none := by
    cases z : oAt owner j0 with
    | none => rfl
    | some k => exact absurd (hin j0 (Nat.le_of_lt_succ h0) (by rw [z]; exact Option.some_ne_none _)) hn0
  obtain ⟨K, e1, e2⟩ := freeF hm owner h (Nat.le_of_lt_succ h0) hj0
  have hjs : way m h K < owner.size := by
    rw [W.sz]
    exact Nat.lt_succ_of_le wayF_le
  have hself := oAt_set_self (some n) hjs
  refine ⟨way m h K, e1, ⟨by rw [Array.size_setIfInBounds]; exact W.sz, fun k hk => ?_, way m h K :: ps, by rw [List.length_cons, hps], fun j hj e => ?_⟩⟩
  · by_cases c : k = n
    · subst c
      exact ⟨_, wayF_le, hself⟩
    · obtain ⟨j, hj, e⟩ := W.all k (by omega)
      refine ⟨j, hj, ?_⟩
      rw [oAt_set_ne _ (fun z => by rw [z, e2] at e; cases e)]
      exact e
  · by_cases c : j = way m h K
    · rw [c]
      exact .head _
    · rw [oAt_set_ne _ c] at e
      exact .tail _ (hin j hj e)
theorem laid_fold {m : Nat} (hm : MaskF m) : ∀ (hs : List Int) (n : Nat) (owner : Array (Option Nat)), Laid m n owner → n + hs.length ≤ m → ∃ owner', hs.foldl (stepF m) (some (owner, n)) = some (owner', n + hs.length) ∧ Laid m (n + hs.length) owner'
  | [], n, owner, W, _ => ⟨owner, rfl, W⟩
  | h :: r, n, owner, W, hl => by
    rw [List.length_cons] at hl
    obtain ⟨j, e, W'⟩ := W.step hm (by omega) h
    obtain ⟨owner', f, W2⟩ := laid_fold hm r (n + 1) _ W' (by omega)
    rw [List.length_cons, show n + (r.length + 1) = n + 1 + r.length by omega, List.foldl_cons, stepF_some e]
    exact ⟨owner', f, W2⟩
theorem relaidF (t : SetTable) {hs : Array Int} {wanted M : Nat} (hw : SetTable.sizeAbove wanted - 1 = M) (hM : MaskF M) (hn : hs.size ≤ M) :
    ∃ t' order, t.relaid hs wanted = some (t', order) ∧ order.toList.Perm (List.range hs.size) ∧ Ris t'.place.toList ∧ t'.place.size = hs.size ∧ t'.mask = M ∧ t'.led = t.led ∧ t'.plain = t.plain ∧ t'.dummies = #[] := by
  obtain ⟨owner, f, W⟩ := laid_fold hM hs.toList 0 _ (Laid.init M) (by rw [Array.length_toList]; omega)
  rw [Nat.zero_add, Array.length_toList] at W f
  have hr : t.relaid hs wanted = some (tabOf t M owner, ((liveOf M owner).map (·.2)).toArray) := by
    have e : SetTable.layClean M hs = some owner := by
      rw [layClean_eq, f]
      rfl
    rw [relaid_eq, hw, e]
    rfl
  have ris := ris_live (fun j => owner.getD j none) (List.range (M + 1)) (by
    unfold Ris
    first | exact List.pairwise_lt_range | exact List.pairwise_lt_range _)
  have r1 : Ris ((liveOf M owner).map (·.1)) := ris.1
  have nd : ((liveOf M owner).map (·.1)).Nodup := List.Pairwise.imp (fun h => Nat.ne_of_lt h) r1
  have inn : ∀ k, k < hs.size → k ∈ (liveOf M owner).map (·.2) := fun k hk => by
    obtain ⟨j, b1, b2⟩ := W.all k hk
    exact List.mem_map.mpr ⟨(j, k), (mem_live W.sz).2 ⟨b1, b2⟩, rfl⟩
  have hlen : (liveOf M owner).length = hs.size := by
    obtain ⟨ps, p1, p2⟩ := W.few
    have a := nat_nodup_len ((liveOf M owner).map (·.1)) ps nd fun x hx => by
      obtain ⟨⟨y, k⟩, hq, rfl⟩ := List.mem_map.mp hx
      obtain ⟨b1, b2⟩ := (mem_live W.sz).1 hq
      exact p2 y b1 (by rw [b2]; exact Option.some_ne_none _)
    have b := nat_nodup_len (List.range hs.size) ((liveOf M owner).map (·.2)) List.nodup_range fun k hk => inn k (List.mem_range.mp hk)
    rw [List.length_map, p1] at a
    rw [List.length_map, List.length_range] at b
    omega
  refine ⟨_, _, hr, perm_range hs.size _ ?_ inn, r1, ?_, rfl, rfl, rfl, rfl⟩
  · show ((liveOf M owner).map (·.2)).length = hs.size
    rw [List.length_map]
    exact hlen
  · show ((liveOf M owner).map (·.1)).toArray.size = hs.size
    rw [List.size_toArray, List.length_map]
    exact hlen
theorem size_77 : SetTable.sizeAbove (SetTable.grown 77) = 512 := by decide +kernel
end Sf

/-! a set of different tuples of cells, up to 306 of them: one more put in. -/
namespace Sf
open PySem PySem.Spec PyProof.Rows L2
section
variable {P : Program} {w : World} {A : Around} {E : Value → Shared → Prop} {s : Shared}
/-! ### small questions asked of tuples of cells -/
theorem num_quiet {h : Heap} {i : Int} {v : Value} (x : NestedIs h (.num i) v) (n : Nat) : ofAClassStatement n v = pure false ∧ hashByValue n v = pure true := by
  cases x <;> cases n <;> exact ⟨rfl, rfl⟩
theorem ofA_level {n m : Nat} {b : Addr} {o : Obj} {vs : Array Value} {Q : Bool → Shared → Prop} (ho : s.heap.get? b = some o) (hc : o.cls = .type "tuple") (hd : o.data = .seq vs m)
    (hall : ∀ v ∈ vs.toList, ∀ Q' : Bool → Shared → Prop, Q' false s → wpAny (model P w) A (ofAClassStatement n v) Q' E s) (h : Q false s) : wpAny (model P w) A (ofAClassStatement (n + 1) (.ref b)) Q E s := by
  unfold ofAClassStatement
  refine wpAny_bind (wpAny_typeOf (T := "tuple") ⟨o, ho, hc⟩ ?_)
  dsimp only
  have e : (("tuple" : String) == "tuple") = true := by decide
  simp only [e, if_true, Bool.not_true, Bool.false_eq_true, if_false]
  try refine wpAny_bind (wpAny_pure ?_)
  try simp only [Bool.not_true, Bool.false_eq_true, if_false]
  show wpAny _ _ (seqItems? (.ref b) >>= _) _ _ s
  refine wpAny_bind (wpAny_seqItems ho hd ?_)
  dsimp only
  refine wpAny_bind ?_
  show wpAny _ _ (forIn vs _ _) _ _ s
  rw [← Array.forIn_toList]
  refine wpAny_forIn_list _ (fun rest r s' => r.1 = none ∧ s' = s ∧ ∀ v ∈ rest, ∀ Q' : Bool → Shared → Prop, Q' false s → wpAny (model P w) A (ofAClassStatement n v) Q' E s) _ ?_ ?_ _ _ ⟨rfl, rfl, hall⟩
  · rintro v rest r s' ⟨hr, rfl, hv⟩
    refine wpAny_bind (hv v List.mem_cons_self _ ?_)
    simp only [Bool.false_eq_true, if_false]
    exact wpAny_pure ⟨rfl, rfl, fun u hu => hv u (List.mem_cons_of_mem _ hu)⟩
  · rintro ⟨r1, r2⟩ s' ⟨hr, rfl, _⟩
    simp only at hr
    subst hr
    exact wpAny_pure h
theorem hashBy_level {n m : Nat} {b : Addr} {o : Obj} {vs : Array Value} {Q : Bool → Shared → Prop} (ho : s.heap.get? b = some o) (hc : o.cls = .type "tuple") (hd : o.data = .seq vs m)
    (hall : ∀ v ∈ vs.toList, ∀ Q' : Bool → Shared → Prop, Q' true s → wpAny (model P w) A (hashByValue n v) Q' E s) (h : Q true s) : wpAny (model P w) A (hashByValue (n + 1) (.ref b)) Q E s := by
  unfold hashByValue
  refine wpAny_bind (wpAny_specialOf (T := "tuple") ⟨o, ho, hc⟩ F.slot_tuple_hash.lookup ?_)
  show wpAny _ _ (seqItems? (.ref b) >>= _) _ _ s
  refine wpAny_bind (wpAny_seqItems ho hd ?_)
  refine wpAny_bind ?_
  show wpAny _ _ (forIn vs _ _) _ _ s
  rw [← Array.forIn_toList]
  refine wpAny_forIn_list _ (fun rest r s' => r.1 = none ∧ s' = s ∧ ∀ v ∈ rest, ∀ Q' : Bool → Shared → Prop, Q' true s → wpAny (model P w) A (hashByValue n v) Q' E s) _ ?_ ?_ _ _ ⟨rfl, rfl, hall⟩
  · rintro v rest r s' ⟨hr, rfl, hv⟩
    refine wpAny_bind (hv v List.mem_cons_self _ ?_)
    simp only [Bool.not_true, Bool.false_eq_true, if_false]
    exact wpAny_pure ⟨rfl, rfl, fun u hu => hv u (List.mem_cons_of_mem _ hu)⟩
  · rintro ⟨r1, r2⟩ s' ⟨hr, rfl, _⟩
    simp only at hr
    subst hr
    exact wpAny_pure h
theorem cell_quiet {c : Cel} {v : Value} (x : NestedIs s.heap (nkC c) v) (n : Nat) : (∀ Q : Bool → Shared → Prop, Q false s → wpAny (model P w) A (ofAClassStatement (n + 1) v) Q E s) ∧ ∀ Q : Bool → Shared → Prop, Q true s → wpAny (model P w) A (hashByValue (n + 1) v) Q E s := by
  unfold nkC at x
  cases x with
  | @tup a o vs m _ ho hc hd hk =>
    have all : ∀ u ∈ vs.toList, ∃ i, NestedIs s.heap (.num i) u := fun u hu => by
      generalize vs.toList = l at hk hu
      cases hk with
      | cons r t =>
        cases t with
        | cons r2 t2 =>
          cases t2
          rcases List.mem_cons.mp hu with rfl | hu
          · exact ⟨_, r⟩
          · obtain rfl := List.mem_singleton.mp hu
            exact ⟨_, r2⟩
    refine ⟨fun Q h => ofA_level ho hc hd (fun u hu Q' h' => ?_) h, fun Q h => hashBy_level ho hc hd (fun u hu Q' h' => ?_) h⟩
    · obtain ⟨i, r⟩ := all u hu
      rw [(num_quiet r n).1]
      exact wpAny_pure h'
    · obtain ⟨i, r⟩ := all u hu
      rw [(num_quiet r n).2]
      exact wpAny_pure h'
theorem nested_each {h : Heap} : ∀ {l : List Cel} {vs : List Value}, NestedAll h (l.map nkC) vs → ∀ u ∈ vs, ∃ c, NestedIs h (nkC c) u
  | [], _, .nil, u, hu => absurd hu List.not_mem_nil
  | c :: r, _, .cons x t, u, hu => by
    rcases List.mem_cons.mp hu with rfl | hu
    · exact ⟨c, x⟩
    · exact nested_each t u hu
theorem cells_quiet {l : List Cel} {v : Value} (x : NestedIs s.heap (nkL l) v) : (∀ Q : Bool → Shared → Prop, Q false s → wpAny (model P w) A (ofAClassStatement 8 v) Q E s) ∧ ∀ Q : Bool → Shared → Prop, Q true s → wpAny (model P w) A (hashByValue 8 v) Q E s := by
  unfold nkL at x
  cases x with
  | @tup a o vs m _ ho hc hd hk =>
    refine ⟨fun Q h => ofA_level (n := 7) ho hc hd (fun u hu Q' h' => ?_) h, fun Q h => hashBy_level (n := 7) ho hc hd (fun u hu Q' h' => ?_) h⟩
    · obtain ⟨c, r⟩ := nested_each hk u hu
      exact (cell_quiet r 6).1 Q' h'
    · obtain ⟨c, r⟩ := nested_each hk u hu
      exact (cell_quiet r 6).2 Q' h'
abbrev IsN (P : Program) (w : World) (h : Heap) (l : List Cel) (a : Addr) : Prop := (nestedKind P w).is h (nkL l) a
abbrev nhash (w : World) (l : List Cel) : Int := (nkL l).hash w
/-- a search among tuples of cells shows nothing -/
theorem seen_cells {l : List Cel} {b : Addr} {Q : Bool → Shared → Prop} (hk : IsN P w s.heap l b) {ys : List Value} (hy : ∀ y ∈ ys, ∃ l' c, y = Value.ref c ∧ IsN P w s.heap l' c) (h : Q false s) :
    wpAny (model P w) A (searchCouldBeSeen (.ref b) ys) Q E s := by
  unfold searchCouldBeSeen
  refine wpAny_bind ?_
  refine wpAny_forIn_list _ (fun rest r s' => r.1 = none ∧ s' = s ∧ ∀ y ∈ rest, ∃ l' c, y = Value.ref c ∧ IsN P w s.heap l' c) _ ?_ ?_ _ _ ⟨rfl, rfl, hy⟩
  · rintro v rest r s' ⟨hr, rfl, hall⟩
    obtain ⟨l', c, rfl, hc⟩ := hall v List.mem_cons_self
    have rest' : ∀ y ∈ rest, ∃ l' c, y = Value.ref c ∧ IsN P w s'.heap l' c := fun u hu' => hall u (List.mem_cons_of_mem _ hu')
    dsimp only
    by_cases hv : (b == c || (carriedByValue (.ref b) && carriedByValue (.ref c))) = true
    · refine wp_if_pos hv ?_
      exact wpAny_pure ⟨rfl, rfl, rest'⟩
    · refine wp_if_neg hv ?_
      refine wpAny_bind ((nestedKind P w).quiet hk ?_)
      simp only [Bool.not_true, Bool.false_eq_true, if_false]
      refine wpAny_bind ((nestedKind P w).quiet hc ?_)
      simp only [Bool.not_true, Bool.false_eq_true, if_false]
      refine wpAny_bind ((cells_quiet hk.1).1 _ ?_)
      simp only [Bool.false_eq_true, if_false]
      refine wpAny_bind ((cells_quiet hc.1).1 _ ?_)
      simp only [Bool.false_eq_true, if_false]
      exact wpAny_pure ⟨rfl, rfl, rest'⟩
  · rintro ⟨r1, r2⟩ s' ⟨hr, rfl, _⟩
    simp only at hr
    subst hr
    exact wpAny_pure h
/-! ### the set -/
def rowsN (w : World) (L : List (Addr × List Cel)) : List (Int × Value) := L.map fun p => (nhash w p.2, Value.ref p.1)
structure SetN (P : Program) (w : World) (h : Heap) (a : Addr) (L : List (Addr × List Cel)) (es : Array (Int × Value)) (ep : Nat) (t : SetTable) : Prop where
  ob : ∃ o, h.get? a = some o ∧ o.ExactSet ∧ o.data = .set es ep t
  rows : es.toList = rowsN w L
  ris : Ris t.place.toList
  dm : t.dummies = #[]
  sz : t.place.size = L.length
  mok : MaskF t.mask
  tup : ∀ p ∈ L, IsN P w h p.2 p.1
  plain : t.plain = true
  led : w.params.followText "set-order" = true ∨ t.led = true
  room : L.length * 5 < t.mask * 3
variable {a : Addr} {L : List (Addr × List Cel)} {es : Array (Int × Value)} {ep : Nat} {t : SetTable}
theorem rowsN_size {w : World} {L : List (Addr × List Cel)} {es : Array (Int × Value)} (hr : es.toList = rowsN w L) : es.size = L.length := by
  have h := congrArg List.length hr
  unfold rowsN at h
  rwa [Array.length_toList, List.length_map] at h
theorem SetN.fits (R : SetN P w s.heap a L es ep t) : t.fits es.size = true := by
  have h1 := R.sz
  have h2 := rowsN_size R.rows
  have h3 := R.room
  unfold SetTable.fits SetTable.fill
  rw [R.dm, Bool.and_eq_true, beq_iff_eq, decide_eq_true_eq]
  show t.place.size = es.size ∧ t.place.size + 0 ≤ t.mask
  omega
theorem entryN {w : World} {L : List (Addr × List Cel)} {es : Array (Int × Value)} (hr : es.toList = rowsN w L) {i : Nat} {p : Addr × List Cel} (h : L[i]? = some p) : es[i]? = some (nhash w p.2, Value.ref p.1) := by
  rw [← Array.getElem?_toList, hr]
  unfold rowsN
  rw [List.getElem?_map, h]
  rfl
theorem SetN.gw (R : SetN P w s.heap a L es ep t) : ¬ t.gaveWay = true := by
  unfold SetTable.gaveWay
  have : t.mask % 2 = 1 := by rcases R.mok with e | e | e | e <;> rw [e]
  rw [this]
  decide
/-- the search for a tuple that is not in -/
theorem searchN (R : SetN P w s.heap a L es ep t) {x : Addr} {l : List Cel} (hx : IsN P w s.heap l x) (hu : A.units + 8 < cLine) (hnew : l ∉ L.map (·.2)) {K : Nat} (hKf : K < 10 * SetTable.turns t.mask)
    (hK : way t.mask (nhash w l) K ∉ t.place.toList) (hKb : ∀ c, c < K → way t.mask (nhash w l) c ∈ t.place.toList) {Q : SetFound → Shared → Prop} (hout : Q (.free (way t.mask (nhash w l) K) false) s) :
    ∀ (f c : Nat) (stand : Option SetTable.Probe), stand.getD (t.probeStart (nhash w l)) = nth t.mask (runAt t.mask (SetTable.bits (nhash w l) % (t.mask + 1)) (SetTable.bits (nhash w l))) c → c ≤ K → K - c < f →
      wpAny (model P w) A (setSearchFrom a (.ref x) (nhash w l) true f stand) Q E s
  | 0, c, stand, _, _, hf => absurd hf (Nat.not_lt_zero _)
  | f + 1, c, stand, hst, hc, hf => by
    obtain ⟨o, ho, hex, hd⟩ := R.ob
    rw [setSearchFrom_succ]
    refine wpAny_bind (wpAny_setState_of ho hd R.fits ?_)
    dsimp only
    refine wp_if_neg R.gw ?_
    try refine wpAny_bind (wpAny_pure ?_)
    have hnd : (nth t.mask (runAt t.mask (SetTable.bits (nhash w l) % (t.mask + 1)) (SetTable.bits (nhash w l))) c).dummy = none := by
      have key : ∀ (n : Nat) (p : SetTable.Probe), p.dummy = none → (nth t.mask p n).dummy = none := by
        intro n
        induction n with
        | zero => exact fun p h => h
        | succ n ih =>
          intro p h
          refine ih (adv t.mask p) ?_
          unfold adv
          split <;> exact h
      exact key c _ rfl
    have sh : ∀ q, nth t.mask (nth t.mask (runAt t.mask (SetTable.bits (nhash w l) % (t.mask + 1)) (SetTable.bits (nhash w l))) c) q = nth t.mask (runAt t.mask (SetTable.bits (nhash w l) % (t.mask + 1)) (SetTable.bits (nhash w l))) (c + q) := fun q => (nth_add t.mask c _ q).symm
    have e1 : ∀ q, (nth t.mask (nth t.mask (runAt t.mask (SetTable.bits (nhash w l) % (t.mask + 1)) (SetTable.bits (nhash w l))) c) q).j = way t.mask (nhash w l) (c + q) := fun q => congrArg SetTable.Probe.j (sh q)
    have spec := go_spec t R.ris R.dm (fun i => (es[i]?.map (·.1)).getD 0) (nhash w l) (10 * SetTable.turns t.mask) (K - c) _ hnd (by omega)
      (fun q hq => by rw [e1]; exact hKb (c + q) (by omega)) (by rw [e1, show c + (K - c) = K by omega]; exact hK)
    rcases spec with ⟨q, i, hq, hi, _, _, hpr⟩ | ⟨_, hpr⟩
    · have hpr' : t.probe (fun i => (es[i]?.map (·.1)).getD 0) (nhash w l) (stand.getD (t.probeStart (nhash w l))) = some (.candidate (way t.mask (nhash w l) (c + q)) i (nth t.mask (runAt t.mask (SetTable.bits (nhash w l) % (t.mask + 1)) (SetTable.bits (nhash w l))) (c + (q + 1)))) := by
        rw [hst, ← e1, ← sh]
        exact hpr
      rw [hpr']
      dsimp only
      rw [e1] at hi
      have hil : i < L.length := by
        have h1 : i < t.place.toList.length := (List.getElem?_eq_some_iff.mp hi).1
        rwa [Array.length_toList, R.sz] at h1
      have hp : L[i]? = some L[i] := List.getElem?_eq_getElem hil
      generalize L[i] = p at hp
      have hmem : p ∈ L := List.mem_of_getElem? hp
      have hne : ¬ p.2 = l := fun e => hnew (List.mem_map.mpr ⟨p, hmem, e⟩)
      have hne2 : decide (nkL p.2 = nkL l) = false := decide_eq_false fun e => hne (nkL_inj e)
      have rest : wpAny (model P w) A (searchRest a (.ref x) (nhash w l) true f es t (way t.mask (nhash w l) (c + q)) i (nth t.mask (runAt t.mask (SetTable.bits (nhash w l) % (t.mask + 1)) (SetTable.bits (nhash w l))) (c + (q + 1)))) Q E s := by
        unfold searchRest
        rw [entryN R.rows hp]
        dsimp only
        refine wpAny_bind (wpAny_holding ((nestedKind P w).eqBool hu (R.tup p hmem) hx ?_))
        rw [hne2]
        refine wpAny_bind (wpAny_setState_of ho hd R.fits ?_)
        dsimp only
        refine wp_if_neg (by decide) ?_
        try refine wpAny_bind (wpAny_pure ?_)
        rw [sameMem]
        dsimp only
        have hsl : t.slot (way t.mask (nhash w l) (c + q)) = .live i := slot_live R.ris hi
        simp only [if_true, hsl, entryN R.rows hp]
        refine wpAny_bind (wpAny_isSame_ref_self (wpAny_bind (wpAny_pure ?_)))
        simp only [if_true]
        refine wp_if_neg (by decide) ?_
        exact searchN R hx hu hnew hKf hK hKb hout f (c + (q + 1)) _ rfl (by omega) (by omega)
      by_cases hl : t.led = true
      · refine wp_if_neg (by simp [hl]) ?_
        try refine wpAny_bind (wpAny_pure ?_)
        exact rest
      · refine wp_if_pos (by simp [hl]) ?_
        refine wpAny_bind (seen_cells hx (fun y hy => ?_) ?_)
        · obtain ⟨e, he, ee⟩ := List.mem_map.mp hy
          have he1 : e ∈ es ∧ e.1 = nhash w l := by simpa using he
          have he2 : e ∈ es.toList := by simpa using he1.1
          rw [R.rows] at he2
          obtain ⟨p2, hp2, e2⟩ := List.mem_map.mp he2
          refine ⟨p2.2, p2.1, ?_, R.tup p2 hp2⟩
          rw [← ee, ← e2]
        · refine wp_if_neg (by decide) ?_
          try refine wpAny_bind (wpAny_pure ?_)
          exact rest
    · have hpr' : t.probe (fun i => (es[i]?.map (·.1)).getD 0) (nhash w l) (stand.getD (t.probeStart (nhash w l))) = some (.empty (way t.mask (nhash w l) K) none) := by
        have e2 : way t.mask (nhash w l) K = (nth t.mask (nth t.mask (runAt t.mask (SetTable.bits (nhash w l) % (t.mask + 1)) (SetTable.bits (nhash w l))) c) (K - c)).j := by
          rw [e1, show c + (K - c) = K by omega]
        rw [hst, e2]
        exact hpr
      rw [hpr']
      dsimp only
      exact wpAny_pure hout
end
end Sf

/-! set(t) of a tuple of different tuples of cells; sorted of such a set. -/
namespace Sf
open PySem PySem.Spec PyProof.Rows L2
section
variable {P : Program} {w : World} {A : Around} {E : Value → Shared → Prop} {s : Shared}
theorem isN_same {h h' : Heap} {l : List Cel} {a b : Addr} {o : Obj} {es : Array (Int × Value)} {ep : Nat} {t : SetTable} (hb : IsN P w h l b) (ho : h.get? a = some o) (hd : o.data = .set es ep t) (hs : Heap.SameBut a h h') : IsN P w h' l b :=
  ⟨NestedIs.at (fun c oc vs n hc hcd => (hs.2 c fun e => by
    rw [e, ho] at hc
    cases hc
    rw [hd] at hcd
    cases hcd).trans hc) _ _ hb.1, hb.2⟩
theorem isN_keep {h h' : Heap} {l : List Cel} {b : Addr} (x : IsN P w h l b) (hk : ∀ c o, h.get? c = some o → h'.get? c = some o) : IsN P w h' l b := ⟨NestedIs.at (fun c o _ _ hc _ => hk c o hc) _ _ x.1, x.2⟩
theorem orderN (L : List (Addr × List Cel)) (es : Array (Int × Value)) (order : Array Nat) (hr : es.toList = rowsN w L) (hp : order.toList.Perm (List.range L.length)) :
    ∃ L2, (order.filterMap (es[·]?)).toList = rowsN w L2 ∧ L2.Perm L := by
  have key : ∀ l : List Nat, (∀ i ∈ l, i < L.length) → l.filterMap (fun i => es[i]?) = rowsN w (l.filterMap fun i => L[i]?) := by
    intro l
    induction l with
    | nil => exact fun _ => rfl
    | cons i l ih =>
      intro hl
      have hi := hl i List.mem_cons_self
      rw [List.filterMap_cons_some (entryN hr (List.getElem?_eq_getElem hi)), List.filterMap_cons_some (List.getElem?_eq_getElem hi), ih fun j hj => hl j (List.mem_cons_of_mem _ hj)]
      rfl
  refine ⟨order.toList.filterMap fun i => L[i]?, ?_, (hp.filterMap _).trans ?_⟩
  · rw [Array.toList_filterMap]
    exact key _ fun i hi => List.mem_range.mp (hp.mem_iff.mp hi)
  · have key2 : ∀ n, n ≤ L.length → (List.range n).filterMap (fun i => L[i]?) = L.take n := by
      intro n
      induction n with
      | zero => exact fun _ => rfl
      | succ n ih =>
        intro hn
        rw [List.range_succ, List.filterMap_append, ih (Nat.le_of_lt hn), List.take_succ, List.getElem?_eq_getElem hn, List.filterMap_cons_some (List.getElem?_eq_getElem hn)]
        rfl
    rw [key2 L.length (Nat.le_refl _), List.take_length]
variable {a : Addr} {L : List (Addr × List Cel)} {es : Array (Int × Value)} {ep : Nat} {t : SetTable}
theorem relayN {o : Obj} (ho : s.heap.get? a = some o) (hex : o.ExactSet) (hd : o.data = .set es ep t) (hrows : es.toList = rowsN w L) (hsz : t.place.size = L.length) (hdm : t.dummies = #[]) (hfl : L.length ≤ t.mask)
    (tup : ∀ p ∈ L, IsN P w s.heap p.2 p.1) (pl : t.plain = true) (ld : w.params.followText "set-order" = true ∨ t.led = true) {wanted M : Nat} (hw : SetTable.sizeAbove wanted = M + 1) (hM : MaskF M) (hn : L.length * 5 < M * 3) {Q : Unit → Shared → Prop}
    (hQ : ∀ h' L' es' ep' t', Heap.SameBut a s.heap h' → SetN P w h' a L' es' ep' t' → L'.Perm L → Q () { s with heap := h' }) : wpAny (model P w) A (setRelay a wanted) Q E s := by
  have hsl := rowsN_size hrows
  have hfits : t.fits es.size = true := by
    unfold SetTable.fits SetTable.fill
    rw [hdm, Bool.and_eq_true, beq_iff_eq, decide_eq_true_eq]
    show t.place.size = es.size ∧ t.place.size + 0 ≤ t.mask
    omega
  obtain ⟨t', order, e, hp, r1, r2, em, el, ep2, ed⟩ := relaidF t (hs := es.map (·.1)) (wanted := wanted) (by rw [hw]; rfl) hM (by rw [Array.size_map, hsl]; omega)
  rw [Array.size_map, hsl] at hp r2
  obtain ⟨L2, q1, q2⟩ := orderN L es order hrows hp
  have hs2 : (order.filterMap (es[·]?)).size = es.size := by
    rw [rowsN_size q1, q2.length_eq, hsl]
  have hM9 : M + 1 ≤ sizeLine := by
    rw [sizeLine_eq]
    rcases hM with rfl | rfl | rfl | rfl <;> decide
  rw [setRelay_eq]
  refine wpAny_bind (wpAny_setState_of ho hd hfits ?_)
  dsimp only
  refine wp_if_neg (by rw [hw]; omega) ?_
  try refine wpAny_bind (wpAny_pure ?_)
  rw [e]
  dsimp only
  refine wpAny_bind ?_
  refine wp_if_neg (by rw [hs2]; simp) ?_
  try refine wpAny_bind (wpAny_pure ?_)
  refine wpAny_pure ?_
  dsimp only
  refine wpAny_storeSet_of ho hd ?_ (by rw [hs2, hsl]; omega)
  have sb : Heap.SameBut a s.heap (s.heap.update a (Obj.putSet (order.filterMap (es[·]?)) t')) := Heap.SameBut.update ..
  exact hQ _ L2 (order.filterMap (es[·]?)) (ep + 1) t' sb
    ⟨⟨_, store_at ho hd, ⟨hex.1, hex.2.1, hex.2.2⟩, rfl⟩, q1, r1, ed, by rw [r2, q2.length_eq], by rw [em]; exact hM, fun p hpm => isN_same (tup p (q2.mem_iff.mp hpm)) ho hd sb, by rw [ep2]; exact pl, by rw [el]; exact ld, by rw [q2.length_eq, em]; exact hn⟩ q2
/-- a further tuple put in -/
theorem addN (R : SetN P w s.heap a L es ep t) {x : Addr} {l : List Cel} (hx : IsN P w s.heap l x) (hu : A.units + 8 < cLine) (hnew : l ∉ L.map (·.2)) (hfew : L.length < 306) {Q : Bool → Shared → Prop}
    (hQ : ∀ b h' L' es' ep' t', Heap.SameBut a s.heap h' → SetN P w h' a L' es' ep' t' → L'.Perm ((x, l) :: L) → Q b { s with heap := h' }) :
    wpAny (model P w) A (setAddHashed a (.ref x) (nhash w l)) Q E s := by
  obtain ⟨o, ho, hex, hd⟩ := R.ob
  have hsl := rowsN_size R.rows
  have hroom := R.room
  obtain ⟨K, hKf, hK, hKb⟩ := firstF R.mok (pl := t.place.toList) (by rw [Array.length_toList, R.sz]; omega) (nhash w l)
  have hm511 : t.mask ≤ 511 := by rcases R.mok with e | e | e | e <;> omega
  unfold setAddHashed
  refine wpAny_holding ?_
  rw [show (100000 : Nat) = 99999 + 1 from rfl, setAddHashedIn_succ]
  refine wpAny_bind (wpAny_setState_of ho hd R.fits ?_)
  dsimp only
  refine wp_if_neg (by simp [byScan, Value.scannable]) ?_
  try refine wpAny_bind (wpAny_pure ?_)
  refine wpAny_bind ?_
  unfold setSearch
  refine searchN R hx hu hnew hKf hK hKb ?_ 100000 0 none rfl (Nat.zero_le _) (by unfold SetTable.turns at hKf; omega)
  dsimp only
  refine wpAny_bind (wpAny_setState_of ho hd R.fits ?_)
  dsimp only
  obtain ⟨j, hj⟩ : ∃ j, j = way t.mask (nhash w l) K := ⟨_, rfl⟩
  rw [← hj] at hK ⊢
  have hpp := put_place t j
  have hnp : t.place[SetTable.below t.place j]? ≠ some j := fun e => hK (List.mem_of_getElem? (by rw [Array.getElem?_toList]; exact e))
  have hpr : Ris (t.put j).1.place.toList := ris_insert R.ris hnp
  have hpd := put_dm R.dm j
  have hp1 : (t.put j).1.plain = true := R.plain
  have hp2 : (t.put j).1.led = t.led := rfl
  have hp3 : (t.put j).1.mask = t.mask := rfl
  have hp4 : (t.put j).2 = SetTable.below t.place j := rfl
  have hps : (t.put j).1.place.size = L.length + 1 := by
    rw [← Array.length_toList, hpp, (put_perm t.place.toList _ j).length_eq, List.length_cons, Array.length_toList, R.sz]
  generalize hpt : t.put j = pt at hpr hpd hp1 hp2 hp3 hp4 hps ⊢
  obtain ⟨t1, p⟩ := pt
  dsimp only at hpr hpd hp1 hp2 hp3 hp4 hps ⊢
  first
    | (refine wpAny_bind ?_; refine wp_if_pos hp1 ?_; refine (cells_quiet hx.1).2 _ ?_)
    | refine wp_if_pos hp1 (wpAny_bind ((cells_quiet hx.1).2 _ ?_))
  simp only [if_true]
  have hin : (SetTable.insertAt es p (nhash w l, Value.ref x)).toList = rowsN w (L.take p ++ (x, l) :: L.drop p) := by
    rw [SetTable.toList_insertAt, R.rows]
    unfold rowsN
    rw [List.map_append, List.map_cons, List.map_take, List.map_drop]
  have pm := put_perm L p (x, l)
  have hlen : (L.take p ++ (x, l) :: L.drop p).length = L.length + 1 := pm.length_eq
  have hes := rowsN_size hin
  generalize SetTable.insertAt es p (nhash w l, Value.ref x) = es1 at hin hes ⊢
  generalize L.take p ++ (x, l) :: L.drop p = L1 at pm hlen hin hes
  refine wpAny_bind (wpAny_storeSet_of ho hd ?_ (by rw [hes, sizeLine_eq]; omega))
  have sb : Heap.SameBut a s.heap (s.heap.update a (Obj.putSet es1 t1)) := Heap.SameBut.update ..
  have ho1 := store_at (es' := es1) (t' := t1) ho hd
  generalize s.heap.update a (Obj.putSet es1 t1) = h1 at sb ho1 ⊢
  have tup1 : ∀ p ∈ L1, IsN P w h1 p.2 p.1 := fun p hp => by
    rcases List.mem_cons.mp (pm.mem_iff.mp hp) with e | hp
    · rw [e]
      exact isN_same hx ho hd sb
    · exact isN_same (R.tup p hp) ho hd sb
  have ld1 : w.params.followText "set-order" = true ∨ t1.led = true := by
    rw [hp2]
    exact R.led
  have hfill : t1.fill = L.length + 1 := by
    unfold SetTable.fill
    rw [hps, hpd]
    rfl
  by_cases hf : t1.tooFull = true
  · first
      | (refine wpAny_bind ?_; refine wp_if_pos (by simp [hf]) ?_)
      | (refine wp_if_pos (by simp [hf]) ?_; refine wpAny_bind ?_)
    have hfull : (L.length + 1) * 5 ≥ t1.mask * 3 := by
      have h := hf
      unfold SetTable.tooFull at h
      rwa [decide_eq_true_eq, hfill] at h
    rw [hsl]
    have go : ∀ M, SetTable.sizeAbove (SetTable.grown (L.length + 1)) = M + 1 → MaskF M → (L.length + 1) * 5 < M * 3 →
        wpAny (model P w) A (setRelay a (SetTable.grown (L.length + 1))) (fun _ s' => wpAny (model P w) A (pure true) Q E s') E { s with heap := h1 } := fun M h1' h2' h3' =>
      relayN (s := { s with heap := h1 }) ho1 ⟨hex.1, hex.2.1, hex.2.2⟩ rfl hin (by rw [hps, hlen]) hpd (by rw [hlen, hp3]; rcases R.mok with e | e | e | e <;> omega) tup1 hp1 ld1 h1' h2' (by rw [hlen]; exact h3')
        fun h2 L2 es2 ep2 t2 sb2 R2 pm2 => wpAny_pure (hQ true h2 L2 es2 ep2 t2 (sb.trans sb2) R2 (pm2.trans pm))
    rw [hp3] at hfull
    rcases R.mok with e | e | e | e
    · have e2 : L.length = 4 := by rw [e] at hfull hroom; omega
      exact go 31 (by rw [e2, size_20]) (.inr (.inl rfl)) (by omega)
    · have e2 : L.length = 18 := by rw [e] at hfull hroom; omega
      exact go 127 (by rw [e2, size_76]) (.inr (.inr (.inl rfl))) (by omega)
    · have e2 : L.length = 76 := by rw [e] at hfull hroom; omega
      exact go 511 (by rw [e2, size_77]) (.inr (.inr (.inr rfl))) (by omega)
    · exfalso
      rw [e] at hfull
      omega
  · first
      | refine wp_if_neg (by simp [hf]) ?_
      | (refine wpAny_bind ?_; refine wp_if_neg (by simp [hf]) ?_; refine wpAny_pure ?_)
    have h := hf
    unfold SetTable.tooFull at h
    rw [decide_eq_true_eq, hfill] at h
    exact wpAny_pure (hQ true h1 L1 es1 (ep + 1) t1 sb ⟨⟨_, ho1, ⟨hex.1, hex.2.1, hex.2.2⟩, rfl⟩, hin, hpr, hpd, by rw [hps, hlen], by rw [hp3]; exact R.mok, tup1, hp1, ld1, by rw [hlen]; omega⟩ pm)
theorem SetN.keep {h h' : Heap} (R : SetN P w h a L es ep t) (ha : ∀ o, h.get? a = some o → h'.get? a = some o) (ht : ∀ p ∈ L, IsN P w h' p.2 p.1) : SetN P w h' a L es ep t := by
  obtain ⟨o, ho, r⟩ := R.ob
  exact ⟨⟨o, ha o ho, r⟩, R.rows, R.ris, R.dm, R.sz, R.mok, ht, R.plain, R.led, R.room⟩
theorem setN_fresh {h : Heap} {a : Addr} (ho : h.get? a = some { cls := .type "set", dict := none, data := .set #[] 0 (.fresh 0 0 (!w.params.followText "set-order")) }) : SetN P w h a [] #[] 0 (.fresh 0 0 (!w.params.followText "set-order")) where
  ob := ⟨_, ho, ⟨rfl, rfl, rfl⟩, rfl⟩
  rows := rfl
  ris := List.Pairwise.nil
  dm := rfl
  sz := rfl
  mok := .inl rfl
  tup := fun p hp => absurd hp List.not_mem_nil
  plain := rfl
  led := by
    show _ ∨ (!w.params.followText "set-order") = true
    cases w.params.followText "set-order"
    · exact .inr rfl
    · exact .inl rfl
  room := by
    show 0 * 5 < 7 * 3
    decide
/-- set.update's loop over different tuples -/
theorem updateN {I : Addr} {fp wr : List Addr} {G : Array GenState → Array GenState → Prop} {n : Nat} {Pv : Nat → Value → Prop} {St : Nat → Shared → Prop} {R : Result → Shared → Prop}
    (W : WalksS P w A.in1 I fp wr G n Pv St) (S : Addr) (hSf : S ∉ fp) (ks : List (Addr × List Cel)) (hn : n = ks.length) (hnd : (ks.map (·.2)).Nodup) (hfew : ks.length ≤ 306) (hval : ∀ i v, Pv i v → ∃ p, ks[i]? = some p ∧ v = .ref p.1)
    (h0 : Heap) (hk : ∀ p ∈ ks, IsN P w h0 p.2 p.1) (hS0 : h0.get? S = none) (hw0 : ∀ b ∈ wr, h0.get? b = none) (hu : A.in1.units + 8 < cLine) :
    ∀ (k i : Nat) (s : Shared), n - i = k → i ≤ n → St i s → (∀ b o, h0.get? b = some o → s.heap.get? b = some o) → (∃ L es ep t, SetN P w s.heap S L es ep t ∧ L.Perm (ks.take i)) →
      (∀ s' L es ep t, Moved (S :: wr) G s s' → SetN P w s'.heap S L es ep t → L.Perm (ks.take n) → (∀ b o, h0.get? b = some o → s'.heap.get? b = some o) → R (.ok (.ret .none)) s') →
      codeAny (model P w) A (.builtin "set.update.loop" ⟨[.ref S, .ref I], []⟩) R s := by
  have hSw : S ∉ wr := fun h => hSf (W.sub _ h)
  have hsub : ∀ b ∈ wr, b ∈ S :: wr := fun b hb => List.mem_cons_of_mem _ hb
  have keepM : ∀ {s s' : Shared}, Moved wr G s s' → (∀ b o, h0.get? b = some o → s.heap.get? b = some o) → ∀ b o, h0.get? b = some o → s'.heap.get? b = some o := fun hm hkp b o e =>
    hm.heap b o (fun hb => by rw [hw0 b hb] at e; cases e) (hkp b o e)
  intro k
  induction k with
  | zero =>
    intro i s hk' hi hst hkp ⟨L, es, ep, t, hS, g⟩ hR
    obtain rfl : i = n := by omega
    refine codeAny_builtin F.entry_set_update_loop ?_
    rw [Around.under_plainId F.plain_set_update_loop _]
    show wpAny _ A.in1 (pyNext (.ref I) >>= _) _ _ s
    refine wpAny_bind (W.done s _ _ hst fun s' hm => ?_)
    show wpAny _ A.in1 (ret Value.none) _ _ s'
    have hkp' := keepM hm hkp
    exact wpAny_pure (hR s' L es ep t (hm.mono hsub) (hS.keep (fun o e => hm.heap S o hSw e) fun p hp => isN_keep (hk p (List.mem_of_mem_take (g.mem_iff.mp hp))) hkp') g hkp')
  | succ k ih =>
    intro i s hk' hi hst hkp ⟨L, es, ep, t, hS, g⟩ hR
    have hlt : i < n := by omega
    refine codeAny_builtin F.entry_set_update_loop ?_
    rw [Around.under_plainId F.plain_set_update_loop _]
    show wpAny _ A.in1 (pyNext (.ref I) >>= _) _ _ s
    refine wpAny_bind (W.item i s _ _ hlt hst fun v s' hP hst' hm => ?_)
    obtain ⟨p, hp, rfl⟩ := hval i v hP
    have hkp' := keepM hm hkp
    have hS' : SetN P w s'.heap S L es ep t := hS.keep (fun o e => hm.heap S o hSw e) fun q hq => isN_keep (hk q (List.mem_of_mem_take (g.mem_iff.mp hq))) hkp'
    have hx : IsN P w s'.heap p.2 p.1 := isN_keep (hk p (List.mem_of_getElem? hp)) hkp'
    have htk : ks.take (i + 1) = ks.take i ++ [p] := take_next hp
    have hnew : p.2 ∉ L.map (·.2) := fun hm' => by
      have h1 : p.2 ∈ (ks.take i).map (·.2) := (g.map (·.2)).mem_iff.mp hm'
      have h2 : ((ks.take (i + 1)).map (·.2)).Nodup := by
        rw [List.map_take]
        exact hnd.sublist (List.take_sublist _ _)
      rw [htk, List.map_append] at h2
      exact (List.nodup_append.mp h2).2.2 _ h1 _ (List.mem_singleton.mpr rfl) rfl
    have hL : L.length = i := by
      rw [g.length_eq, List.length_take]
      omega
    show wpAny _ A.in1 (holding [Value.ref p.1] (setAdd S (.ref p.1)) >>= _) _ _ s'
    refine wpAny_bind (wpAny_holding ?_)
    unfold setAdd
    refine wpAny_holding ?_
    refine wpAny_bind ((nestedKind P w).pyHash hu hx ?_)
    refine addN (s := { s' with toks := s'.toks + (nestedKind P w).draws (nkL p.2) }) hS' hx hu hnew (by omega) fun b h' L' es' ep' t' hsb hS2 pm => ?_
    have g' : L'.Perm (ks.take (i + 1)) := by
      rw [htk]
      exact pm.trans ((g.cons p).trans (List.perm_append_singleton p _).symm)
    have hkp2 : ∀ b o, h0.get? b = some o → h'.get? b = some o := fun b o e => (hsb.2 b (fun z => by rw [z, hS0] at e; cases e)).trans (hkp' b o e)
    refine wpAny_pure ⟨plainId_quiet F.plain_set_update_loop _, ih (i + 1) _ (by omega) hlt (W.frame _ s' _ _ hst' (Nat.le_add_right _ _) fun b hb o e => ?_) hkp2 ⟨L', es', ep', t', hS2, g'⟩ fun s'' L2 es2 ep2 t2 hm'' hS'' g'' hkp'' => ?_⟩
    · rw [hsb.2 b (fun h : b = S => hSf (by rw [← h]; exact hb))]
      exact e
    · refine hR s'' L2 es2 ep2 t2 (Moved.trans W.gtrans ((hm.mono hsub).then_heap (Nat.le_add_right _ _) fun b o hb e => ?_) hm'') hS'' g'' hkp''
      rw [hsb.2 b (fun h : b = S => hb (by rw [h]; exact List.mem_cons_self))]
      exact e
end
end Sf

/-! set(t), sorted(set(t)) as rules of the layer. -/
namespace Sf
open PySem PySem.Spec PyProof.Rows L2
open Calls
section
variable {P : Program} {w : World} {A : Around} {E : Value → Shared → Prop} {s : Shared}
set_option maxRecDepth 100000 in
set_option maxHeartbeats 8000000 in
theorem call_setN {l : Addr} {items : Array Value} (ks : List (Addr × List Cel)) {Q : Value → Shared → Prop} (hh : A.handled = none) (hl : s.heap.IsTuple l items) (hit : items.toList = ks.map fun p => Value.ref p.1)
    (hk : ∀ p ∈ ks, IsN P w s.heap p.2 p.1) (hnd : (ks.map (·.2)).Nodup) (hfew : ks.length ≤ 306) (hu : A.units + 12 < cLine)
    (h : ∀ (h' : Heap) (tk : Nat) L es ep t, SetN P w h' s.heap.objs.size L es ep t → L.Perm ks → (∀ b o, s.heap.get? b = some o → h'.get? b = some o) → Q (.ref s.heap.objs.size) { s with heap := h', toks := tk }) :
    wpAny (model P w) A (call (.type "set") [.ref l]) Q E s := by
  have hisz : items.size = ks.length := by
    have q := congrArg List.length hit
    rwa [Array.length_toList, List.length_map] at q
  obtain ⟨c, tl, hmro⟩ := F.called_set.mro
  have hmade := F.called_set.made
  have hsub := F.called_set.sub
  refine wpAny_call (codeAny_of_tree ?_)
  show wpAny _ _ (callAny (.type "set") _) _ _ _
  refine wpAny_pure ⟨Code.quiet_builtin _ (by decide +kernel), codeAny_builtin F.entry_type_call ?_⟩
  rw [Around.under_plain (weight_type_call_type "set" [.ref l] []) rfl]
  have h1 := F.called_set.notType
  have h2 := F.called_set.canCreate
  have hct := F.typeCall_set_1 (.ref l)
  repeat (any_goals (first | assumption | wp_step))
  refine codeAny_mono (code_set_led1 (.ref l) (E := E) (Q₁ := fun obj s₁ => obj = .ref s.heap.objs.size ∧ s₁ = { s with heap := s.heap.push { cls := .type "set", dict := none, data := .set #[] 0 (.fresh 0 0 (!w.params.followText "set-order")) } }) ⟨rfl, rfl⟩) fun r s₁ hr => ?_
  cases r with
  | error e => exact hr
  | ok fl =>
    cases fl with
    | ret obj =>
      obtain ⟨rfl, rfl⟩ := hr
      have hS : (s.heap.push { cls := .type "set", dict := none, data := .set #[] 0 (.fresh 0 0 (!w.params.followText "set-order")) }).get? s.heap.objs.size = some { cls := .type "set", dict := none, data := .set #[] 0 (.fresh 0 0 (!w.params.followText "set-order")) } := Heap.get?_push_size _ rfl
      have hT : Shared.TypeIs { s with heap := s.heap.push { cls := .type "set", dict := none, data := .set #[] 0 (.fresh 0 0 (!w.params.followText "set-order")) } } (.ref s.heap.objs.size) "set" := ⟨_, hS, rfl⟩
      have hli := F.called_set.init.lookup
      have hbi := F.called_set.init.bind (.ref s.heap.objs.size)
      repeat (any_goals (first | assumption | wp_step))
      refine codeAny_mono (codeAny_call_builtin (R := wants (fun r s₂ => r = .none ∧ ∃ h' tk L es ep t, s₂ = { s with heap := h', toks := tk } ∧ SetN P w h' s.heap.objs.size L es ep t ∧ L.Perm ks ∧
          (∀ b o, s.heap.get? b = some o → h'.get? b = some o)) E) F.called_set.init.plain F.entry_set_init (check_set_init_1 hT ?_)) fun r₂ s₂ hr₂ => ?_
      · obtain ⟨⟨ocls, odict, odata, oslots⟩, hol, hcl, nl, hdl⟩ := hl
        simp only at hcl hdl
        subst hcl
        subst hdl
        have hol' : (s.heap.push { cls := .type "set", dict := none, data := .set #[] 0 (.fresh 0 0 (!w.params.followText "set-order")) }).get? l = some { cls := .type "tuple", dict := odict, data := .seq items nl, slots := oslots } := Heap.get?_push_of_some _ hol
        have hsls := F.sub_tuple_set
        have hslf := F.sub_tuple_frozenset
        have hne : (Value.type "tuple" == Value.type "dict") = false := by decide
        have hl1 : (s.heap.push { cls := .type "set", dict := none, data := .set #[] 0 (.fresh 0 0 (!w.params.followText "set-order")) }).IsTuple l items := ⟨_, hol', rfl, nl, rfl⟩
        unfold Builtin.«set.__init__» noKeywords Builtin.Frozenset.updateFrom
        generalize hPI : pyIter = PI
        wp_walk
        subst hPI
        refine wpAny_pyIter_tuple hl1 ?_
        refine wpAny_bind (wpAny_runValue ?_)
        have hlS : l < s.heap.objs.size := Heap.lt_size hol
        have hh3 : A.in1.in1.in1.handled = none := by simp [hh]
        have hneI : l ≠ (s.heap.push { cls := .type "set", dict := none, data := .set #[] 0 (.fresh 0 0 (!w.params.followText "set-order")) }).objs.size := by
          rw [Heap.size_push]
          exact Nat.ne_of_lt (Nat.lt_succ_of_lt hlS)
        have hSf : s.heap.objs.size ∉ [(s.heap.push { cls := .type "set", dict := none, data := .set #[] 0 (.fresh 0 0 (!w.params.followText "set-order")) }).objs.size, l] := by
          rw [Heap.size_push]
          simp only [List.mem_cons, List.mem_singleton, List.not_mem_nil, or_false, not_or]
          exact ⟨Nat.ne_of_lt (Nat.lt_succ_self _), Nat.ne_of_gt hlS⟩
        have hval : ∀ (i : Nat) (v : Value), items[i]? = some v → ∃ p, ks[i]? = some p ∧ v = .ref p.1 := fun i v hv => by
          have q : items.toList[i]? = some v := by
            rw [Array.getElem?_toList]
            exact hv
          rw [hit, List.getElem?_map] at q
          obtain ⟨p, hp, e⟩ := Option.map_eq_some_iff.mp q
          exact ⟨p, hp, e.symm⟩
        have none_of : ∀ b, s.heap.objs.size ≤ b → s.heap.get? b = none := fun b hb => by
          cases q : s.heap.get? b with
          | none => rfl
          | some o => exact absurd (Nat.lt_of_lt_of_le (Heap.lt_size q) hb) (Nat.lt_irrefl _)
        refine updateN ((Walks.tuple hh3 _ l hneI items).toS) s.heap.objs.size hSf ks hisz hnd hfew hval s.heap hk (none_of _ (Nat.le_refl _)) (fun b hb => none_of b (by
            rw [List.mem_singleton.mp hb, Heap.size_push]
            exact Nat.le_succ _)) (by simp only [Around.in1_units]; omega) (items.size - 0) 0 _ (by omega) (Nat.zero_le _)
          ⟨⟨_, Heap.get?_push_size _ rfl, rfl, rfl⟩, (hl1.push _)⟩ (fun b o e => Heap.get?_push_of_some _ (Heap.get?_push_of_some _ e)) ?hS0 ?hR
        case hS0 => exact ⟨[], #[], 0, _, setN_fresh (Heap.get?_push_of_some _ hS), .refl _⟩
        case hR =>
          intro s' L es ep t hm hS' g' hkp
          obtain ⟨h', g2, d', tk', os'⟩ := s'
          have eg : g2 = s.gens := hm.gens
          have ed : d' = s.drawn := hm.drawn
          have eo : os' = s.os := hm.os
          subst eg
          subst ed
          subst eo
          show wpAny _ _ _ _ _ _
          refine wpAny_pure ?_
          show wpAny _ _ (ret Value.none) _ _ _
          rw [hisz, List.take_length] at g'
          exact wpAny_pure ⟨rfl, h', tk', L, es, ep, t, rfl, hS', g', hkp⟩
      · cases r₂ with
        | error e => exact hr₂
        | ok fl₂ =>
          cases fl₂ with
          | ret r =>
            obtain ⟨rfl, h', tk, L, es, ep, t, rfl, hS', g', hk'⟩ := hr₂
            repeat (any_goals (first | assumption | wp_step))
            exact h _ _ _ _ _ _ hS' g' hk'
          | _ => exact hr₂.elim
    | _ => exact hr.elim
end
end Sf

/-! set(t), sorted(set(t)) as rules of the layer. -/
namespace Sf
open PySem PySem.Spec PyProof.Rows L2
/-! ### as what stands at an address -/
structure SetN0 (w : World) (h : Heap) (a : Addr) (L : List (Addr × List Cel)) : Prop where
  ex : ∃ (es : Array (Int × Value)) (ep : Nat) (t : SetTable), (∃ o, h.get? a = some o ∧ o.ExactSet ∧ o.data = .set es ep t) ∧ es.toList = rowsN w L ∧ Ris t.place.toList ∧ t.fits es.size = true ∧ (w.params.followText "set-order" = true ∨ t.led = true) ∧ L.length ≤ 600
def SetNO (w : World) (a : Addr) (L : List (Addr × List Cel)) : HO := .ext fun h => SetN0 w h a L
theorem setNO_new {P : Program} {w : World} {H : Hp} {h : Heap} {a : Addr} {L : List (Addr × List Cel)} {es : Array (Int × Value)} {ep : Nat} {t : SetTable} (s : Shared) (e : s.heap = h) (R : SetN P w h a L es ep t) : ObjOk P w H h a (SetNO w a L) := by
  obtain ⟨o, ho, r⟩ := R.ob
  subst e
  have hm : L.length ≤ 600 := by
    have := R.room
    rcases R.mok with e | e | e | e <;> omega
  exact ⟨⟨es, ep, t, ⟨o, ho, r⟩, R.rows, R.ris, R.fits, R.led, hm⟩, ⟨o, ho⟩, fun h1 h2 ⟨es, ep, t, ⟨o, ho, r⟩, q⟩ k => ⟨es, ep, t, ⟨o, k o ho, r⟩, q⟩⟩
/-- tuples of cells -/
def FillV (H : Hp) (v : V) (l : List Cel) : Prop := ∃ p, v = .ref p ∧ CellsT H p l
theorem FillV.up {H H' : Hp} (t : Tups H H') {v : V} {l : List Cel} (h : FillV H v l) : FillV H' v l := let ⟨p, e, q⟩ := h; ⟨p, e, q.up t⟩
abbrev FillVs (H : Hp) : List V → List (List Cel) → Prop := Paired (FillV H)
theorem FillVs.up {H H' : Hp} (t : Tups H H') {vs : List V} {ls : List (List Cel)} (h : FillVs H vs ls) : FillVs H' vs ls := Paired.mapP h fun _ _ q => q.up t
def lD (l : List Cel) : PyData := .tuple (l.map cD)
theorem CellVs.dp {K : PySem.W.Frag} {H : Hp} : ∀ {vs : List V} {cs : List Cel}, CellVs H vs cs → DpAll K H vs (cs.map cD)
  | _, _, .nil => .nil
  | _, _, .cons q t => .cons (CellV.dp q) (CellVs.dp t)
theorem FillV.dp {K : PySem.W.Frag} {H : Hp} {v : V} {l : List Cel} (h : FillV H v l) : Dp K H v (lD l) := by
  obtain ⟨p, rfl, vs, e, q⟩ := h
  exact .tup (SqT.of e) (CellVs.dp q)
theorem fill_keys {H : Hp} : ∀ {vs : List V} {ls : List (List Cel)}, FillVs H vs ls → ∃ ks : List (Addr × List Cel), vs = ks.map (fun p => V.ref p.1) ∧ ls = ks.map (·.2) ∧ ∀ p ∈ ks, CellsT H p.1 p.2
  | _, _, .nil => ⟨[], rfl, rfl, fun p hp => absurd hp List.not_mem_nil⟩
  | _, _, .cons (b := l) ⟨p, e, q⟩ t => by
    obtain ⟨ks, e1, e2, h⟩ := fill_keys t
    refine ⟨(p, l) :: ks, by rw [e, e1]; rfl, by rw [e2]; rfl, fun z hz => ?_⟩
    rcases List.mem_cons.mp hz with rfl | hz
    · exact q
    · exact h z hz
theorem vals_refsN : ∀ {ks : List (Addr × List Cel)} {us : List Value}, Vals (ks.map fun p => V.ref p.1) us → us = ks.map fun p => Value.ref p.1
  | [], _, .nil => rfl
  | _ :: _, _, .cons r t => by
    rw [vals_refsN t, List.map_cons]
    exact congrArg (· :: _) r
section
variable {X : Cx}
/-- set(t), t a tuple of different tuples of cells -/
def rSetOfN (K : PySem.W.Frag) (w : World) : List V → Hp → VK → Prop := fun xs H Q => ∃ (l : Addr) (vs : List V) (ls : List (List Cel)), xs = [V.ref l] ∧ SqT K H l vs ∧ FillVs H vs ls ∧ ls.Nodup ∧ ls.length ≤ 306 ∧
  ∀ a (L : List (Addr × List Cel)), H a = none → (∀ p ∈ L, CellsT H p.1 p.2) → (L.map (·.2)).Perm ls → Q (.ref a) (upd H a (SetNO w a L))
theorem cr_setN (hc : X.calm = true) (hu : X.A.units + 64 < cLine) : CallR X (.type "set") (rSetOfN X.K X.w) := by
  intro pins s σ H xs us Q I r h
  obtain ⟨l, vs, ls, rfl, ht, hf, hnd, hlen, q⟩ := h
  obtain ⟨u, rfl, ru⟩ := vals1 r
  obtain rfl : u = .ref l := ru
  obtain ⟨its, rv, p, hz⟩ := I.tuple ht
  obtain ⟨ks, e1, e2, hk⟩ := fill_keys hf
  have hit : its.toArray.toList = ks.map fun p => Value.ref p.1 := by
    rw [e1] at rv
    exact vals_refsN rv
  refine call_setN ks (I.ok.hd hc) p hit (fun p hp => cellsT_key I.hok (hk p hp)) (by rw [← e2]; exact hnd) (by rw [← List.length_map (as := ks) (f := (·.2)), ← e2]; exact hlen) (by omega) fun h' tk L es ep t R pm kp => ?_
  have hn := I.hok.fresh (Nat.le_refl s.heap.objs.size)
  refine ⟨.ref s.heap.objs.size, _, I.laid (t' := tk) kp (Nat.le_refl _) (setNO_new { s with heap := h' } rfl R), rfl, q _ L hn (fun p hp => hk p (pm.mem_iff.mp hp)) ?_⟩
  rw [e2]
  exact pm.map _
theorem lD_inj {a b : List Cel} (h : PyData.eqv (lD a) (lD b) = true) : a = b := by
  have cd : ∀ c d : Cel, PyData.eqv (cD c) (cD d) = true → c = d := fun c d h => by
    have h2 : (decide (c.1 = d.1) && (decide (c.2 = d.2) && true)) = true := h
    rw [Bool.and_true, Bool.and_eq_true, decide_eq_true_iff, decide_eq_true_iff] at h2
    exact Prod.ext h2.1 h2.2
  unfold lD at h
  have h2 : PyData.eqvAll (a.map cD) (b.map cD) = true := h
  clear h
  induction a generalizing b with
  | nil =>
    cases b with
    | nil => rfl
    | cons c r => exact absurd h2 (by simp [PyData.eqvAll])
  | cons x t ih =>
    cases b with
    | nil => exact absurd h2 (by simp [PyData.eqvAll])
    | cons c r =>
      rw [List.map_cons, List.map_cons, PyData.eqvAll, Bool.and_eq_true] at h2
      rw [cd x c h2.1, ih h2.2]
end
end Sf

/-! sorted(set) of tuples of cells. -/
namespace Sf
open PySem PySem.Spec PyProof.Rows L2
theorem cs_alike : ∀ a b : List Cel, PySem.W.alikeAll (a.map cD) (b.map cD) = true
  | [], b => by cases b <;> rfl
  | _ :: _, [] => rfl
  | x :: r, y :: t => by
    rw [List.map_cons, List.map_cons, PySem.W.alikeAll, cD_alike, cs_alike r t]
    rfl
theorem lD_alike (a b : List Cel) : PySem.W.alike (lD a) (lD b) = true := cs_alike a b
theorem cs_flat : ∀ a : List Cel, flatTs (a.map cD) = true
  | [] => rfl
  | x :: r => by
    rw [List.map_cons, flatTs, cD_flat, cs_flat r]
    rfl
theorem lD_flat (a : List Cel) : flatT (lD a) = true := cs_flat a
theorem cs_depth : ∀ a : List Cel, PyData.depthAll (a.map cD) ≤ 1
  | [] => Nat.zero_le _
  | x :: r => by
    have h := cs_depth r
    show max (cD x).depth (PyData.depthAll (r.map cD)) ≤ 1
    have h1 : (cD x).depth = 1 := rfl
    omega
theorem lD_depth (a : List Cel) : (lD a).depth ≤ 2 := by
  have h := cs_depth a
  have e : (lD a).depth = PyData.depthAll (a.map cD) + 1 := rfl
  omega
theorem lD_sortable {ls : List (List Cel)} (h : ∀ l ∈ ls, l ≠ []) : PySem.W.Sortable (ls.map lD) := .inl fun d hd => by
  obtain ⟨l, hl, rfl⟩ := List.mem_map.mp hd
  cases l with
  | nil => exact absurd rfl (h [] hl)
  | cons x r => exact ⟨_, _, rfl⟩
section
variable {X : Cx}
def rSortedN (w : World) : List V → Hp → VK → Prop := fun vs H Q => ∃ (a : Addr) (L : List (Addr × List Cel)), vs = [V.ref a] ∧ H a = some (SetNO w a L) ∧ (∀ p ∈ L, CellsT H p.1 p.2 ∧ p.2 ≠ []) ∧
  ∀ (bs : List (List Cel)) (ys : List V) (p : Addr), bs.Perm (L.map (·.2)) → FillVs H ys (bs.mergeSort (PySem.W.dataLe false lD)) → H p = none → Q (.ref p) (upd H p (.lst ys))
theorem cr_sortedN (hc : X.calm = true) (hu : X.A.units + 64 < cLine) : CallR X (.builtin "sorted") (rSortedN X.w) := by
  intro pins s σ H vs us Q I r h
  obtain ⟨a, L, rfl, ha, hk, q⟩ := h
  obtain ⟨⟨es, ep, t, hob, hrows, hris, hfits, hled, hfew⟩, _, _⟩ := I.hok _ _ ha
  have hsz := rowsN_size hrows
  obtain ⟨u, rfl, ru⟩ := vals1 r
  obtain rfl : u = .ref a := ru
  have hob2 : SetAt s.heap a es ep t := let ⟨o, ho, hx, hd⟩ := hob; ⟨o, ho, hx.1, hd⟩
  have hes : es.toList.map (·.2) = L.map fun q => Value.ref q.1 := by
    rw [hrows]
    unfold rowsN
    rw [List.map_map]
    rfl
  refine sorted_by (R := FillV) (enc := lD) (bs := L.map (·.2)) hu (collect_set (A := X.A.in1) (I.ok.hd hc) hob2 hfits (by unfold scanBound; omega) hris hled fun s1 out k hz g o pm => ?_)
    (fun H' x b tp _ p => (p.up tp).dp) (fun b _ => lD_flat b) (fun d hd d' hd' => ?_) (lD_sortable fun l hl => ?_) (fun b _ => Nat.le_trans (lD_depth b) (by decide)) (by rw [List.length_map, sizeLine_eq]; omega) q
  · rw [hes] at pm
    have J : Inv X pins σ H { s with heap := s1.heap, gens := s1.gens, drawn := s1.drawn, toks := s1.toks } :=
      I.call (ch := []) (Un.kept k) (I.hok.kept k) (by rw [g]; exact I.bare) (fun _ z => nomatch z)
    have e : s1 = { s with heap := s1.heap, gens := s1.gens, drawn := s1.drawn, toks := s1.toks } := by
      cases s1
      cases s
      cases o
      rfl
    rw [e]
    refine ⟨J, ?_⟩
    -- the values are the tuples' places in some order
    have ord : ∀ vs : List Value, (∀ v ∈ vs, ∃ q ∈ L, v = Value.ref q.1) → ∃ L1 : List (Addr × List Cel), vs = L1.map (fun q => Value.ref q.1) ∧ ∀ q ∈ L1, q ∈ L := by
      intro vs
      induction vs with
      | nil => exact fun _ => ⟨[], rfl, fun q hq => absurd hq List.not_mem_nil⟩
      | cons v vs ih =>
        intro hv
        obtain ⟨q, hq, e⟩ := hv v List.mem_cons_self
        obtain ⟨L1, e1, hs⟩ := ih fun u hu => hv u (List.mem_cons_of_mem _ hu)
        refine ⟨q :: L1, by rw [List.map_cons, e, e1], fun r hr => ?_⟩
        rcases List.mem_cons.mp hr with rfl | z
        · exact hq
        · exact hs r z
    obtain ⟨L1, e1, hs1⟩ := ord out fun v hv => by
      obtain ⟨q, hq, e⟩ := List.mem_map.mp (pm.mem_iff.mp hv)
      exact ⟨q, hq, e.symm⟩
    -- what stands at an address is one
    have one : ∀ q ∈ L, ∀ r ∈ L, q.1 = r.1 → q.2 = r.2 := fun q hq r hr e => by
      have a1 := cellsT_nested I.hok (hk q hq).1
      have a2 := cellsT_nested I.hok (hk r hr).1
      rw [e] at a1
      exact nkL_inj (NestedIs.inj _ _ _ a1 a2)
    let g : Value → List Cel := fun v => match v with
      | .ref p => ((L.find? fun q => decide (q.1 = p)).map (·.2)).getD []
      | _ => []
    have hg : ∀ q ∈ L, g (.ref q.1) = q.2 := fun q hq => by
      show ((L.find? fun r => decide (r.1 = q.1)).map (·.2)).getD [] = q.2
      cases e : L.find? fun r => decide (r.1 = q.1) with
      | none => exact absurd (List.find?_eq_none.mp e q hq) (by simp)
      | some r =>
        have e2 : r.1 = q.1 := of_decide_eq_true (List.find?_some (p := fun r : Addr × List Cel => decide (r.1 = q.1)) e)
        exact one r (List.mem_of_find?_eq_some e) q hq e2
    have gl : ∀ M : List (Addr × List Cel), (∀ q ∈ M, q ∈ L) → (M.map fun q => Value.ref q.1).map g = M.map (·.2) := fun M hM => by
      rw [List.map_map]
      exact List.map_congr_left fun q hq => hg q (hM q hq)
    have p2 : (L1.map (·.2)).Perm (L.map (·.2)) := by
      rw [e1] at pm
      have := pm.map g
      rwa [gl L1 hs1, gl L fun _ h => h] at this
    refine ⟨L1.map (fun q => V.ref q.1), L1.map (·.2), ?_, p2, ?_⟩
    · rw [e1]
      clear e1 hs1 p2 pm
      induction L1 with
      | nil => exact .nil
      | cons x r ih => exact .cons rfl ih
    · clear e1 p2 pm
      induction L1 with
      | nil => exact .nil
      | cons x r ih => exact .cons ⟨x.1, rfl, (hk x (hs1 x List.mem_cons_self)).1⟩ (ih fun q hq => hs1 q (List.mem_cons_of_mem _ hq))
  · obtain ⟨l, _, rfl⟩ := List.mem_map.mp hd
    obtain ⟨l', _, rfl⟩ := List.mem_map.mp hd'
    exact lD_alike l l'
  · obtain ⟨p, hp, rfl⟩ := List.mem_map.mp hl
    exact (hk p hp).2
end
end Sf

/-! The text by places, the built-in names, a def as its callers see it. -/
namespace Sf
open PySem PySem.Spec PyProof.Rows L2
def top (i : Nat) : Stmt := PySem.Challenge.pw_shovefloors_k44_whole_fillings_moved_and.main.body.getD i (.Pass ⟨0, 0, 0, 0⟩)
/-- names that the module leaves to the built-in ones -/
structure Bi (mg : Str → Option Value) : Prop where
  len : mg "len" = none
  isi : mg "isinstance" = none
  int : mg "int" = none
  bool : mg "bool" = none
  tuple : mg "tuple" = none
  list : mg "list" = none
  set : mg "set" = none
  all : mg "all" = none
  enum : mg "enumerate" = none
  min : mg "min" = none
  max : mg "max" = none
  sorted : mg "sorted" = none
  range : mg "range" = none
  sum : mg "sum" = none
  divmod : mg "divmod" = none
  abs : mg "abs" = none
/-- the module's numbers -/
structure Co (mg : Str → Option Value) : Prop where
  cells : ∃ t, mg "MOST_CELLS" = some (.int 24 t)
  place : ∃ t, mg "MOST_PLACE" = some (.int 1000 t)
  rolled : ∃ t, mg "MOST_ROLLED" = some (.int 36 t)
/-- a def as its callers see it -/
structure Cal (P : Program) (w : World) (K : PySem.W.Frag) (mg : Str → Option Value) (base : Heap) (k : Nat) (x : Str) (ps : List Str) (sp : Sp) : Prop where
  ex : ∃ f fd, FnOk P w K mg base CX0 k f fd ps sp ∧ Binds K fd ps [] ∧ mg x = some (.ref f) ∧ PySem.W.keepIn K (.ref f) = true
theorem Cal.mono {P : Program} {w : World} {K : PySem.W.Frag} {mg : Str → Option Value} {base : Heap} {j k : Nat} {x : Str} {ps : List Str} {sp : Sp} (C : Cal P w K mg base j x ps sp) (h : j ≤ k) : Cal P w K mg base k x ps sp :=
  let ⟨f, fd, F, r⟩ := C.ex; ⟨f, fd, F.mono h, r⟩
section
variable {X : Cx} {k : Nat} {x : Str} {ps : List Str} {sp : Sp} {e : Expr} {es : List Expr} {t : TA} {p pos : Pos}
theorem pe_callC (C : Cal X.prog X.w X.K X.mg X.base k x ps sp) (hr : Room k X.A) (hg : Gl X x) (ha : PA X (e :: es) t) (hdb : (x == ("__debug__" : Str)) = false := by decide)
    (he : starEach (e :: es) X.env = (false, eval e X.env) :: starEach es X.env := by rfl) (hpl : (backTo pos (starEach es X.env)).any (·.1) = false := by rfl) : PE X (.Call (.Name x p) (e :: es) [] pos) (tCall sp [] E0 t) := by
  obtain ⟨f, fd, F, b, m, kp⟩ := C.ex
  exact pe_call F hr hg m kp b .nil pass0 ha hdb he hpl
end
/-- a def of the module, by its body -/
structure Def (K : PySem.W.Frag) (mg : Str → Option Value) (x : Str) (st : Stmt) (ps : List Str) : Prop where
  ex : ∃ f fd, Fun K x x st f fd ∧ Binds K fd ps [] ∧ mg x = some (.ref f)
theorem Def.cal {P : Program} {w : World} {K : PySem.W.Frag} {mg : Str → Option Value} {base : Heap} {k : Nat} {x : Str} {st : Stmt} {N ps : List Str} {sp : Sp} (D : Def K mg x st ps) (S : FnScope N ps (defScope st)) (len : ∀ vs H Q E, sp vs H Q E → vs.length = ps.length)
    (hbody : ∀ (f : Addr) (cdv : Value) (A : Around) (outer : List Env) (s : Shared) (H : Hp) (vs : List V) (Q : VK) (E : XK), Room k (A.deeper (envOfC x (defScope st) s.heap.objs.size f cdv)) → sp vs H Q E →
      ∃ t, PSs (cxOf CX0 P w K mg base N x (defScope st) f cdv A outer s H E).nox (defBody st) t ∧ t { nx := fun _ H' => Q .non H', rt := Q } (start N vs) H) : Cal P w K mg base (k + 1) x ps sp := by
  obtain ⟨f, fd, F, b, m⟩ := D.ex
  exact ⟨f, fd, F.ok S len (hbody f), b, m, F.kp⟩
theorem kit_int_int {K : PySem.W.Frag} : PySem.W.kitOne K (.type "int") (.type "int") = some true := kit_ty (by decide +kernel)
theorem kit_int_bool {K : PySem.W.Frag} : PySem.W.kitOne K (.type "int") (.type "bool") = some false := kit_ty (by decide +kernel)
theorem kit_tup_tup {K : PySem.W.Frag} : PySem.W.kitOne K (.type "tuple") (.type "tuple") = some true := kit_ty (by decide +kernel)
theorem bt_int : bootBuiltins "int" = some (.type "int") := by decide +kernel
theorem bt_bool : bootBuiltins "bool" = some (.type "bool") := by decide +kernel
theorem bt_tuple : bootBuiltins "tuple" = some (.type "tuple") := by decide +kernel
theorem bt_list : bootBuiltins "list" = some (.type "list") := by decide +kernel
theorem bt_set : bootBuiltins "set" = some (.type "set") := by decide +kernel
theorem bt_isi : bootBuiltins "isinstance" = some (.builtin "isinstance") := by decide +kernel
theorem bt_all : bootBuiltins "all" = some (.builtin "all") := by decide +kernel
theorem bt_len : bootBuiltins "len" = some (.builtin "len") := by decide +kernel
theorem bt_min : bootBuiltins "min" = some (.builtin "min") := by decide +kernel
theorem bt_max : bootBuiltins "max" = some (.builtin "max") := by decide +kernel
theorem bt_sorted : bootBuiltins "sorted" = some (.builtin "sorted") := by decide +kernel
theorem bt_sum : bootBuiltins "sum" = some (.builtin "sum") := by decide +kernel
theorem bt_divmod : bootBuiltins "divmod" = some (.builtin "divmod") := by decide +kernel
theorem bt_abs : bootBuiltins "abs" = some (.builtin "abs") := by decide +kernel
/-! ### is_integer, is_between, is_pair, is_near: of ints and pairs of ints -/
section
variable {P : Program} {w : World} {K : PySem.W.Frag} {mg : Str → Option Value} {base : Heap}
theorem sc_is_integer : FnScope ["value"] ["value"] (defScope (top 11)) := ⟨rfl, rfl, rfl, by decide +kernel, rfl, by decide +kernel, by decide +kernel⟩
def sp_is_integer : Sp := fun vs H Q _ => ∃ i : Int, vs = [.int i] ∧ Q (.bl true) H
theorem cal_is_integer (B : Bi mg) (D : Def K mg "is_integer" (top 11) ["value"]) : Cal P w K mg base 1 "is_integer" ["value"] sp_is_integer := by
  refine D.cal sc_is_integer (fun vs H Q E h => ?_) (fun f cdv A outer s H vs Q E hr h => ?_)
  · obtain ⟨i, rfl, _⟩ := h
    rfl
  · obtain ⟨i, rfl, q⟩ := h
    refine ⟨_, pss_one (ps_ret (pe_and (pe_callB call_isi (by rfl) B.isi bt_isi (pa_cons (pv 0) (pa_cons (pe_bltn (v := .ty "int") (by rfl) B.int bt_int rfl) pa_nil)))
      (pe_one (pe_not (pe_callB call_isi (by rfl) B.isi bt_isi (pa_cons (pv 0) (pa_cons (pe_bltn (v := .ty "bool") (by rfl) B.bool bt_bool rfl) pa_nil))))))), ?_⟩
    refine ⟨_, rfl, .int i, .ty "int", .type "int", .type "int", true, rfl, .ty _, .base (.int i), kit_int_int, true, rfl, iteT ?_⟩
    exact ⟨_, rfl, .int i, .ty "bool", .type "int", .type "bool", false, rfl, .ty _, .base (.int i), kit_int_bool, false, rfl, q⟩
end
end Sf

/-! is_between, is_pair, is_near, wrong_until, check_cells, brought. -/
namespace Sf
open PySem PySem.Spec PyProof.Rows L2
theorem eqv_cD (a b : Cel) : PyData.eqv (cD a) (cD b) = decide (a = b) := by
  have h : PyData.eqv (cD a) (cD b) = (decide (a.1 = b.1) && (decide (a.2 = b.2) && true)) := rfl
  rw [h, Bool.and_true]
  by_cases e : a = b
  · subst e
    simp
  · rw [decide_eq_false e]
    by_cases e1 : a.1 = b.1
    · have e2 : ¬ a.2 = b.2 := fun z => e (Prod.ext e1 z)
      rw [decide_eq_false e2, Bool.and_false]
    · rw [decide_eq_false e1, Bool.false_and]
theorem cD_shaped (a : Cel) : SeqAt.shaped (cD a) = true := rfl
theorem cs_lay : ∀ cs : List Cel, PyData.canLayAll0 (cs.map cD) = true
  | [] => rfl
  | c :: r => by
    show ((cD c).canLay0 && PyData.canLayAll0 (r.map cD)) = true
    rw [cs_lay r]
    rfl
theorem lD_shaped (cs : List Cel) : SeqAt.shaped (lD cs) = true := by
  unfold SeqAt.shaped
  rw [Bool.and_eq_true]
  refine ⟨cs_lay cs, decide_eq_true ?_⟩
  exact Nat.le_trans (lD_depth cs) (by decide)
theorem any_cD (c : Cel) : ∀ cs : List Cel, ((cs.map cD).any fun z => PyData.eqv z (cD c)) = decide (c ∈ cs)
  | [] => by simp
  | x :: r => by
    rw [List.map_cons, List.any_cons, any_cD c r, eqv_cD]
    by_cases h : x = c
    · subst h
      simp
    · rw [decide_eq_false h, Bool.false_or]
      simp [Ne.symm h]
theorem cells_len {H : Hp} {vs : List V} {cs : List Cel} (h : CellVs H vs cs) : vs.length = cs.length := paired_len h
section
variable {P : Program} {w : World} {K : PySem.W.Frag} {mg : Str → Option Value} {base : Heap}
theorem sc_is_between : FnScope ["value", "low", "high"] ["value", "low", "high"] (defScope (top 12)) := ⟨rfl, rfl, rfl, by decide +kernel, rfl, by decide +kernel, by decide +kernel⟩
def sp_is_between : Sp := fun vs H Q _ => ∃ i lo hi : Int, vs = [.int i, .int lo, .int hi] ∧ lo ≤ i ∧ i ≤ hi ∧ Q (.bl true) H
theorem cal_is_between (B : Bi mg) (C1 : Cal P w K mg base 1 "is_integer" ["value"] sp_is_integer) (D : Def K mg "is_between" (top 12) ["value", "low", "high"]) : Cal P w K mg base 2 "is_between" ["value", "low", "high"] sp_is_between := by
  refine D.cal sc_is_between (fun vs H Q E h => ?_) (fun f cdv A outer s H vs Q E hr h => ?_)
  · obtain ⟨i, lo, hi, rfl, _⟩ := h
    rfl
  · obtain ⟨i, lo, hi, rfl, h1, h2, q⟩ := h
    refine ⟨_, pss_one (ps_ret (pe_and (pe_callC C1 hr (by rfl) (pa_cons (pv 0) pa_nil)) (pe_one (pe_chain op_le op_le (pv 1) (pv 0) (pv 2))))), ?_⟩
    refine ⟨_, rfl, i, rfl, true, rfl, iteT ?_⟩
    refine ⟨_, rfl, _, rfl, lo, i, rfl, rfl, true, congrArg V.bl (decide_eq_true h1), iteT ?_⟩
    refine ⟨_, rfl, i, hi, rfl, rfl, ?_⟩
    show Q (.bl (decide (i ≤ hi))) H
    rw [decide_eq_true h2]
    exact q
theorem sc_is_pair : FnScope ["value", "number"] ["value"] (defScope (top 13)) := ⟨rfl, rfl, rfl, by decide +kernel, rfl, by decide +kernel, by decide +kernel⟩
def sp_is_pair : Sp := fun vs H Q _ => ∃ (v : V) (c : Cel), vs = [v] ∧ CellV H v c ∧ ∀ H', Same H H' → Q (.bl true) H'
theorem cal_is_pair (B : Bi mg) (C1 : Cal P w K mg base 1 "is_integer" ["value"] sp_is_integer) (D : Def K mg "is_pair" (top 13) ["value"]) : Cal P w K mg base 2 "is_pair" ["value"] sp_is_pair := by
  refine D.cal sc_is_pair (fun vs H Q E h => ?_) (fun f cdv A outer s H vs Q E hr h => ?_)
  · obtain ⟨v, c, rfl, _⟩ := h
    rfl
  · obtain ⟨v, c, rfl, ⟨p, rfl, e⟩, q⟩ := h
    refine ⟨_, pss_one (ps_ret (pe_and (pe_callB call_isi (by rfl) B.isi bt_isi (pa_cons (pv 0) (pa_cons (pe_bltn (v := .ty "tuple") (by rfl) B.tuple bt_tuple rfl) pa_nil)))
      (pe_and (pe_cmpR op_eq (pe_callB call_len_seq (by rfl) B.len bt_len (pa_cons (pv 0) pa_nil)) pe_int (nomark _))
        (pe_one (pe_callB (cr_all rfl) (by rfl) B.all bt_all (pa_cons (pe_lc (own := [("number", 1)]) (g := gName 1) (tt := tYes) (by rfl) sc_is_pair.nd (pi_tup (pv 0)) (blkOk_by (own := [("number", 1)]) (N := ["value", "number"]) (sc := defScope (top 13)) (by decide +kernel))
          (fun _ _ _ _ _ => pg_name (i := 1) sc_is_pair.nd rfl (.inl rfl)) (fun _ _ _ _ _ => pts_nil) (fun _ _ _ _ _ => pe_callC C1 hr (by rfl) (pa_cons (pv 1) pa_nil))) pa_nil)))))), ?_⟩
    refine ⟨_, rfl, .ref p, .ty "tuple", .type "tuple", .type "tuple", true, rfl, .ty _, .base (.tup e), kit_tup_tup, true, rfl, iteT ?_⟩
    refine ⟨_, rfl, p, _, rfl, .inr (SqT.of e), rfl, true, rfl, iteT ?_⟩
    refine ⟨_, rfl, p, rfl, ⟨_, SqT.of e⟩, fun Dn nD => ?_⟩
    refine lc_tup (K := K) (a := p) (xs := [.int c.1, .int c.2]) (fun i H' => Same H H' ∧ H' Dn = some (.lst (List.replicate i (.bl true)))) ⟨same_new nD, upd_same⟩ (fun i H' _ ⟨sm, _⟩ => SqT.of (sm _ _ e)) ?_ ?_
    · rintro i x H' hi ⟨sm, eD⟩
      have hx : ∃ n : Int, x = .int n := by
        match i, hi with
        | 0, hi => exact ⟨_, (Option.some.inj hi).symm⟩
        | 1, hi => exact ⟨_, (Option.some.inj hi).symm⟩
        | i + 2, hi => exact absurd hi (by simp)
      have hi2 : i < 2 := (List.getElem?_eq_some_iff.mp hi).1
      obtain ⟨n, rfl⟩ := hx
      refine ⟨rfl, _, rfl, n, rfl, _, eD, ?_, same_own sm nD, ?_⟩
      · rw [List.length_replicate, sizeLine_eq]
        omega
      · rw [upd_same, List.replicate_succ']
    · rintro H' ⟨sm, eD⟩
      exact ⟨Dn, [true, true], rfl, SqL.of eD, q H' sm⟩
theorem sc_is_near : FnScope ["value", "most", "number"] ["value", "most"] (defScope (top 14)) := ⟨rfl, rfl, rfl, by decide +kernel, rfl, by decide +kernel, by decide +kernel⟩
def sp_is_near : Sp := fun vs H Q _ => ∃ (v : V) (c : Cel) (m : Int), vs = [v, .int m] ∧ CellV H v c ∧ (-m ≤ c.1 ∧ c.1 ≤ m) ∧ (-m ≤ c.2 ∧ c.2 ≤ m) ∧ ∀ H', Same H H' → Q (.bl true) H'
theorem cal_is_near (B : Bi mg) (C1 : Cal P w K mg base 2 "is_pair" ["value"] sp_is_pair) (D : Def K mg "is_near" (top 14) ["value", "most"]) : Cal P w K mg base 3 "is_near" ["value", "most"] sp_is_near := by
  refine D.cal sc_is_near (fun vs H Q E h => ?_) (fun f cdv A outer s H vs Q E hr h => ?_)
  · obtain ⟨v, c, m, rfl, _⟩ := h
    rfl
  · obtain ⟨v, c, m, rfl, ⟨p, rfl, e⟩, b1, b2, q⟩ := h
    refine ⟨_, pss_one (ps_ret (pe_and (pe_callC C1 hr (by rfl) (pa_cons (pv 0) pa_nil))
        (pe_one (pe_callB (cr_all rfl) (by rfl) B.all bt_all (pa_cons (pe_lc (own := [("number", 2)]) (g := gName 2) (tt := tYes) (by rfl) sc_is_near.nd (pi_tup (pv 0)) (blkOk_by (own := [("number", 2)]) (N := ["value", "most", "number"]) (sc := defScope (top 14)) (by decide +kernel))
          (fun _ _ _ _ _ => pg_name (i := 2) sc_is_near.nd rfl (.inl rfl)) (fun _ _ _ _ _ => pts_nil) (fun _ _ _ _ _ => pe_cmpR op_le (pe_callB call_abs (by rfl) B.abs bt_abs (pa_cons (pv 2) pa_nil)) (pv 1) (nomark _))) pa_nil))))), ?_⟩
    refine ⟨_, rfl, .ref p, c, rfl, ⟨p, rfl, e⟩, fun H1 s1 => ⟨true, rfl, iteT ?_⟩⟩
    have e1 := s1 _ _ e
    refine ⟨_, rfl, p, rfl, ⟨_, SqT.of e1⟩, fun Dn nD => ?_⟩
    refine lc_tup (K := K) (a := p) (xs := [.int c.1, .int c.2]) (fun i H' => Same H1 H' ∧ H' Dn = some (.lst (List.replicate i (.bl true)))) ⟨same_new nD, upd_same⟩ (fun i H' _ ⟨sm, _⟩ => SqT.of (sm _ _ e1)) ?_ ?_
    · rintro i x H' hi ⟨sm, eD⟩
      have hx : ∃ n : Int, x = .int n ∧ -m ≤ n ∧ n ≤ m := by
        match i, hi with
        | 0, hi => exact ⟨_, (Option.some.inj hi).symm, b1⟩
        | 1, hi => exact ⟨_, (Option.some.inj hi).symm, b2⟩
        | i + 2, hi => exact absurd hi (by simp)
      have hi2 : i < 2 := (List.getElem?_eq_some_iff.mp hi).1
      obtain ⟨n, rfl, n1, n2⟩ := hx
      have hle : (if n < 0 then -n else n) ≤ m := by split <;> omega
      refine ⟨rfl, _, rfl, n, rfl, _, rfl, _, _, rfl, rfl, _, eD, ?_, same_own sm nD, ?_⟩
      · rw [List.length_replicate, sizeLine_eq]
        omega
      · rw [upd_same, List.replicate_succ']
        exact congrArg (fun z => some (HO.lst (List.replicate i (V.bl true) ++ [V.bl z]))) (decide_eq_true hle)
    · rintro H' ⟨sm, eD⟩
      exact ⟨Dn, [true, true], rfl, SqL.of eD, q H' (s1.trans sm)⟩
end
end Sf

/-! wrong_until, check_cells, brought. -/
namespace Sf
open PySem PySem.Spec PyProof.Rows L2
theorem cutV_to (xs : List V) {i : Nat} (h : i ≤ xs.length) : cutV xs none (some (i : Int)) = xs.take i := by
  unfold cutV
  rw [HT.sIx_none, HT.sIx_nat, List.drop_zero, Nat.sub_zero, Nat.min_eq_left h]
theorem paired_take {α β : Type} {F : α → β → Prop} : ∀ {l : List α} {m : List β} (i : Nat), Paired F l m → Paired F (l.take i) (m.take i)
  | _, _, 0, _ => .nil
  | _, _, _ + 1, .nil => .nil
  | _, _, i + 1, .cons q t => .cons q (paired_take i t)
section
variable {P : Program} {w : World} {K : PySem.W.Frag} {mg : Str → Option Value} {base : Heap}
theorem room65 {k : Nat} {A : Around} (hr : Room k A) : A.units + 65 < cLine := by
  have := hr.un
  omega
theorem sc_wrong_until : FnScope ["values", "most", "index", "value"] ["values", "most"] (defScope (top 20)) := ⟨rfl, rfl, rfl, by decide +kernel, rfl, by decide +kernel, by decide +kernel⟩
def near (m : Int) (c : Cel) : Prop := (-m ≤ c.1 ∧ c.1 ≤ m) ∧ (-m ≤ c.2 ∧ c.2 ≤ m)
def sp_wrong_until : Sp := fun vs H Q _ => ∃ (a : Addr) (cs : List Cel), vs = [.ref a, .int 24] ∧ CellsT H a cs ∧ cs.length ≤ 24 ∧ cs.Nodup ∧ (∀ c ∈ cs, near 1000 c) ∧ ∀ H', Same H H' → Q .non H'
theorem cal_wrong_until (B : Bi mg) (N : Co mg) (C1 : Cal P w K mg base 3 "is_near" ["value", "most"] sp_is_near) (D : Def K mg "wrong_until" (top 20) ["values", "most"]) : Cal P w K mg base 4 "wrong_until" ["values", "most"] sp_wrong_until := by
  refine D.cal sc_wrong_until (fun vs H Q E h => ?_) (fun f cdv A outer s H vs Q E hr h => ?_)
  · obtain ⟨a, cs, rfl, _⟩ := h
    rfl
  · obtain ⟨a, cs, rfl, ⟨vs, ea, hcs⟩, h24, hnd, hnr, q⟩ := h
    obtain ⟨tp, hp⟩ := N.place
    have hl := cells_len hcs
    have hu := hr.units
    refine ⟨_, pss_cons (ps_for PassesOwn.never rfl (pi_enumT (by rfl) B.enum (pa_cons (pv 0) pa_nil)) (pg_tup rfl (pgs_cons (pg_name (i := 2) sc_wrong_until.nd rfl (.inl rfl)) (pgs_cons (pg_name (i := 3) sc_wrong_until.nd rfl (.inl rfl)) pgs_nil)))
        (pss_one (ps_if (PW.pt (pw_or (pt_cmpR op_eq (pv 2) (pv 1) (nomark _)) (pw_or (pt_not (pt_val (pe_callC C1 hr (by rfl) (pa_cons (pv 3) (pa_cons (pe_glob (v := .int 1000) (by rfl) hp ⟨_, rfl⟩) pa_nil)))))
          (pw_or1 (pt_cmpR (op_inDT (room65 hr)) (pv 3) (pe_slice sl_tup (pv 0) po_none (po_some (pv 2))) (by rfl)))))) (pss_one (ps_ret (pv 2))) pss_nil)))
      (pss_one (ps_ret pe_non)), ?_⟩
    refine ⟨_, rfl, a, vs, rfl, SqT.of ea, for_it (walk_enumT (K := K) (a := a) (xs := vs)) (fun i σ H' => ∃ y2 y3, σ = [some (.ref a), some (.int 24), y2, y3] ∧ Same H H') ⟨none, none, rfl, Same.refl H⟩ (fun i σ H' _ ⟨_, _, _, sm⟩ => SqT.of (sm _ _ ea)) ?_ ?_⟩
    · rintro i v σ H1 H2 hi ⟨y2, y3, rfl, sm⟩ ⟨T, x, rfl, nT, rfl, hx⟩
      obtain ⟨c, hc, hv⟩ := Paired.at hcs hx
      have s1 : Same H1 (upd H1 T (.tup [.int (i : Nat), x])) := same_new nT
      have s2 := sm.trans s1
      have hv2 : CellV (upd H1 T (.tup [.int (i : Nat), x])) x c := hv.up (Same.tups s2)
      refine ⟨T, _, rfl, SqT.of upd_same, rfl, .int (i : Nat), _, rfl, x, [], rfl, rfl, ?_⟩
      -- index == most
      refine ⟨_, rfl, _, rfl, rfl, _, rfl, ?_⟩
      have hne : decide (V.int ((i : Nat) : Int) = V.int 24) = false := decide_eq_false fun e => by
        injection e with e
        omega
      rw [hne]
      refine iteF ?_
      -- not is_near
      refine ⟨_, rfl, x, c, 1000, rfl, hv2, (hnr c (List.mem_of_getElem? hc)).1, (hnr c (List.mem_of_getElem? hc)).2, fun H3 s3 => ⟨true, rfl, iteF ?_⟩⟩
      -- value in values[:index]
      have s4 := s2.trans s3
      refine ⟨x, rfl, .ref a, rfl, _, rfl, (i : Nat), rfl, a, vs, rfl, SqT.of (s4 _ _ ea), ?_, fun p np => ?_⟩
      · rw [HT.sIx_none, HT.sIx_nat, Nat.min_eq_left (Nat.le_of_lt hi)]
        exact fun z => absurd z.2 (Nat.ne_of_lt hi)
      · have s5 : Same H3 (upd H3 p (.tup (cutV vs none (some ((i : Nat) : Int))))) := same_new np
        have t5 := Same.tups (s4.trans s5)
        have hds : DpAll K (upd H3 p (.tup (cutV vs none (some ((i : Nat) : Int))))) (cutV vs none (some ((i : Nat) : Int))) ((cs.take i).map cD) := by
          rw [cutV_to vs (Nat.le_of_lt hi)]
          rw [cutV_to vs (Nat.le_of_lt hi)] at t5
          exact CellVs.dp (paired_take i (hcs.up t5))
        refine ⟨cD c, (cs.take i).map cD, (hv.up t5).dp, .tup (SqT.of upd_same) hds, rfl, lD_shaped (cs.take i), false, ?_, ?_⟩
        · rw [any_cD]
          refine congrArg V.bl (decide_eq_false fun hm => ?_)
          obtain ⟨j, hj⟩ := List.getElem?_of_mem hm
          rw [List.getElem?_take] at hj
          split at hj
          · rename_i hji
            have hjl : j < cs.length := (List.getElem?_eq_some_iff.mp hj).1
            have := (List.getElem?_inj hjl hnd).mp (hj.trans hc.symm)
            omega
          · cases hj
        · exact ⟨_, _, rfl, s4.trans s5⟩
    · rintro σ H1 ⟨y2, y3, rfl, sm⟩
      exact q H1 sm
theorem sc_check_cells : FnScope ["values", "index"] ["values"] (defScope (top 21)) := ⟨rfl, rfl, rfl, by decide +kernel, rfl, by decide +kernel, by decide +kernel⟩
def sp_check_cells : Sp := fun vs H Q _ => ∃ (a : Addr) (cs : List Cel), vs = [.ref a] ∧ CellsT H a cs ∧ cs ≠ [] ∧ cs.length ≤ 24 ∧ cs.Nodup ∧ (∀ c ∈ cs, near 1000 c) ∧ ∀ H', Same H H' → Q .non H'
theorem cal_check_cells (B : Bi mg) (N : Co mg) (C1 : Cal P w K mg base 4 "wrong_until" ["values", "most"] sp_wrong_until) (D : Def K mg "check_cells" (top 21) ["values"]) : Cal P w K mg base 5 "check_cells" ["values"] sp_check_cells := by
  refine D.cal sc_check_cells (fun vs H Q E h => ?_) (fun f cdv A outer s H vs Q E hr h => ?_)
  · obtain ⟨a, cs, rfl, _⟩ := h
    rfl
  · obtain ⟨a, cs, rfl, ⟨vs, ea, hcs⟩, hne, h24, hnd, hnr, q⟩ := h
    obtain ⟨tc, hc⟩ := N.cells
    refine ⟨_, pss_cons (ps_if (PW.pt (pw_or (pt_not (pt_val (pe_callB call_isi (by rfl) B.isi bt_isi (pa_cons (pv 0) (pa_cons (pe_bltn (v := .ty "tuple") (by rfl) B.tuple bt_tuple rfl) pa_nil)))))
          (pw_or1 (pt_cmpR (op_eqD hr.units) (pv 0) (pe_tup pa_nil) (nomark _))))) (pss_one ps_never) pss_nil)
      (pss_cons (ps_set (i := 1) sc_check_cells.nd rfl (.inl rfl) (pe_callC C1 hr (by rfl) (pa_cons (pv 0) (pa_cons (pe_glob (v := .int 24) (by rfl) hc ⟨_, rfl⟩) pa_nil))))
      (pss_one (ps_if (pt_cmpR op_notN (pv 1) pe_non (nomark _)) (pss_one ps_never) pss_nil))), ?_⟩
    refine ⟨_, rfl, .ref a, .ty "tuple", .type "tuple", .type "tuple", true, rfl, .ty _, .base (.tup ea), kit_tup_tup, true, rfl, iteF ?_⟩
    refine ⟨_, rfl, Nat.zero_le _, fun p np => ?_⟩
    have s1 : Same H (upd H p (.tup [])) := same_new np
    refine ⟨lD cs, lD [], FillV.dp ⟨a, rfl, vs, s1 _ _ ea, hcs.up (Same.tups s1)⟩, .tup (SqT.of upd_same) .nil, lD_shaped cs, lD_shaped [], false, ?_, iteF ?_⟩
    · refine congrArg V.bl ?_
      cases h : PyData.eqv (lD cs) (lD []) with
      | false => rfl
      | true => exact absurd (lD_inj h) hne
    refine ⟨_, rfl, a, cs, rfl, ⟨vs, s1 _ _ ea, hcs.up (Same.tups s1)⟩, h24, hnd, hnr, fun H2 s2 => ?_⟩
    refine ⟨_, rfl, rfl, false, rfl, iteF ?_⟩
    exact q H2 (s1.trans s2)
theorem sc_brought : FnScope ["cell", "shove"] ["cell", "shove"] (defScope (top 23)) := ⟨rfl, rfl, rfl, by decide +kernel, rfl, by decide +kernel, by decide +kernel⟩
/-- the one may stand in the written part -/
def sp_brought (K : PySem.W.Frag) : Sp := fun vs H Q _ => ∃ (a b : Addr) (c d : Cel), vs = [.ref a, .ref b] ∧ SqT K H a [.int c.1, .int c.2] ∧ SqT K H b [.int d.1, .int d.2] ∧ ∀ p, H p = none → Q (.ref p) (upd H p (.tup [.int (c.1 + d.1), .int (c.2 + d.2)]))
theorem cal_brought (D : Def K mg "brought" (top 23) ["cell", "shove"]) : Cal P w K mg base 1 "brought" ["cell", "shove"] (sp_brought K) := by
  refine D.cal sc_brought (fun vs H Q E h => ?_) (fun f cdv A outer s H vs Q E hr h => ?_)
  · obtain ⟨a, b, c, d, rfl, _⟩ := h
    rfl
  · obtain ⟨a, b, c, d, rfl, ea, eb, q⟩ := h
    refine ⟨_, pss_one (ps_ret (pe_tup (pa_cons (pe_op op_add (pe_ix ix_tup (pv 0) pe_int (fun _ _ => rfl)) (pe_ix ix_tup (pv 1) pe_int (fun _ _ => rfl)))
      (pa_cons (pe_op op_add (pe_ix ix_tup (pv 0) pe_int (fun _ _ => rfl)) (pe_ix ix_tup (pv 1) pe_int (fun _ _ => rfl))) pa_nil)))), ?_⟩
    refine ⟨_, rfl, a, _, 0, _, rfl, rfl, ea, atI_nat (j := 0) rfl, _, rfl, b, _, 0, _, rfl, rfl, eb, atI_nat (j := 0) rfl, _, _, rfl, rfl, ?_⟩
    refine ⟨_, rfl, a, _, 1, _, rfl, rfl, ea, atI_nat (j := 1) rfl, _, rfl, b, _, 1, _, rfl, rfl, eb, atI_nat (j := 1) rfl, _, _, rfl, rfl, ?_⟩
    exact ⟨by show 2 ≤ sizeLine; decide, q⟩
end
end Sf

/-! Comprehensions by what their walks give; dicts of cells as sets. -/
namespace Sf
open PySem PySem.Spec PyProof.Rows L2
/-- a walk over things that stand for bs, the heap as it was -/
def WL {β : Type} (G : Hp → V → β → Prop) (J : It) (bs : List β) (H0 : Hp) : Prop := Walk J bs.length (Same H0) (fun i H x H' => H' = H ∧ ∃ b, bs[i]? = some b ∧ G H x b)
abbrev Up {β : Type} (G : Hp → V → β → Prop) : Prop := ∀ H H' v b, Tups H H' → G H v b → G H' v b
theorem upCell : Up CellV := fun _ _ _ _ t h => h.up t
theorem Paired.upT {β : Type} {G : Hp → V → β → Prop} (u : Up G) {H H' : Hp} (t : Tups H H') {vs : List V} {bs : List β} (h : Paired (G H) vs bs) : Paired (G H') vs bs := Paired.mapP h fun _ _ q => u _ _ _ _ t q
section
variable {β γ : Type} {G : Hp → V → β → Prop}
theorem wl_tup {K : PySem.W.Frag} {a : Addr} {vs : List V} {bs : List β} {H : Hp} (u : Up G) (e : H a = some (.tup vs)) (h : Paired (G H) vs bs) : WL G (Itt K a) bs H := by
  have w := walk_tup (K := K) (a := a) (xs := vs)
  have hl := paired_len h
  unfold WL
  rw [← hl]
  exact w.mono (fun H' s => SqT.of (s _ _ e)) (fun i H' x H2 _ s ⟨e1, e2⟩ => ⟨e1, let ⟨b, e3, g⟩ := Paired.at h e2; ⟨b, e3, u _ _ _ _ (Same.tups s) g⟩⟩)
theorem wl_list {K : PySem.W.Frag} {a : Addr} {vs : List V} {bs : List β} {H : Hp} (u : Up G) (e : H a = some (.lst vs)) (h : Paired (G H) vs bs) : WL G (Itl K a) bs H := by
  have w := walk_list (K := K) (a := a) (xs := vs)
  have hl := paired_len h
  unfold WL
  rw [← hl]
  exact w.mono (fun H' s => SqL.of (s _ _ e)) (fun i H' x H2 _ s ⟨e1, e2⟩ => ⟨e1, let ⟨b, e3, g⟩ := Paired.at h e2; ⟨b, e3, u _ _ _ _ (Same.tups s) g⟩⟩)
/-- [elt for .. in .. if p] over such a walk: the new list stands for the chosen, each by f -/
theorem lc_wl {J : It} {bs : List β} {H1 : Hp} {F : Hp → V → γ → Prop} {g : TG} {tt : TT} {te : TE} {vs : List Nat} {σ : L2.St} {D : Addr} {Qd : Hp → Prop} (w : WL G J bs H1) (nD : H1 D = none) (u : Up F) (p : β → Bool) (f : β → γ) (hz : bs.length ≤ sizeLine)
    (hs : ∀ x b H' (N : V → Hp → Prop) (N0 : Hp → Prop), b ∈ bs → Same H1 H' → G H' x b → (∀ y H4, p b = true → Same H' H4 → F H4 y (f b) → N y H4) → (∀ H4, p b = false → Same H' H4 → N0 H4) →
      g x (wipe σ vs) H' fun σ2 H2 => wipe σ2 vs = wipe σ vs ∧ tt σ2 H2 fun c H3 => if c = true then te σ2 H3 N else N0 H3)
    (hd : ∀ H' ys, Same H1 H' → H' D = some (.lst ys) → Paired (F H') ys ((bs.filter p).map f) → Qd H') :
    ∃ W : Nat → Nat → Hp → Prop, (∃ m, W 0 m (upd H1 D (.lst []))) ∧ ∀ i m H, W i m H →
      (J.stop i H ∧ Qd H) ∨ (J.go i H ∧ ∃ Nx : Hp → Prop, (∀ H', Nx H' → ∃ m', m' < m ∧ W (i + 1) m' H') ∧ ∀ x H', J.yld i H x H' → g x (wipe σ vs) H' fun σ2 H2 => wipe σ2 vs = wipe σ vs ∧ tt σ2 H2 fun b H3 =>
        if b = true then te σ2 H3 fun y H4 => ∃ acc, H4 D = some (.lst acc) ∧ acc.length < sizeLine ∧ Nx (upd H4 D (.lst (acc ++ [y]))) else Nx H3) := by
  refine lc_it w (fun i H' => Same H1 H' ∧ ∃ ys, H' D = some (.lst ys) ∧ Paired (F H') ys (((bs.take i).filter p).map f)) ⟨same_new nD, [], upd_same, .nil⟩ (fun i H' _ h => h.1) ?_ ?_
  · rintro i x H H' hi ⟨sm, ys, eD, hp⟩ ⟨rfl, b, hb, hg⟩
    have ht : bs.take (i + 1) = bs.take i ++ [b] := by
      rw [List.take_add_one, hb]
      rfl
    have hyl : ys.length < sizeLine := by
      have h1 := paired_len hp
      rw [List.length_map] at h1
      have h2 : ((bs.take i).filter p).length ≤ (bs.take i).length := List.length_filter_le _ _
      rw [List.length_take] at h2
      have : i < bs.length := hi
      omega
    refine hs x b H' _ _ (List.mem_of_getElem? hb) sm hg (fun y H4 hpb s4 hF => ?_) (fun H4 hpb s4 => ?_)
    · have s5 := sm.trans s4
      refine ⟨ys, s4 _ _ eD, hyl, same_own s5 nD, ys ++ [y], upd_same, ?_⟩
      have t4 : Tups H4 (upd H4 D (.lst (ys ++ [y]))) := tups_lst (s4 _ _ eD)
      rw [ht, List.filter_append, List.map_append]
      have : [b].filter p = [b] := by
        rw [List.filter_cons, hpb]
        rfl
      rw [this]
      exact Paired.snoc (Paired.upT u ((Same.tups s4).trans t4) hp) (u _ _ _ _ t4 hF)
    · refine ⟨sm.trans s4, ys, s4 _ _ eD, ?_⟩
      rw [ht, List.filter_append, List.map_append]
      have : [b].filter p = [] := by
        rw [List.filter_cons, hpb]
        rfl
      rw [this, List.map_nil, List.append_nil]
      exact Paired.upT u (Same.tups s4) hp
  · rintro H' ⟨sm, ys, eD, hp⟩
    rw [List.take_length] at hp
    exact hd H' ys sm eD hp
end
theorem nodup_one {α : Type} (a : α) : [a].Nodup := List.nodup_cons.mpr ⟨List.not_mem_nil, List.nodup_nil⟩
theorem filter_all {β : Type} (l : List β) : l.filter (fun _ => true) = l := List.filter_eq_self.mpr fun _ _ => rfl
/-! ### keys -/
theorem keyC_inj {a b : Cel} (h : keyC a = keyC b) : a = b := by
  injection h with h1 h2
  injection h2 with h2 _
  injection h1 with h1
  injection h2 with h2
  exact Prod.ext h1 h2
def addC (ks : List Cel) (c : Cel) : List Cel := if c ∈ ks then ks else ks ++ [c]
def ddC (cs : List Cel) : List Cel := cs.foldl addC []
theorem addC_mem {ks : List Cel} {c d : Cel} : d ∈ addC ks c ↔ d ∈ ks ∨ d = c := by
  unfold addC
  split
  · constructor
    · exact .inl
    · rintro (h | rfl)
      · exact h
      · assumption
  · rw [List.mem_append, List.mem_singleton]
theorem addC_nodup {ks : List Cel} {c : Cel} (h : ks.Nodup) : (addC ks c).Nodup := by
  unfold addC
  split
  · exact h
  · rename_i hn
    rw [List.nodup_append]
    refine ⟨h, nodup_one _, fun a ha b hb => ?_⟩
    rw [List.mem_singleton] at hb
    rintro rfl
    subst hb
    exact hn ha
theorem addC_len (ks : List Cel) (c : Cel) : (addC ks c).length ≤ ks.length + 1 := by
  unfold addC
  split
  · exact Nat.le_succ _
  · rw [List.length_append]
    exact Nat.le_refl _
theorem ddC_snoc (cs : List Cel) (c : Cel) : ddC (cs ++ [c]) = addC (ddC cs) c := by
  unfold ddC
  rw [List.foldl_append]
  rfl
theorem ddC_facts (cs : List Cel) : (ddC cs).Nodup ∧ (∀ c, c ∈ ddC cs ↔ c ∈ cs) ∧ (ddC cs).length ≤ cs.length ∧ ((ddC cs).length = cs.length → cs.Nodup ∧ ddC cs = cs) := by
  induction h : cs.length generalizing cs with
  | zero =>
    have : cs = [] := List.length_eq_zero_iff.mp h
    subst this
    exact ⟨List.nodup_nil, fun c => Iff.rfl, Nat.le_refl _, fun _ => ⟨List.nodup_nil, rfl⟩⟩
  | succ n ih =>
    rcases List.eq_nil_or_concat cs with rfl | ⟨l, c, rfl⟩
    · cases h
    · rw [List.concat_eq_append] at h ⊢
      rw [List.length_append] at h
      have hl : l.length = n := Nat.succ.inj h
      obtain ⟨h1, h2, h3, h4⟩ := ih l hl
      rw [ddC_snoc]
      refine ⟨addC_nodup h1, fun d => ?_, ?_, fun e => ?_⟩
      · rw [addC_mem, h2, List.mem_append, List.mem_singleton]
      · exact Nat.le_trans (addC_len _ _) (Nat.succ_le_succ h3)
      · unfold addC at e ⊢
        split at e
        · omega
        · rename_i hn
          rw [List.length_append] at e
          obtain ⟨h5, h6⟩ := h4 (Nat.succ.inj e)
          rw [if_neg hn, h6]
          rw [h6] at hn
          refine ⟨?_, rfl⟩
          rw [List.nodup_append]
          refine ⟨h5, nodup_one _, fun a ha b hb => ?_⟩
          rw [List.mem_singleton] at hb
          rintro rfl
          subst hb
          exact hn ha
theorem ddC_id {cs : List Cel} (h : cs.Nodup) : ddC cs = cs := by
  induction e : cs.length generalizing cs with
  | zero =>
    have : cs = [] := List.length_eq_zero_iff.mp e
    subst this
    rfl
  | succ n ih =>
    rcases List.eq_nil_or_concat cs with rfl | ⟨l, c, rfl⟩
    · rfl
    · rw [List.concat_eq_append] at h e ⊢
      rw [List.length_append] at e
      rw [List.nodup_append] at h
      rw [ddC_snoc, ih h.1 (Nat.succ.inj e)]
      unfold addC
      rw [if_neg fun hm => h.2.2 c hm c (List.mem_singleton.mpr rfl) rfl]
abbrev KeysC (kvs : List (List Key × V)) (cs : List Cel) : Prop := kvs.map (·.1) = cs.map keyC
theorem keys_val {kvs : List (List Key × V)} {cs : List Cel} (h : KeysC kvs cs) (c : Cel) : (valV kvs (keyC c)).isSome = decide (c ∈ cs) := by
  rw [← valV_any]
  have h1 : (kvs.any fun kv => decide (kv.1 = keyC c)) = (kvs.map (·.1)).any fun k => decide (k = keyC c) := by
    rw [List.any_map]
    rfl
  rw [h1, h, List.any_map]
  by_cases hc : c ∈ cs
  · rw [decide_eq_true hc, List.any_eq_true]
    exact ⟨c, hc, decide_eq_true rfl⟩
  · rw [decide_eq_false hc]
    refine Bool.eq_false_iff.mpr fun h2 => ?_
    obtain ⟨d, hd, e⟩ := List.any_eq_true.mp h2
    have := keyC_inj (of_decide_eq_true e)
    subst this
    exact hc hd
theorem keys_put {kvs : List (List Key × V)} {cs : List Cel} (h : KeysC kvs cs) (c : Cel) (v : V) : KeysC (putK kvs (keyC c) v) (addC cs c) := by
  unfold KeysC putK
  have hv : (kvs.any fun kv => decide (kv.1 = keyC c)) = decide (c ∈ cs) := by rw [valV_any, keys_val h]
  rw [hv]
  unfold addC
  by_cases hc : c ∈ cs
  · rw [if_pos (decide_eq_true hc), if_pos hc, ← h, List.map_map]
    refine List.map_congr_left fun kv _ => ?_
    show (if kv.1 = keyC c then (kv.1, v) else kv).1 = kv.1
    split <;> rfl
  · rw [if_neg (by rw [decide_eq_false hc]; decide), if_neg hc, List.map_append, List.map_append, h]
    rfl
theorem keys_len {kvs : List (List Key × V)} {cs : List Cel} (h : KeysC kvs cs) : kvs.length = cs.length := by
  have := congrArg List.length h
  rwa [List.length_map, List.length_map] at this
theorem ddC_putK_len (cs : List Cel) : (ddC cs).length ≤ cs.length := (ddC_facts cs).2.2.1
/-- the dict at d, its keys these cells in this order -/
def DSet (H : Hp) (d : Addr) (cs : List Cel) : Prop := ∃ kvs, H d = some (.dT kvs) ∧ KeysC kvs cs
theorem DSet.up {H H' : Hp} (s : Same H H') {d : Addr} {cs : List Cel} (h : DSet H d cs) : DSet H' d cs := let ⟨kvs, e, k⟩ := h; ⟨kvs, s _ _ e, k⟩
section
variable {β : Type} {G : Hp → V → β → Prop}
/-- {key: True for .. in .. if p} over such a walk -/
theorem dc_wl {J : It} {bs : List β} {H1 : Hp} {g : TG} {tt : TT} {tk tv : TE} {vs : List Nat} {σ : L2.St} {D : Addr} {Qd : Hp → Prop} (w : WL G J bs H1) (nD : H1 D = none) (p : β → Bool) (f : β → Cel) (hz : bs.length ≤ sizeLine)
    (hv : ∀ σ H Q, Q (.bl true) H → tv σ H Q)
    (hs : ∀ x b H' (N : V → Hp → L2.St → Prop) (N0 : Hp → Prop), b ∈ bs → Same H1 H' → G H' x b → (∀ y H4 σ2, p b = true → Same H' H4 → CellV H4 y (f b) → N y H4 σ2) → (∀ H4, p b = false → Same H' H4 → N0 H4) →
      g x (wipe σ vs) H' fun σ2 H2 => wipe σ2 vs = wipe σ vs ∧ tt σ2 H2 fun c H3 => if c = true then tk σ2 H3 (fun y H4 => N y H4 σ2) else N0 H3)
    (hd : ∀ H', Same H1 H' → DSet H' D (ddC ((bs.filter p).map f)) → Qd H') :
    ∃ W : Nat → Nat → Hp → Prop, (∃ m, W 0 m (upd H1 D (.dT []))) ∧ ∀ i m H, W i m H →
      (J.stop i H ∧ Qd H) ∨ (J.go i H ∧ ∃ Nx : Hp → Prop, (∀ H', Nx H' → ∃ m', m' < m ∧ W (i + 1) m' H') ∧ ∀ x H', J.yld i H x H' → g x (wipe σ vs) H' fun σ2 H2 => wipe σ2 vs = wipe σ vs ∧ tt σ2 H2 fun c H3 =>
        if c = true then tk σ2 H3 fun y H4 => tv σ2 H4 fun z H5 => ∃ kvs k b, y = .ref b ∧ H5 b = some (.tup (k.map kV)) ∧ H5 D = some (.dT kvs) ∧ kvs.length < sizeLine ∧ Nx (upd H5 D (.dT (putK kvs k z))) else Nx H3) := by
  refine dc_it w (fun i H' => Same H1 H' ∧ DSet H' D (ddC (((bs.take i).filter p).map f))) ⟨same_new nD, [], upd_same, rfl⟩ (fun i H' _ h => h.1) ?_ ?_
  · rintro i x H H' hi ⟨sm, kvs, eD, hk⟩ ⟨rfl, b, hb, hg⟩
    have ht : bs.take (i + 1) = bs.take i ++ [b] := by
      rw [List.take_add_one, hb]
      rfl
    have hyl : kvs.length < sizeLine := by
      have h1 := keys_len hk
      have h3 := ddC_putK_len (((bs.take i).filter p).map f)
      rw [List.length_map] at h3
      have h2 : ((bs.take i).filter p).length ≤ (bs.take i).length := List.length_filter_le _ _
      rw [List.length_take] at h2
      have : i < bs.length := hi
      omega
    refine hs x b H' _ _ (List.mem_of_getElem? hb) sm hg (fun y H4 σ2 hpb s4 hF => ?_) (fun H4 hpb s4 => ?_)
    · have s5 := sm.trans s4
      obtain ⟨q, rfl, eq⟩ := hF
      refine hv _ _ _ ⟨kvs, keyC (f b), q, rfl, eq, s4 _ _ eD, hyl, same_own s5 nD, _, upd_same, ?_⟩
      rw [ht, List.filter_append, List.map_append]
      have : [b].filter p = [b] := by
        rw [List.filter_cons, hpb]
        rfl
      rw [this, List.map_cons, List.map_nil, ddC_snoc]
      exact keys_put hk (f b) _
    · refine ⟨sm.trans s4, kvs, s4 _ _ eD, ?_⟩
      rw [ht, List.filter_append, List.map_append]
      have : [b].filter p = [] := by
        rw [List.filter_cons, hpb]
        rfl
      rw [this, List.map_nil, List.append_nil]
      exact hk
  · rintro H' ⟨sm, hk⟩
    rw [List.take_length] at hk
    exact hd H' sm hk
end
/-- i in n turns from lo -/
abbrev rng (lo : Int) (n : Nat) : List Int := (List.range n).map fun i : Nat => lo + (i : Int)
theorem rng_snoc (lo : Int) (n : Nat) : rng lo (n + 1) = rng lo n ++ [lo + (n : Int)] := by
  unfold rng
  rw [List.range_succ, List.map_append]
  rfl
theorem rng_len (lo : Int) (n : Nat) : (rng lo n).length = n := by rw [List.length_map, List.length_range]
/-- [(x, y) for x in range for y in range] -/
theorem lc2_grid {lo lo1 : Int} {n n1 : Nat} {H1 : Hp} {g g1 : TG} {tt tt1 : TT} {wi1 : TI} {te : TE} {vs vs1 : List Nat} {σ : L2.St} {D : Addr} {Qd : Hp → Prop} (nD : H1 D = none) (hz : n * n1 ≤ sizeLine) (S : Int → L2.St → Prop)
    (h1 : ∀ (x : Int) H' (R : L2.St → Hp → Prop) (N0 : Hp → Prop), (∀ σ2, S x σ2 → R σ2 H') → g (.int x) (wipe σ vs) H' fun σ2 H2 => wipe σ2 vs = wipe σ vs ∧ tt σ2 H2 fun b H3 => if b = true then R σ2 H3 else N0 H3)
    (h2 : ∀ x σ2 H R, S x σ2 → Same H1 H → R (Itr lo1 n1) H → wi1 σ2 H R)
    (h3 : ∀ (x y : Int) σ2 H' (N : V → Hp → Prop) (N0 : Hp → Prop), S x σ2 → (∀ p, H' p = none → N (.ref p) (upd H' p (.tup [.int x, .int y]))) → g1 (.int y) (wipe σ2 vs1) H' fun σ3 H5 => wipe σ3 vs1 = wipe σ2 vs1 ∧ tt1 σ3 H5 fun b H6 => if b = true then te σ3 H6 N else N0 H6)
    (hd : ∀ H' ys, Same H1 H' → H' D = some (.lst ys) → CellVs H' ys ((rng lo n).flatMap fun x => (rng lo1 n1).map fun y => (x, y)) → Qd H') :
    ∃ W : Nat → Nat → Hp → Prop, (∃ m, W 0 m (upd H1 D (.lst []))) ∧ ∀ i m H, W i m H →
      ((Itr lo n).stop i H ∧ Qd H) ∨ ((Itr lo n).go i H ∧ ∃ Nx : Hp → Prop, (∀ H', Nx H' → ∃ m', m' < m ∧ W (i + 1) m' H') ∧ ∀ x H', (Itr lo n).yld i H x H' → g x (wipe σ vs) H' fun σ2 H2 => wipe σ2 vs = wipe σ vs ∧ tt σ2 H2 fun b H3 =>
        if b = true then wi1 σ2 H3 fun J1 H4 => ∃ W1 : Nat → Nat → Hp → Prop, (∃ m, W1 0 m H4) ∧ ∀ j k H, W1 j k H →
          (J1.stop j H ∧ Nx H) ∨ (J1.go j H ∧ ∃ Nx1 : Hp → Prop, (∀ H', Nx1 H' → ∃ k', k' < k ∧ W1 (j + 1) k' H') ∧ ∀ x H', J1.yld j H x H' → g1 x (wipe σ2 vs1) H' fun σ3 H5 => wipe σ3 vs1 = wipe σ2 vs1 ∧ tt1 σ3 H5 fun b H6 =>
            if b = true then te σ3 H6 fun y H7 => ∃ acc, H7 D = some (.lst acc) ∧ acc.length < sizeLine ∧ Nx1 (upd H7 D (.lst (acc ++ [y]))) else Nx1 H6)
        else Nx H3) := by
  have hgl : ∀ i, ((rng lo i).flatMap fun x => (rng lo1 n1).map fun y => (x, y)).length = i * n1 := by
    intro i
    induction i with
    | zero => rw [Nat.zero_mul]; rfl
    | succ i ih =>
      rw [rng_snoc lo i, List.flatMap_append, List.length_append, ih, Nat.succ_mul, List.flatMap_cons, List.flatMap_nil, List.append_nil, List.length_map, rng_len]
  refine ⟨fun i m H => m = n - i ∧ i ≤ n ∧ Same H1 H ∧ ∃ ys, H D = some (.lst ys) ∧ CellVs H ys ((rng lo i).flatMap fun x => (rng lo1 n1).map fun y => (x, y)), ⟨n, rfl, Nat.zero_le _, same_new nD, [], upd_same, .nil⟩, ?_⟩
  rintro i m H ⟨rfl, hi, sm, ys, eD, hy⟩
  rcases Nat.lt_or_ge i n with h | h
  · refine .inr ⟨h, _, fun H' h => ⟨n - (i + 1), by omega, rfl, h⟩, ?_⟩
    rintro x H' ⟨rfl, rfl⟩
    refine h1 _ _ _ _ fun σ2 hσ2 => h2 _ _ _ _ hσ2 sm ?_
    refine ⟨fun j k H' => k = n1 - j ∧ j ≤ n1 ∧ Same H1 H' ∧ ∃ ys, H' D = some (.lst ys) ∧ CellVs H' ys (((rng lo i).flatMap fun x => (rng lo1 n1).map fun y => (x, y)) ++ (rng lo1 j).map fun y => (lo + (i : Int), y)), ⟨n1, rfl, Nat.zero_le _, sm, ys, eD, by rw [show rng lo1 0 = [] from rfl, List.map_nil, List.append_nil]; exact hy⟩, ?_⟩
    rintro j k H2 ⟨rfl, hj, sm2, zs, eD2, hz2⟩
    rcases Nat.lt_or_ge j n1 with h' | h'
    · refine .inr ⟨h', _, fun H' h => ⟨n1 - (j + 1), by omega, rfl, h⟩, ?_⟩
      rintro x H3 ⟨rfl, rfl⟩
      refine h3 _ _ _ _ _ _ hσ2 fun p np => ?_
      have hne : D ≠ p := ne_of_none eD2 np
      have hlen : zs.length < sizeLine := by
        have h5 := paired_len hz2
        rw [List.length_append, hgl, List.length_map, rng_len] at h5
        have h6 : (i + 1) * n1 ≤ n * n1 := Nat.mul_le_mul_right _ h
        rw [Nat.succ_mul] at h6
        omega
      refine ⟨zs, by rw [upd_ne hne]; exact eD2, hlen, h', same_own (sm2.trans (same_new np)) nD, _, upd_same, ?_⟩
      have t1 : Tups H3 (upd H3 p (.tup [.int (lo + (i : Int)), .int (lo1 + (j : Int))])) := tups_new np
      have t2 : Tups (upd H3 p (.tup [.int (lo + (i : Int)), .int (lo1 + (j : Int))])) (upd (upd H3 p (.tup [.int (lo + (i : Int)), .int (lo1 + (j : Int))])) D (.lst (zs ++ [.ref p]))) := tups_lst (ys := zs) (by rw [upd_ne hne]; exact eD2)
      rw [rng_snoc lo1 j, List.map_append, ← List.append_assoc]
      exact Paired.snoc (hz2.up (t1.trans t2)) ⟨p, rfl, t2 _ _ upd_same⟩
    · have : j = n1 := Nat.le_antisymm hj h'
      subst this
      refine .inl ⟨Nat.le_refl _, h, sm2, zs, eD2, ?_⟩
      rw [rng_snoc lo i, List.flatMap_append, List.flatMap_cons, List.flatMap_nil, List.append_nil]
      exact hz2
  · have : i = n := Nat.le_antisymm hi h
    subst this
    exact .inl ⟨Nat.le_refl _, hd H ys sm eD hy⟩
end Sf

/-! laid. -/
namespace Sf
open PySem PySem.Spec PyProof.Rows L2
theorem none_of_same {H H' : Hp} {p : Addr} (s : Same H H') (h : H' p = none) : H p = none := by
  cases e : H p with
  | none => rfl
  | some o => exact absurd ((s _ _ e).symm.trans h) (by simp)
theorem pi_or {X : Cx} {tg e : Expr} {w1 w2 : TI} (h1 : PI X tg e w1) (h2 : PI X tg e w2) : PI X tg e (fun σ H R => w1 σ H R ∨ w2 σ H R) := ⟨fun pins s σ H R I h => h.elim (h1.run pins s σ H R I) (h2.run pins s σ H R I)⟩
/-- a tuple or a list of cells -/
def CellsS (H : Hp) (a : Addr) (cs : List Cel) : Prop := CellsT H a cs ∨ CellsL H a cs
theorem CellsS.up {H H' : Hp} (s : Same H H') {a : Addr} {cs : List Cel} (h : CellsS H a cs) : CellsS H' a cs := h.elim (fun h => .inl (h.up (Same.tups s))) (fun h => .inr (h.up s))
theorem or_cells {K : PySem.W.Frag} {te : TE} {σ : L2.St} {H : Hp} {R : It → Hp → Prop} {a : Addr} {cs : List Cel} (hc : CellsS H a cs) (ht : ∀ Q : VK, Q (.ref a) H → te σ H Q) (key : ∀ J, WL CellV J cs H → R J H) : iList K te σ H R ∨ iTup K te σ H R := by
  rcases hc with ⟨vs, e, h⟩ | ⟨vs, e, h⟩
  · exact .inr (ht _ ⟨a, rfl, ⟨vs, SqT.of e⟩, key _ (wl_tup upCell e h)⟩)
  · exact .inl (ht _ ⟨a, rfl, ⟨vs, SqL.of e⟩, key _ (wl_list upCell e h)⟩)
def IntV (_ : Hp) (v : V) (i : Int) : Prop := v = .int i
theorem upInt : Up IntV := fun _ _ _ _ _ h => h
theorem ints_map {H : Hp} : ∀ {vs : List V} {is : List Int}, Paired (IntV H) vs is → vs = is.map V.int
  | _, _, .nil => rfl
  | _, _, .cons q t => by rw [ints_map t, q]; rfl
theorem filter_t {α : Type} (l : List α) : l.filter (fun _ => true) = l := filter_all l
def shv (x y : Int) (c : Cel) : Cel := (c.1 + x, c.2 + y)
/-- spread less than this -/
def tight (m : Int) (cs : List Cel) : Prop := ∀ c ∈ cs, ∀ d ∈ cs, c.1 - d.1 ≤ m ∧ c.2 - d.2 ≤ m
def boxed (m : Int) (cs : List Cel) : Prop := ∀ c ∈ cs, (0 ≤ c.1 ∧ c.1 ≤ m) ∧ (0 ≤ c.2 ∧ c.2 ≤ m)
def Kept (cs kept : List Cel) : Prop := (∃ x y, kept.Perm (cs.map (shv x y))) ∧ boxed 1000 kept
section
variable {P : Program} {w : World} {K : PySem.W.Frag} {mg : Str → Option Value} {base : Heap}
theorem sc_laid : FnScope ["cells", "back", "x", "y", "cell"] ["cells"] (defScope (top 24)) := ⟨rfl, rfl, rfl, by decide +kernel, rfl, by decide +kernel, by decide +kernel⟩
def sp_laid : Sp := fun vs H Q _ => ∃ (a : Addr) (cs : List Cel), vs = [.ref a] ∧ CellsS H a cs ∧ cs ≠ [] ∧ cs.length ≤ 24 ∧ tight 1000 cs ∧ ∀ p H' kept, Same H H' → H p = none → CellsT H' p kept → Kept cs kept → Q (.ref p) H'
theorem cal_laid (B : Bi mg) (C1 : Cal P w K mg base 1 "brought" ["cell", "shove"] (sp_brought K)) (D : Def K mg "laid" (top 24) ["cells"]) : Cal P w K mg base 2 "laid" ["cells"] sp_laid := by
  refine D.cal sc_laid (fun vs H Q E h => ?_) (fun f cdv A outer s H vs Q E hr h => ?_)
  · obtain ⟨a, cs, rfl, _⟩ := h
    rfl
  · obtain ⟨a, cs, rfl, hcs, hne, h24, htt, q⟩ := h
    have hu := hu_of hr
    refine ⟨_, pss_cons (ps_set (i := 1) sc_laid.nd rfl (.inr rfl) (pe_tup
        (pa_cons (pe_un un_neg (pe_callB (cr_min rfl) (by rfl) B.min bt_min (pa_cons (pe_lc (own := [("x", 2), ("y", 3)]) (g := gTup K 2 (gCons (gName 2) (gCons (gName 3) gNil))) (tt := tYes) (by rfl) sc_laid.nd (pi_or (pi_list (pv 0)) (pi_tup (pv 0))) (blkOk_by (own := [("x", 2), ("y", 3)]) (N := ["cells", "back", "x", "y", "cell"]) (sc := defScope (top 24)) (by decide +kernel))
          (fun _ _ _ _ _ => pg_tup rfl (pgs_cons (pg_name (i := 2) sc_laid.nd rfl (.inl rfl)) (pgs_cons (pg_name (i := 3) sc_laid.nd rfl (.inl rfl)) pgs_nil))) (fun _ _ _ _ _ => pts_nil) (fun _ _ _ _ _ => pv 2)) pa_nil)))
        (pa_cons (pe_un un_neg (pe_callB (cr_min rfl) (by rfl) B.min bt_min (pa_cons (pe_lc (own := [("x", 2), ("y", 3)]) (g := gTup K 2 (gCons (gName 2) (gCons (gName 3) gNil))) (tt := tYes) (by rfl) sc_laid.nd (pi_or (pi_list (pv 0)) (pi_tup (pv 0))) (blkOk_by (own := [("x", 2), ("y", 3)]) (N := ["cells", "back", "x", "y", "cell"]) (sc := defScope (top 24)) (by decide +kernel))
          (fun _ _ _ _ _ => pg_tup rfl (pgs_cons (pg_name (i := 2) sc_laid.nd rfl (.inl rfl)) (pgs_cons (pg_name (i := 3) sc_laid.nd rfl (.inl rfl)) pgs_nil))) (fun _ _ _ _ _ => pts_nil) (fun _ _ _ _ _ => pv 3)) pa_nil))) pa_nil))))
      (pss_one (ps_ret (pe_callTy call_tuple_of (by rfl) B.tuple bt_tuple (pa_cons (pe_callB (cr_sortedD (R := CellV) (enc := cD) hr.units) (by rfl) B.sorted bt_sorted (pa_cons
        (pe_lc (own := [("cell", 4)]) (g := gName 4) (tt := tYes) (by rfl) sc_laid.nd (pi_or (pi_list (pv 0)) (pi_tup (pv 0))) (blkOk_by (own := [("cell", 4)]) (N := ["cells", "back", "x", "y", "cell"]) (sc := defScope (top 24)) (by decide +kernel))
          (fun _ _ _ _ _ => pg_name (i := 4) sc_laid.nd rfl (.inl rfl)) (fun _ _ _ _ _ => pts_nil) (fun _ _ _ _ _ => pe_callC C1 hr (by rfl) (pa_cons (pv 4) (pa_cons (pv 1) pa_nil)))) pa_nil)) pa_nil)))), ?_⟩
    have hz : cs.length ≤ sizeLine := Nat.le_trans h24 (by decide)
    have hpos : 0 < cs.length := List.length_pos_iff.mpr hne
    refine or_cells hcs (fun Q h => ⟨_, rfl, h⟩) fun J wk D nD => ?_
    refine lc_wl (F := IntV) wk nD upInt (fun _ => true) (fun c => c.1) hz ?_ ?_
    · rintro x c H' N N0 hc sm ⟨p, rfl, e⟩ hN _
      exact ⟨p, _, rfl, SqT.of e, rfl, _, _, rfl, _, _, rfl, rfl, rfl, _, rfl, hN _ _ rfl (Same.refl _) rfl⟩
    intro H1 ys s1 e1 hys
    rw [filter_t] at hys
    refine ⟨D, cs.map (fun c => c.1), rfl, SqL.of (by rw [e1, ints_map hys]), by rw [List.length_map]; exact hpos, fun m hm hle => ?_⟩
    refine ⟨m, rfl, ?_⟩
    refine or_cells (hcs.up s1) (fun Q h => ⟨_, rfl, h⟩) fun J2 wk2 D2 nD2 => ?_
    refine lc_wl (F := IntV) wk2 nD2 upInt (fun _ => true) (fun c => c.2) hz ?_ ?_
    · rintro x c H' N N0 hc sm ⟨p, rfl, e⟩ hN _
      exact ⟨p, _, rfl, SqT.of e, rfl, _, _, rfl, _, _, rfl, rfl, rfl, _, rfl, hN _ _ rfl (Same.refl _) rfl⟩
    intro H2 zs s2 e2 hzs
    rw [filter_t] at hzs
    refine ⟨D2, cs.map (fun c => c.2), rfl, SqL.of (by rw [e2, ints_map hzs]), by rw [List.length_map]; exact hpos, fun m2 hm2 hle2 => ?_⟩
    refine ⟨m2, rfl, by show 2 ≤ sizeLine; decide, fun pb nb => ?_⟩
    have s3 : Same H2 (upd H2 pb (.tup [.int (-m), .int (-m2)])) := same_new nb
    have eb : upd H2 pb (.tup [.int (-m), .int (-m2)]) pb = some (.tup [.int (-m), .int (-m2)]) := upd_same
    generalize upd H2 pb (.tup [.int (-m), .int (-m2)]) = H3 at s3 eb
    have s03 := (s1.trans s2).trans s3
    refine or_cells (hcs.up s03) (fun Q h => ⟨_, rfl, h⟩) fun J3 wk3 D3 nD3 => ?_
    refine lc_wl (F := CellV) wk3 nD3 upCell (fun _ => true) (shv (-m) (-m2)) hz ?_ ?_
    · rintro x c H' N N0 hc sm ⟨p, rfl, e⟩ hN _
      exact ⟨rfl, _, rfl, _, rfl, p, pb, c, (-m, -m2), rfl, SqT.of e, SqT.of (sm _ _ eb), fun p1 n1 => hN _ _ rfl (same_new n1) ⟨p1, rfl, upd_same⟩⟩
    intro H4 ws s4 e4 hws
    rw [filter_t] at hws
    refine ⟨D3, ws, cs.map (shv (-m) (-m2)), rfl, SqL.of e4, hws, fun x b _ h => h.dp, fun a ha b hb => ?_, ?_, ?_, fun us p hus np => ?_⟩
    · obtain ⟨a', _, rfl⟩ := List.mem_map.mp ha
      obtain ⟨b', _, rfl⟩ := List.mem_map.mp hb
      rfl
    · exact .inl fun d hd => by
        obtain ⟨c, _, rfl⟩ := List.mem_map.mp hd
        exact ⟨_, _, rfl⟩
    · intro b _
      exact cD_depth b
    have s5 : Same H4 (upd H4 p (.lst us)) := same_new np
    refine ⟨p, us, rfl, .inl ⟨SqL.of upd_same, fun p5 n5 => ?_⟩⟩
    have s6 : Same (upd H4 p (.lst us)) (upd (upd H4 p (.lst us)) p5 (.tup us)) := same_new n5
    have s06 := ((s03.trans s4).trans s5).trans s6
    refine q p5 _ _ s06 (none_of_same ((s03.trans s4).trans s5) n5) ⟨us, upd_same, CellVs.up ((Same.tups s5).trans (Same.tups s6)) hus⟩ ?_
    have hpm : ((cs.map (shv (-m) (-m2))).mergeSort (PySem.W.dataLe false cD)).Perm (cs.map (shv (-m) (-m2))) := List.mergeSort_perm _ _
    refine ⟨⟨-m, -m2, hpm⟩, fun c hc => ?_⟩
    obtain ⟨d, hd, rfl⟩ := List.mem_map.mp (hpm.mem_iff.mp hc)
    obtain ⟨d1, hd1, e1⟩ := List.mem_map.mp hm
    obtain ⟨d2, hd2, e2⟩ := List.mem_map.mp hm2
    have l1 := hle d.1 (List.mem_map.mpr ⟨d, hd, rfl⟩)
    have l2 := hle2 d.2 (List.mem_map.mpr ⟨d, hd, rfl⟩)
    have t1 := (htt d hd d1 hd1).1
    have t2 := (htt d hd d2 hd2).2
    show (0 ≤ d.1 + -m ∧ d.1 + -m ≤ 1000) ∧ (0 ≤ d.2 + -m2 ∧ d.2 + -m2 ≤ 1000)
    omega
end
end Sf

/-! is_one_piece, cells_around. -/
namespace Sf
open PySem PySem.Spec PyProof.Rows L2
/-- the module's SIDES -/
structure Sd (K : PySem.W.Frag) (mg : Str → Option Value) : Prop where
  ex : ∃ p vs, mg "SIDES" = some (.ref p) ∧ (∀ H, SqT K H p vs) ∧ ∀ v ∈ vs, ∃ q, ∃ c : Cel, v = .ref q ∧ ∀ H, SqT K H q [.int c.1, .int c.2]
theorem nodup_sub : ∀ {l m : List Cel}, l.Nodup → (∀ c ∈ l, c ∈ m) → l.length ≤ m.length := by
  intro l
  induction l with
  | nil => intro m _ _; exact Nat.zero_le _
  | cons x r ih =>
    intro m hn hs
    rw [List.nodup_cons] at hn
    have hx : x ∈ m := hs x List.mem_cons_self
    have h1 : (m.erase x).length = m.length - 1 := by rw [List.length_erase_of_mem hx]
    have h2 := ih (m := m.erase x) hn.2 (fun c hc => by
      have hne : c ≠ x := fun e => hn.1 (e ▸ hc)
      exact (List.mem_erase_of_ne hne).mpr (hs c (List.mem_cons_of_mem _ hc)))
    have h3 : 0 < m.length := List.length_pos_of_mem hx
    rw [List.length_cons]
    omega
theorem keys_cons {H : Hp} {kvs : List (List Key × V)} {bs : List Addr} {cs : List Cel} (hi : IsKeys H kvs bs) (hk : KeysC kvs cs) (hne : cs ≠ []) : ∃ b r c cr, bs = b :: r ∧ cs = c :: cr ∧ H b = some (.tup [.int c.1, .int c.2]) := by
  cases cs with
  | nil => exact absurd rfl hne
  | cons c cr =>
    cases hi with
    | nil => cases hk
    | cons q t =>
      rename_i kv b kvr br
      have h1 : kv.1 = keyC c := (List.cons.inj hk).1
      rw [h1] at q
      exact ⟨b, br, c, cr, rfl, rfl, q⟩
section
variable {P : Program} {w : World} {K : PySem.W.Frag} {mg : Str → Option Value} {base : Heap}
theorem sc_iop : FnScope ["cells", "first", "found", "at", "known", "side", "near"] ["cells"] (defScope (top 25)) := ⟨rfl, rfl, rfl, by decide +kernel, rfl, by decide +kernel, by decide +kernel⟩
def sp_iop : Sp := fun vs H Q _ => ∃ (a : Addr) (cs : List Cel), vs = [.ref a] ∧ DSet H a cs ∧ cs ≠ [] ∧ cs.length < sizeLine ∧ ∀ b H', Same H H' → Q (.bl b) H'
def atOf (σ : L2.St) : Nat := match σ[3]? with
  | some (some (V.int i)) => i.toNat
  | _ => 0
/-- what is kept while it looks around -/
def Iop (H0 : Hp) (cs : List Cel) (L Kd : Addr) (fs : List Cel) (H : Hp) : Prop := Same H0 H ∧ (∃ vs, H L = some (.lst vs) ∧ CellVs H vs fs) ∧ DSet H Kd fs ∧ fs.Nodup ∧ ∀ c ∈ fs, c ∈ cs
theorem cal_iop (B : Bi mg) (S : Sd K mg) (C1 : Cal P w K mg base 1 "brought" ["cell", "shove"] (sp_brought K)) (D : Def K mg "is_one_piece" (top 25) ["cells"]) : Cal P w K mg base 2 "is_one_piece" ["cells"] sp_iop := by
  refine D.cal sc_iop (fun vs H Q E h => ?_) (fun f cdv A outer s H vs Q E hr h => ?_)
  · obtain ⟨a, cs, rfl, _⟩ := h
    rfl
  · obtain ⟨a, cs, rfl, hd, hne, hz, q⟩ := h
    have hu := hu_of hr
    obtain ⟨sp, svs, hs1, hs2, hs3⟩ := S.ex
    refine ⟨_, pss_cons (ps_set (i := 1) sc_iop.nd rfl (.inl rfl) (pe_ix ix_list (pe_callTy (call_list_dT rfl) (by rfl) B.list bt_list (pa_cons (pv 0) pa_nil)) pe_int (fun _ _ => rfl)))
      (pss_cons (ps_par (i := 2) (j := 3) rfl sc_iop.nd rfl rfl (by decide) rfl rfl (pa_cons (pe_lst (pa_cons (pv 1) pa_nil)) (pa_cons pe_int pa_nil)) (by rfl) (by rfl))
      (pss_cons (ps_set (i := 4) sc_iop.nd rfl (.inl rfl) (pe_disp1 hu (pv 1) pe_bl))
      (pss_cons (ps_while PassesOwn.never (pt_cmp (pc_lt (pv 3) (pe_callB call_len_seq (by rfl) B.len bt_len (pa_cons (pv 2) pa_nil))))
        (pss_cons (ps_for PassesOwn.never rfl (pi_tup (pe_glob (v := .ref sp) (by rfl) hs1 rfl)) (pg_name (i := 5) sc_iop.nd rfl (.inl rfl))
          (pss_cons (ps_set (i := 6) sc_iop.nd rfl (.inl rfl) (pe_callC C1 hr (by rfl) (pa_cons (pe_ix ix_list (pv 2) (pv 3) (fun _ _ => rfl)) (pa_cons (pv 5) pa_nil))))
          (pss_one (ps_if (PW.pt (pw_and (pt_cmp (pc_din hu (pv 6) (pv 0))) (pw_and1 (pt_cmp (pc_dnotin hu (pv 6) (pv 4))))))
            (pss_cons (ps_dput hu (pv 4) (pv 6) pe_bl rfl) (pss_one (ps_expr (pe_bm PySem.F.plainAttrs_list PySem.F.slot_list_append PySem.F.type_list_append mt_append (pv 2) (pa_cons (pv 6) pa_nil))))) pss_nil))))
        (pss_one (ps_aug (i := 3) sc_iop.nd rfl (.inl rfl) pe_int ip_add))))
      (pss_one (ps_ret (pe_cmpR op_eq (pe_callB call_len_seq (by rfl) B.len bt_len (pa_cons (pv 2) pa_nil)) (pe_callB call_len_dT (by rfl) B.len bt_len (pa_cons (pv 0) pa_nil)) (nomark _))))))), ?_⟩
    obtain ⟨kvs, ed, hk⟩ := hd
    refine ⟨_, rfl, a, kvs, rfl, .inl ed, fun p bs np hi => ?_⟩
    have s1 : Same H (upd H p (.lst (bs.map V.ref))) := same_new np
    obtain ⟨b0, br, c0, cr, rfl, rfl, e0⟩ := keys_cons hi hk hne
    refine ⟨p, _, 0, .ref b0, rfl, rfl, SqL.of upd_same, atI_nat (j := 0) rfl, ?_⟩
    have e1 := s1 _ _ e0
    generalize upd H p (.lst ((b0 :: br).map V.ref)) = H1 at s1 e1
    refine ⟨_, rfl, by show 1 ≤ sizeLine; decide, fun L nL => ?_⟩
    have s2 : Same H1 (upd H1 L (.lst [.ref b0])) := same_new nL
    have eL : upd H1 L (.lst [.ref b0]) L = some (.lst [.ref b0]) := upd_same
    have nL0 := none_of_same s1 nL
    generalize upd H1 L (.lst [.ref b0]) = H2 at s2 eL
    have s02 := s1.trans s2
    have e2 := s2 _ _ e1
    refine ⟨_, _, rfl, ?_⟩
    intro Kd nK
    refine ⟨_, rfl, keyC c0, b0, rfl, (same_new nK) _ _ e2, upd_same, ?_⟩
    have hKL : L ≠ Kd := ne_of_none eL nK
    have nK0 := none_of_same s02 nK
    have s4 : Same H (upd (upd H2 Kd (.dT [])) Kd (.dT [(keyC c0, .bl true)])) := same_own (same_own s02 nK0) nK0
    refine while_by (fun σ H' => ∃ (at_ : Nat) (y5 y6 : Option V) (fs : List Cel), σ = [some (.ref a), some (.ref b0), some (.ref L), some (.int at_), some (.ref Kd), y5, y6] ∧ at_ ≤ fs.length ∧ Iop H (c0 :: cr) L Kd fs H') (fun σ _ => (c0 :: cr).length - atOf σ) ?_ ?_ ?_
    · refine ⟨0, none, none, [c0], rfl, Nat.zero_le _, s4, ⟨[.ref b0], ?_, .cons ⟨b0, rfl, ?_⟩ .nil⟩, ⟨_, upd_same, rfl⟩, nodup_one _, fun c hc => ?_⟩
      · rw [upd_ne hKL, upd_ne hKL]
        exact eL
      · have : b0 ≠ Kd := ne_of_none e2 nK
        rw [upd_ne this, upd_ne this]
        exact e2
      · rw [List.mem_singleton] at hc
        subst hc
        exact List.mem_cons_self
    · rintro σ H' ⟨at_, y5, y6, fs, rfl, hat, sm, ⟨vs, eL', hvs⟩, hdk, hnd, hsub⟩
      have hl := paired_len hvs
      refine ⟨_, rfl, _, rfl, L, vs, rfl, .inl (SqL.of eL'), _, _, rfl, rfl, ?_⟩
      have hle : fs.length ≤ (c0 :: cr).length := nodup_sub hnd hsub
      by_cases hlt : at_ < fs.length
      · have ht : decide (((at_ : Nat) : Int) < ((vs.length : Nat) : Int)) = true := decide_eq_true (by omega)
        refine ⟨true, congrArg V.bl ht, iteT ?_⟩
        refine ⟨sp, rfl, ⟨svs, hs2 _⟩, for_it (walk_tup (K := K) (a := sp) (xs := svs)) (fun i σ H2 => ∃ (y5 y6 : Option V) (fs : List Cel), σ = [some (.ref a), some (.ref b0), some (.ref L), some (.int at_), some (.ref Kd), y5, y6] ∧ at_ < fs.length ∧ Iop H (c0 :: cr) L Kd fs H2) ⟨y5, y6, fs, rfl, hlt, sm, ⟨vs, eL', hvs⟩, hdk, hnd, hsub⟩ (fun i σ H2 _ _ => hs2 H2) ?_ ?_⟩
        · rintro i x σ H2 H2' hi ⟨y5, y6, fs, rfl, hlt, sm, ⟨vs, eL', hvs⟩, ⟨kks, eK, hkk⟩, hnd, hsub⟩ ⟨rfl, hx⟩
          obtain ⟨sq, sc, rfl, hsq⟩ := hs3 x (List.mem_of_getElem? hx)
          obtain ⟨c, hc⟩ : ∃ c, fs[at_]? = some c := ⟨_, List.getElem?_eq_getElem hlt⟩
          obtain ⟨v, hv, pv, rfl, ev⟩ := Paired.at2 hvs hc
          refine ⟨_, rfl, _, rfl, L, vs, at_, .ref pv, rfl, rfl, SqL.of eL', atI_nat (j := at_) hv, _, rfl, pv, sq, c, sc, rfl, SqT.of ev, hsq _, fun pn nn => ?_⟩
          have s6 : Same H2' (upd H2' pn (.tup [.int (c.1 + sc.1), .int (c.2 + sc.2)])) := same_new nn
          have en : upd H2' pn (.tup [.int (c.1 + sc.1), .int (c.2 + sc.2)]) pn = some (.tup ((keyC (c.1 + sc.1, c.2 + sc.2)).map kV)) := upd_same
          generalize hn : ((c.1 + sc.1, c.2 + sc.2) : Cel) = n at en
          generalize upd H2' pn (.tup [.int (c.1 + sc.1), .int (c.2 + sc.2)]) = H5 at s6 en
          have sm5 := sm.trans s6
          have eL5 := s6 _ _ eL'
          have eK5 := s6 _ _ eK
          have hvs5 := CellVs.up (Same.tups s6) hvs
          refine ⟨_, rfl, _, rfl, a, _, rfl, DGet.t (sm5 _ _ ed) en, _, rfl, ?_⟩
          by_cases h1 : (valV kvs (keyC n)).isSome = true
          · rw [h1]
            refine iteT ?_
            refine ⟨_, rfl, _, rfl, Kd, _, rfl, DGet.t eK5 en, _, rfl, ?_⟩
            have hin : n ∈ c0 :: cr := by
              rw [keys_val hk] at h1
              exact of_decide_eq_true h1
            by_cases h2 : n ∈ fs
            · have h3 : (!(valV kks (keyC n)).isSome) = false := by rw [keys_val hkk, decide_eq_true h2]; rfl
              rw [h3]
              refine iteF ?_
              exact ⟨some (.ref sq), some (.ref pn), fs, rfl, hlt, sm5, ⟨vs, eL5, hvs5⟩, ⟨kks, eK5, hkk⟩, hnd, hsub⟩
            · have h3 : (!(valV kks (keyC n)).isSome) = true := by rw [keys_val hkk, decide_eq_false h2]; rfl
              rw [h3]
              refine iteT ?_
              have hle5 : fs.length ≤ (c0 :: cr).length := nodup_sub hnd hsub
              have hkl := keys_len hkk
              have hvl := paired_len hvs5
              refine ⟨_, rfl, _, rfl, Kd, _, rfl, DPut.t eK5 en (by omega), ?_⟩
              have hLK : L ≠ Kd := fun e => by
                rw [e] at eL5
                rw [eK5] at eL5
                cases eL5
              have eL6 : upd H5 Kd (.dT (putK kks (keyC n) (.bl true))) L = some (.lst vs) := by rw [upd_ne hLK]; exact eL5
              refine ⟨_, rfl, .inl ⟨rfl, vs, SqL.of eL6⟩, _, rfl, L, vs, _, rfl, rfl, eL6, by omega, ?_⟩
              have t1 : Tups H5 (upd H5 Kd (.dT (putK kks (keyC n) (.bl true)))) := tups_dT eK5
              have t2 : Tups (upd H5 Kd (.dT (putK kks (keyC n) (.bl true)))) (upd (upd H5 Kd (.dT (putK kks (keyC n) (.bl true)))) L (.lst (vs ++ [.ref pn]))) := tups_lst (by rw [upd_ne hLK]; exact eL5)
              refine ⟨some (.ref sq), some (.ref pn), fs ++ [n], rfl, by rw [List.length_append]; omega, same_own (same_own sm5 nK0) nL0, ⟨_, upd_same, Paired.snoc (CellVs.up (t1.trans t2) hvs5) ⟨pn, rfl, (t1.trans t2) _ _ en⟩⟩, ⟨_, by rw [upd_ne hLK.symm]; exact upd_same, ?_⟩, ?_, ?_⟩
              · have := keys_put hkk n (.bl true)
                unfold addC at this
                rwa [if_neg h2] at this
              · rw [List.nodup_append]
                refine ⟨hnd, nodup_one _, fun x hx y hy => ?_⟩
                rw [List.mem_singleton] at hy
                rintro rfl
                subst hy
                exact h2 hx
              · intro x hx
                rcases List.mem_append.mp hx with hx | hx
                · exact hsub x hx
                · rw [List.mem_singleton] at hx
                  subst hx
                  exact hin
          · rw [Bool.not_eq_true _ |>.mp h1]
            refine iteF (iteF ?_)
            exact ⟨some (.ref sq), some (.ref pn), fs, rfl, hlt, sm5, ⟨vs, eL5, hvs5⟩, ⟨kks, eK5, hkk⟩, hnd, hsub⟩
        · rintro σ H2 ⟨y5, y6, fs2, rfl, hlt2, io⟩
          have hle2 : fs2.length ≤ (c0 :: cr).length := nodup_sub io.2.2.2.1 io.2.2.2.2
          refine ⟨_, rfl, _, _, rfl, rfl, ⟨at_ + 1, y5, y6, fs2, rfl, hlt2, io⟩, ?_⟩
          show (c0 :: cr).length - ((at_ : Int) + 1).toNat < (c0 :: cr).length - ((at_ : Int)).toNat
          omega
      · have ht : decide (((at_ : Nat) : Int) < ((vs.length : Nat) : Int)) = false := decide_eq_false (by omega)
        refine ⟨false, congrArg V.bl ht, iteF ?_⟩
        refine ⟨_, rfl, L, vs, rfl, .inl (SqL.of eL'), _, rfl, a, kvs, rfl, sm _ _ ed, rfl, q _ H' sm⟩
    · rintro σ H' Q Q' hq ⟨v, e1, v2, e2, p, ys, e3, e4, i, j, e5, e6, c, e7, h⟩
      exact ⟨v, e1, v2, e2, p, ys, e3, e4, i, j, e5, e6, c, e7, hq _ _ h⟩
theorem sc_around : FnScope ["cells", "wide", "high", "block", "x", "y", "cell"] ["cells", "wide", "high"] (defScope (top 26)) := ⟨rfl, rfl, rfl, by decide +kernel, rfl, by decide +kernel, by decide +kernel⟩
def sp_around : Sp := fun vs H Q _ => ∃ (a : Addr) (cs : List Cel) (wi hi : Int), vs = [.ref a, .int wi, .int hi] ∧ DSet H a cs ∧ (1 ≤ wi ∧ wi ≤ 1001) ∧ (1 ≤ hi ∧ hi ≤ 1001) ∧ (-1, -1) ∉ cs ∧ ∀ p H' ds, Same H H' → DSet H' p ds → ds ≠ [] → ds.length < sizeLine → Q (.ref p) H'
theorem cal_around (B : Bi mg) (D : Def K mg "cells_around" (top 26) ["cells", "wide", "high"]) : Cal P w K mg base 1 "cells_around" ["cells", "wide", "high"] sp_around := by
  refine D.cal sc_around (fun vs H Q E h => ?_) (fun f cdv A outer s H vs Q E hr h => ?_)
  · obtain ⟨a, cs, wi, hi, rfl, _⟩ := h
    rfl
  · obtain ⟨a, cs, wi, hi, rfl, hd, bw, bh, hout, q⟩ := h
    have hu := hu_of hr
    refine ⟨_, pss_cons (ps_setLc2 (i := 3) (own := [("x", 4), ("y", 5)]) (vs1 := [5]) (g := gName 4) (g1 := gName 5) (tt := tYes) (tt1 := tYes) (by rfl) sc_around.nd rfl rfl (sw_true rfl rfl rfl (by decide +kernel))
        (pi_range2 (by rfl) B.range (pa_cons (pe_un un_neg pe_int) (pa_cons (pe_op op_add (pv 1) pe_int) pa_nil)))
        (blkOk_by (own := [("x", 4), ("y", 5)]) (N := ["cells", "wide", "high", "block", "x", "y", "cell"]) (sc := defScope (top 26)) (by decide +kernel)) (by decide)
        (fun _ _ _ _ _ => pg_name (i := 4) sc_around.nd rfl (.inl rfl)) (fun _ _ _ _ _ => pts_nil)
        (fun _ _ _ _ _ => pi_range2 (by rfl) B.range (pa_cons (pe_un un_neg pe_int) (pa_cons (pe_op op_add (pv 2) pe_int) pa_nil)))
        (fun _ _ _ _ _ => pg_name (i := 5) sc_around.nd rfl (.inl rfl)) (fun _ _ _ _ _ => pts_nil)
        (fun _ _ _ _ _ => pe_tup (pa_cons (pv 4) (pa_cons (pv 5) pa_nil))))
      (pss_one (ps_ret (pe_dcT (own := [("cell", 6)]) (g := gName 6) hu (by rfl) sc_around.nd (pi_list (pv 3)) (blkOk_by (own := [("cell", 6)]) (N := ["cells", "wide", "high", "block", "x", "y", "cell"]) (sc := defScope (top 26)) (by decide +kernel))
          (fun _ _ _ _ _ => pg_name (i := 6) sc_around.nd rfl (.inl rfl)) (fun _ _ _ _ _ => pts_one (pt_cmp (pc_dnotin hu (pv 6) (pv 0)))) (fun _ _ _ _ _ => pv 6) (fun _ _ _ _ _ => pe_bl)))), ?_⟩
    refine ⟨1, rfl, _, rfl, _, _, rfl, rfl, -1, wi + 1, rfl, by omega, fun D nD => ?_⟩
    have hlines : (wi + 1 - -1).toNat * (hi + 1 - -1).toNat ≤ 1003 * 1003 := Nat.mul_le_mul (by omega) (by omega)
    have hsz : (1003 * 1003 : Nat) < sizeLine := by rw [sizeLine_eq]; decide
    refine lc2_grid nD (by omega) (fun x σ2 => σ2 = [some (.ref a), some (.int wi), some (.int hi), none, some (.int x), none, none]) (lo1 := -1) (n1 := (hi + 1 - -1).toNat) ?_ ?_ ?_ ?_
    · intro x H' R N0 h
      exact ⟨rfl, h _ rfl⟩
    · rintro x σ2 H' R rfl sm h
      exact ⟨1, rfl, _, rfl, _, _, rfl, rfl, -1, hi + 1, rfl, by omega, h⟩
    · rintro x y σ2 H' N N0 rfl h
      exact ⟨rfl, _, rfl, _, rfl, by show 2 ≤ sizeLine; decide, h⟩
    intro H1 ys s1 e1 hys
    refine ⟨_, rfl, D, rfl, ⟨ys, SqL.of e1⟩, fun Dk nK => ?_⟩
    obtain ⟨kvs, ed, hk⟩ := hd
    have hln : (((rng (-1) (wi + 1 - -1).toNat).flatMap fun x => (rng (-1) (hi + 1 - -1).toNat).map fun y => ((x, y) : Cel))).length = (wi + 1 - -1).toNat * (hi + 1 - -1).toNat := by
      rw [List.length_flatMap]
      have : (List.map (fun x => List.length ((rng (-1) (hi + 1 - -1).toNat).map fun y => ((x, y) : Cel))) (rng (-1) (wi + 1 - -1).toNat)) = List.replicate (wi + 1 - -1).toNat (hi + 1 - -1).toNat := by
        rw [List.eq_replicate_iff]
        refine ⟨by rw [List.length_map, rng_len], fun b hb => ?_⟩
        obtain ⟨x, _, rfl⟩ := List.mem_map.mp hb
        rw [List.length_map, rng_len]
      rw [this, List.sum_replicate_nat]
    have hm : ((-1, -1) : Cel) ∈ ((rng (-1) (wi + 1 - -1).toNat).flatMap fun x => (rng (-1) (hi + 1 - -1).toNat).map fun y => ((x, y) : Cel)) := by
      refine List.mem_flatMap.mpr ⟨-1, List.mem_map.mpr ⟨0, List.mem_range.mpr (by omega), rfl⟩, List.mem_map.mpr ⟨-1, List.mem_map.mpr ⟨0, List.mem_range.mpr (by omega), rfl⟩, rfl⟩⟩
    generalize ((rng (-1) (wi + 1 - -1).toNat).flatMap fun x => (rng (-1) (hi + 1 - -1).toNat).map fun y => ((x, y) : Cel)) = bl at hys hln hm
    refine dc_wl (wl_list upCell e1 hys) nK (fun c => !decide (c ∈ cs)) id (by omega) (fun σ H Q h => h) ?_ ?_
    · rintro x c H' N N0 hc sm hv hN hN0
      obtain ⟨p, rfl, ep⟩ := hv
      refine ⟨rfl, _, rfl, _, rfl, a, _, rfl, DGet.t (k := keyC c) ((s1.trans sm) _ _ ed) ep, _, rfl, ?_⟩
      rw [keys_val hk]
      by_cases hcs : c ∈ cs
      · rw [decide_eq_true hcs]
        exact iteF (hN0 _ (by rw [decide_eq_true hcs]; rfl) (Same.refl _))
      · rw [decide_eq_false hcs]
        exact iteT ⟨_, rfl, hN _ _ _ (by rw [decide_eq_false hcs]; rfl) (Same.refl _) ⟨p, rfl, ep⟩⟩
    intro H2 s2 hds
    rw [List.map_id] at hds
    obtain ⟨f1, f2, f3, _⟩ := ddC_facts (bl.filter fun c => !decide (c ∈ cs))
    refine q Dk H2 _ (s1.trans s2) hds (fun e => ?_) ?_
    · have : ((-1, -1) : Cel) ∈ ddC (bl.filter fun c => !decide (c ∈ cs)) := (f2 _).mpr (List.mem_filter.mpr ⟨hm, by rw [decide_eq_false hout]; rfl⟩)
      rw [e] at this
      exact List.not_mem_nil this
    · have := List.length_filter_le (fun c => !decide (c ∈ cs)) bl
      omega
end
end Sf

/-! name = {k: v for ..}, the keys tuples. -/
namespace Sf
open PySem PySem.Spec PyProof.Rows L2
section
variable {X : Cx}
theorem dcT_core {pins : List (Addr × Obj)} {s : Shared} {σ : L2.St} {H : Hp} {Q : VK} {use : Option (Value → Sem Unit)} {Qf : Value → Shared → Prop} {pos' : Pos} {kx vx tg iter : Expr} {ifs : List Expr} {scope : Scope} {own : List (Str × Nat)} {pos : Pos} {wi : TI} {g : TG} {tt : TT} {tk tv : TE} (hu : X.A.units + 1 < cLine) (hc : X.calm = true) (hN : X.N.Nodup) (I : Inv X pins σ H s) (hi : PI X tg iter wi) (ok : BlkOk X.N X.env.scope scope own)
    (hg : ∀ (s : Shared) (H : Hp) (C : Addr) (cl : List (Str × Addr)) (fp : List Addr), PG (X.blk s H scope (compEnvC scope cl C X.env) fp) tg g) (ht : ∀ (s : Shared) (H : Hp) (C : Addr) (cl : List (Str × Addr)) (fp : List Addr), PTs (X.blk s H scope (compEnvC scope cl C X.env) fp) ifs tt)
    (hk : ∀ (s : Shared) (H : Hp) (C : Addr) (cl : List (Str × Addr)) (fp : List Addr), PE (X.blk s H scope (compEnvC scope cl C X.env) fp) kx tk)
    (he : ∀ (s : Shared) (H : Hp) (C : Addr) (cl : List (Str × Addr)) (fp : List Addr), PE (X.blk s H scope (compEnvC scope cl C X.env) fp) vx tv) (hs : ∀ x, foldedSetIterable iter X.env x = pure x)
    (h : tDcT wi g tt tk tv (own.map (·.2)) σ H Q)
    (hRR : ∀ D C s' m H', Inv X pins σ H' s' → Q (.ref D) H' → s'.heap.Ns C m → FpOk X pins H' C → compPost (model X.prog X.w) X.A X.xe use Qf (.ref D) C (.ok .next) s') :
    wpAny (model X.prog X.w) X.A (comprehension (.DictComp kx vx [⟨tg, iter, ifs, 0⟩] scope pos) scope X.env pos' newDict false (eval iter X.env) use) Qf X.xe s := by
  have hfree : ∀ y ∈ scope.names, y.2 = .free → ∃ c, X.env.cells.lookup y.1 = some c := fun y hy e => (ok.free y hy e).elim (fun k => I.ok.has _ (.inl k)) fun k => I.ok.has _ (.inr k)
  refine wpAny_comprehension_free (use := use) rfl hs (closure_ok hfree) ok.kind (fun y hy e => by rw [ok.uniq y hy, e]) (thn (hi.run pins s σ H _ I h) fun xv s1 hx => thn hx fun itv s2 h2 => ?_)
  obtain ⟨it, fp, tn, J, H2, rfl, I2, T, st2, f2, q⟩ := h2
  refine wpAny_newObj_type (newEnv_comp ?_)
  generalize hD : s2.heap.objs.size = D
  have hDn : H2 D = none := I2.hok.fresh (Nat.le_of_eq hD)
  obtain ⟨W, ⟨m0, w0⟩, turn⟩ := q D hDn
  generalize hs3 : ({ s2 with heap := s2.heap.push { cls := .type "dict", data := .dict #[] } } : Shared) = s3
  have h3 : s3.heap = s2.heap.push { cls := .type "dict", data := .dict #[] } := by rw [← hs3]
  have I3 : Inv X pins σ (upd H2 D (.dT [])) s3 := by
    rw [← hs3]
    refine I2.laid (t' := s2.toks) (fun b o e => Heap.get?_push_of_some _ e) (Nat.le_of_eq hD) ?_
    rw [← hD]
    exact dt_empty s2.heap I2.big
  have sz : ∀ b ∈ fp, b < s2.heap.objs.size := fun b hb => let ⟨_, e, _⟩ := T.obj _ _ st2 b hb; Heap.lt_size e
  have f3 : ∀ b ∈ fp, FpOk X pins (upd H2 D (.dT [])) b ∧ b < s3.heap.objs.size := fun b hb => by
    have hlt := sz b hb
    refine ⟨⟨?_, (f2 b hb).2⟩, ?_⟩
    · rw [upd_ne (by rw [← hD]; exact Nat.ne_of_lt hlt)]
      exact (f2 b hb).1
    · rw [h3, Heap.size_push]
      exact Nat.lt_succ_of_lt hlt
  have st3 : tn 0 s3.heap := T.keep _ _ _ st2 fun b _ o e => by
    rw [h3]
    exact Heap.get?_push_of_some _ e
  have I4 := block_start I3 ok hN f3
  have pg := hg s3 (upd H2 D (.dT [])) s3.heap.objs.size (cellsFrom (s3.heap.objs.size + 1) scope.names (cloFrom X.env.cells scope.names [])) fp
  have pt := ht s3 (upd H2 D (.dT [])) s3.heap.objs.size (cellsFrom (s3.heap.objs.size + 1) scope.names (cloFrom X.env.cells scope.names [])) fp
  have pk := hk s3 (upd H2 D (.dT [])) s3.heap.objs.size (cellsFrom (s3.heap.objs.size + 1) scope.names (cloFrom X.env.cells scope.names [])) fp
  have pe := he s3 (upd H2 D (.dT [])) s3.heap.objs.size (cellsFrom (s3.heap.objs.size + 1) scope.names (cloFrom X.env.cells scope.names [])) fp
  show codeAny _ _ (.compStart (.DictComp kx vx [⟨tg, iter, ifs, 0⟩] scope pos) 0 (.ref it) (.ref D) (compEnvC scope (cellsFrom (s3.heap.objs.size + 1) scope.names (cloFrom X.env.cells scope.names [])) s3.heap.objs.size X.env)) (compPost (model X.prog X.w) X.A X.xe use Qf (.ref D) s3.heap.objs.size) { s3 with heap := pushCells (s3.heap.push { cls := .type "dict", data := .dict #[] }) scope.names }
  have nfp : ∀ b ∈ fp, (upd H2 D (.dT [])) b = none := fun b hb => (f3 b hb).1.1
  generalize hce : compEnvC scope (cellsFrom (s3.heap.objs.size + 1) scope.names (cloFrom X.env.cells scope.names [])) s3.heap.objs.size X.env = ce at I4 pg pt pk pe ⊢
  have cL : ce.locals = s3.heap.objs.size := by
    subst hce
    rfl
  generalize hH3 : upd H2 D (.dT []) = H3 at I3 I4 pg pt pk pe w0 nfp f3
  generalize hs4 : ({ s3 with heap := pushCells (s3.heap.push { cls := .type "dict", data := .dict #[] }) scope.names } : Shared) = s4 at I4 ⊢
  have st4 : tn 0 s4.heap := T.keep _ _ _ st3 fun b _ o e => by
    rw [← hs4]
    exact pushCells_keeps _ _ _ _ (Heap.get?_push_of_some _ e)
  have stat : ∀ {σ' : L2.St} {H' : Hp} {s' : Shared}, Inv (X.blk s3 H3 scope ce fp) [] σ' H' s' → (∀ b ∈ fp, H' b = none) → ∀ b ∈ fp, FpOk (X.blk s3 H3 scope ce fp) [] H' b := fun {σ' H' s'} I' hn b hb =>
    ⟨hn b hb, (I'.ok.exf b hb).1, I'.ok.exfs b hb, .inl hb, fun x c e => (I'.ok.exf b hb).2 x c e, fun p hp => absurd hp List.not_mem_nil⟩
  have loop : codeAny (model X.prog X.w) X.A (.compLoop (.DictComp kx vx [⟨tg, iter, ifs, 0⟩] scope pos) 0 (.ref it) (.ref D) ce) (compPost (model X.prog X.w) X.A X.xe use Qf (.ref D) s3.heap.objs.size) s4 := by
    refine compLoop_anyD (fun n s' => ∃ i H', Inv (X.blk s3 H3 scope ce fp) [] (wipe σ (own.map (·.2))) H' s' ∧ tn i s'.heap ∧ (∀ b ∈ fp, H' b = none) ∧ W i n H') ?_ m0 ⟨0, H3, I4, st4, nfp, w0⟩
    rintro n s5 ⟨i, H5, I5, st5, n5, w5⟩
    rcases turn i n H5 w5 with ⟨stop, qq⟩ | ⟨go, Nx, hNx, step⟩
    · refine thnF (T.done (X.blk s3 H3 scope ce fp) rfl rfl rfl hc i [] s5 _ H5 (fun _ _ => False) I5 (stat I5 n5) st5 stop) fun r s6 ⟨hr, I6⟩ => ?_
      subst hr
      have I7 : Inv X pins σ H5 s6 := I3.call' (ch := fp) I6.os I6.base I6.hok I6.bare fun b hb => ⟨(f3 b hb).1.2.2.2.1, (f3 b hb).1.2.1, (f3 b hb).1.2.2.2.2.1, (f3 b hb).1.2.2.2.2.2⟩
      have nC : H5 s3.heap.objs.size = none := by
        have z : H5 ce.locals = none := I6.free
        rwa [cL] at z
      obtain ⟨m, hn, _⟩ := I6.loc
      have hn2 : s6.heap.Ns s3.heap.objs.size m := by
        rw [← cL]
        exact hn
      exact hRR D _ s6 m H5 I7 qq hn2 (I3.fpOk (Nat.le_refl _) nC)
    · refine thnF (T.item (X.blk s3 H3 scope ce fp) rfl rfl rfl hc i [] s5 _ H5 (fun _ _ => False) I5 (stat I5 n5) st5 go) fun r s6 ⟨u, hr, h6⟩ => ?_
      subst hr
      refine thnF h6 fun _ s7 ⟨x, H7, I7, r7, y7, st7, n7⟩ => ?_
      have I7' := I7.pinned (stat I7 n7) (T.obj _ _ st7)
      refine thnF (pg.run _ s7 _ H7 x u _ I7' r7 (step x H7 y7)) fun _ s8 ⟨σ8, H8, I8, hw8, q8⟩ => ?_
      refine thnF (pt.run _ s8 σ8 H8 _ I8 q8) fun c s9 ⟨H9, I9, q9⟩ => ?_
      have fin : ∀ {s' : Shared} {H' : Hp}, Inv (X.blk s3 H3 scope ce fp) ([] ++ pinsAt fp s7.heap) σ8 H' s' → Nx H' → ∃ m, m < n ∧ ∃ i H', Inv (X.blk s3 H3 scope ce fp) [] (wipe σ (own.map (·.2))) H' s' ∧ tn i s'.heap ∧ (∀ b ∈ fp, H' b = none) ∧ W i m H' := fun {s' H'} I' nx => by
        obtain ⟨m', hm, w'⟩ := hNx H' nx
        have pin' : ∀ b ∈ fp, ∀ o, s7.heap.get? b = some o → s'.heap.get? b = some o ∧ H' b = none := fun b hb o e =>
          let z := I'.pin (b, o) (List.mem_append_right _ (List.mem_append_right _ (mem_pinsAt hb e)))
          ⟨z.1, z.2.1⟩
        have hl : (wipe σ (own.map (·.2))).length = σ8.length := by rw [← hw8, wipe_length]
        refine ⟨m', hm, i + 1, H', (I'.unpinned (pins := [])).weak hl (fun j v e => ?_), T.keep _ _ _ st7 fun b hb o e => (pin' b hb o e).1, fun b hb => ?_, w'⟩
        · rw [← hw8] at e
          exact (wipe_some e).1
        · obtain ⟨o, e, _⟩ := T.obj _ _ st7 b hb
          exact (pin' b hb o e).2
      cases c with
      | false => exact fin I9 q9
      | true =>
        refine thnF (pk.run _ s9 σ8 H9 _ I9 q9) fun z s10 ⟨yk, H10, I10, r10, q10⟩ => ?_
        refine thnF (pe.run _ s10 σ8 H10 _ I10 q10) fun z2 s11 ⟨yv, H11, I11, r11, kvs, k, b, ek, eb, hD11, hz11, nx⟩ => ?_
        subst ek
        obtain rfl : z = .ref b := r10
        exact set_dT (X := X.blk s3 H3 scope ce fp) hu I11 hD11 hz11 eb r11 fun s12 I12 => fin I12 nx
  exact codeAny_compStart_dict loop (T.self X.A 0 _ _ _ st4 loop)

theorem ps_setDcT {i : Nat} {y : Str} {py : Pos} {kx vx tg iter : Expr} {ifs : List Expr} {scope : Scope} {own : List (Str × Nat)} {pos spos : Pos} {wi : TI} {g : TG} {tt : TT} {tk tv : TE} (hu : X.A.units + 1 < cLine) (hc : X.calm = true) (hN : X.N.Nodup) (hy : X.N[i]? = some y) (hyl : X.env.scope.names.lookup y = some .local)
    (hsw : swapsWith (.DictComp kx vx [⟨tg, iter, ifs, 0⟩] scope pos) (some (.Name y py)) spos.line X.env = pure true) (hi : PI X tg iter wi) (ok : BlkOk X.N X.env.scope scope own)
    (hg : ∀ (s : Shared) (H : Hp) (C : Addr) (cl : List (Str × Addr)) (fp : List Addr), PG (X.blk s H scope (compEnvC scope cl C X.env) fp) tg g) (ht : ∀ (s : Shared) (H : Hp) (C : Addr) (cl : List (Str × Addr)) (fp : List Addr), PTs (X.blk s H scope (compEnvC scope cl C X.env) fp) ifs tt)
    (hk : ∀ (s : Shared) (H : Hp) (C : Addr) (cl : List (Str × Addr)) (fp : List Addr), PE (X.blk s H scope (compEnvC scope cl C X.env) fp) kx tk)
    (he : ∀ (s : Shared) (H : Hp) (C : Addr) (cl : List (Str × Addr)) (fp : List Addr), PE (X.blk s H scope (compEnvC scope cl C X.env) fp) vx tv) (hs : ∀ x, foldedSetIterable iter X.env x = pure x := by intro _; rfl) :
    PS X (.Assign [.Name y py] (.DictComp kx vx [⟨tg, iter, ifs, 0⟩] scope pos) spos) (tAsg (tDcT wi g tt tk tv (own.map (·.2))) (gName i)) := by
  refine ⟨fun pins s σ H D I h => ?_⟩
  rw [exec_Assign_Name_used _ _ _ _ hsw]
  refine wpAny_bind (wpAny_standAt (wpAny_bind ?_))
  show wpAny _ X.A (do let _ ← comprehension (.DictComp kx vx [⟨tg, iter, ifs, 0⟩] scope pos) scope X.env (firstIterPos [⟨tg, iter, ifs, 0⟩] pos) newDict false (eval iter X.env) (some (assign (.Name y py) X.env))) _ _ s
  have h : tDcT wi g tt tk tv (own.map (·.2)) σ H (fun x H1 => gName i x σ H1 D.nx) := h
  refine wpAny_bind (thn (dcT_core (Qf := fun _ s' => SP X pins D .next s') hu hc hN I hi ok hg ht hk he hs h fun L C s' m H' I' q hn f => ?_) fun _ s' hq => wpAny_pure (wpAny_pure hq))
  show wpAny _ _ (assign (.Name y py) X.env (.ref L)) _ _ _
  refine wpAny_assign_Name (store_ok2 (v := V.ref L) I' hN hy (.inl hyl) rfl (fun s2 I2 ⟨a, sb, ha⟩ => ?_) (.inr hyl))
  obtain ⟨f0, f1, f2, f3, f4, f5⟩ := f
  have haC : C ≠ a := by
    rcases ha with z | z
    · rw [z]; exact f1
    · exact fun e => f4 y a z e.symm
  refine ⟨m, hn.sameBut sb haC, fun h3 sb3 => ?_⟩
  exact ⟨_, H', I2.turned (t' := s2.toks) (fun b o hb e => (sb3.2 b hb).trans e) f0 f1 f3 f4 f5, q⟩
theorem sw_trueD {kx vx : Expr} {gs : List Comprehension} {scope : Scope} {pos py : Pos} {y : Str} {l : Nat} {env : Env} (hk : env.scope.kind = .function) (hy : env.scope.names.lookup y = some .local) (hl : (py.line == pos.line) = true)
    (ha : (scope.names.any fun (n, k) => n == y && (k == .local || k == .cell)) = false) : swapsWith (.DictComp kx vx gs scope pos) (some (.Name y py)) l env = pure true := by
  have ky : env.kindOf y = some .local := hy
  have hb : env.blockKind = .function := by unfold Env.blockKind; rw [hk]; rfl
  unfold swapsWith
  simp only [hb, ky, ha, Expr.pos, hl]
  rfl
end
end Sf

/-! Shape.lay, Shape.__init__. -/
namespace Sf
open PySem PySem.Spec PyProof.Rows L2
/-- the class Shape -/
structure ShC (K : PySem.W.Frag) (mg : Str → Option Value) (C : Addr) : Prop where
  cl : Cls K C
  kept : NoAttr K C "kept"
  size : NoAttr K C "size"
  piece : NoAttr K C "in_piece"
  whole : NoAttr K C "in_whole"
  name : mg "Shape" = some (.ref C)
/-- a method of the class -/
structure MDef (K : PySem.W.Frag) (C : Addr) (m qual : Str) (st : Stmt) (ps : List Str) : Prop where
  ex : ∃ f fd, Fun K m qual st f fd ∧ Binds K fd ps [] ∧ Meth K C m f
structure MCal (P : Program) (w : World) (K : PySem.W.Frag) (mg : Str → Option Value) (base : Heap) (k : Nat) (C : Addr) (m : Str) (ps : List Str) (sp : Sp) : Prop where
  ex : ∃ f fd, FnOk P w K mg base CX0 k f fd ps sp ∧ Binds K fd ps [] ∧ Meth K C m f
theorem MCal.mono {P : Program} {w : World} {K : PySem.W.Frag} {mg : Str → Option Value} {base : Heap} {j k : Nat} {C : Addr} {m : Str} {ps : List Str} {sp : Sp} (h1 : MCal P w K mg base j C m ps sp) (h : j ≤ k) : MCal P w K mg base k C m ps sp :=
  let ⟨f, fd, F, r⟩ := h1.ex; ⟨f, fd, F.mono h, r⟩
theorem MDef.mcal {P : Program} {w : World} {K : PySem.W.Frag} {mg : Str → Option Value} {base : Heap} {k : Nat} {C : Addr} {m qual : Str} {st : Stmt} {N ps : List Str} {sp : Sp} (D : MDef K C m qual st ps) (S : FnScope N ps (defScope st)) (len : ∀ vs H Q E, sp vs H Q E → vs.length = ps.length)
    (hbody : ∀ (f : Addr) (cdv : Value) (A : Around) (outer : List Env) (s : Shared) (H : Hp) (vs : List V) (Q : VK) (E : XK), Room k (A.deeper (envOfC qual (defScope st) s.heap.objs.size f cdv)) → sp vs H Q E →
      ∃ t, PSs (cxOf CX0 P w K mg base N qual (defScope st) f cdv A outer s H E).nox (defBody st) t ∧ t { nx := fun _ H' => Q .non H', rt := Q } (start N vs) H) : MCal P w K mg base (k + 1) C m ps sp := by
  obtain ⟨f, fd, F, b, m⟩ := D.ex
  exact ⟨f, fd, F.ok S len (hbody f), b, m⟩
abbrev four : List Str := ["kept", "size", "in_piece", "in_whole"]
/-- only the object at x may differ -/
def SameX (x : Addr) (H H' : Hp) : Prop := ∀ b o, b ≠ x → H b = some o → H' b = some o
theorem SameX.trans {x : Addr} {H H1 H2 : Hp} (a : SameX x H H1) (b : SameX x H1 H2) : SameX x H H2 := fun c o n e => b c o n (a c o n e)
theorem SameX.of {x : Addr} {H H1 : Hp} (a : Same H H1) : SameX x H H1 := fun c o _ e => a c o e
theorem SameX.put {x : Addr} {H : Hp} {o : HO} : SameX x H (upd H x o) := fun c u n e => by
  rw [upd_ne n]
  exact e
theorem SameX.own {x : Addr} {H0 H H' : Hp} (s : Same H0 H) (n : H0 x = none) (h : SameX x H H') : Same H0 H' := fun b o e => h b o (ne_of_none e n) (s _ _ e)
theorem fld_ne {f g : Str} {v : V} {fs : List (Str × V)} (h : ¬ g = f) : (putF f v fs).lookup g = fs.lookup g := by rw [lookup_putF, if_neg h]
theorem fld_eq {f : Str} {v : V} {fs : List (Str × V)} : (putF f v fs).lookup f = some v := by rw [lookup_putF, if_pos rfl]
section
variable {P : Program} {w : World} {K : PySem.W.Frag} {mg : Str → Option Value} {base : Heap} {C : Addr}
abbrev sLay : Stmt := inClass (top 28) 1
theorem sc_lay : FnScope ["self", "cells", "own", "x", "y", "cell"] ["self", "cells"] (defScope sLay) := ⟨rfl, rfl, rfl, by decide +kernel, rfl, by decide +kernel, by decide +kernel⟩
def sp_lay (C : Addr) : Sp := fun vs H Q _ => ∃ (x a dx : Addr) (fs : List (Str × V)) (cs : List Cel), vs = [.ref x, .ref a] ∧ H x = some (.ins C dx fs) ∧ fs.length ≤ 100 ∧ CellsS H a cs ∧ cs ≠ [] ∧ cs.length ≤ 24 ∧ tight 1000 cs ∧
  ∀ (H' : Hp) (fs' : List (Str × V)) (t : Addr) (kept : List Cel), SameX x H H' → H' x = some (.ins C dx fs') → fs'.lookup ("kept" : Str) = some (V.ref t) → CellsT H' t kept → Kept cs kept → fs'.length ≤ fs.length + 4 → (∀ m, m ∉ four → fs.lookup m = none → fs'.lookup m = none) → Q .non H'
theorem kept_pos {cs kept : List Cel} (h : Kept cs kept) (hne : cs ≠ []) : kept ≠ [] := by
  obtain ⟨⟨x, y, hp⟩, _⟩ := h
  rintro rfl
  have := hp.length_eq
  rw [List.length_map] at this
  exact hne (List.length_eq_zero_iff.mp this.symm)
theorem kept_len {cs kept : List Cel} (h : Kept cs kept) : kept.length = cs.length := by
  obtain ⟨⟨x, y, hp⟩, _⟩ := h
  have := hp.length_eq
  rwa [List.length_map] at this
theorem ddC_ne {cs : List Cel} (h : cs ≠ []) : ddC cs ≠ [] := by
  obtain ⟨c, r, rfl⟩ := List.exists_cons_of_ne_nil h
  intro e
  have := ((ddC_facts (c :: r)).2.1 c).mpr List.mem_cons_self
  rw [e] at this
  exact List.not_mem_nil this
theorem mcal_lay (B : Bi mg) (S : ShC K mg C) (C1 : Cal P w K mg base 2 "laid" ["cells"] sp_laid) (C2 : Cal P w K mg base 2 "is_one_piece" ["cells"] sp_iop) (C3 : Cal P w K mg base 1 "cells_around" ["cells", "wide", "high"] sp_around) (D : MDef K C "lay" "Shape.lay" sLay ["self", "cells"]) : MCal P w K mg base 3 C "lay" ["self", "cells"] (sp_lay C) := by
  refine D.mcal sc_lay (fun vs H Q E h => ?_) (fun f cdv A outer s H vs Q E hr h => ?_)
  · obtain ⟨x, a, dx, fs, cs, rfl, _⟩ := h
    rfl
  · obtain ⟨x, a, dx, fs, cs, rfl, hx, hfs, hcs, hne, h24, htt, q⟩ := h
    have hu := hu_of hr
    refine ⟨_, pss_cons (ps_fld (pv 0) (pe_callC C1 hr (by rfl) (pa_cons (pv 1) pa_nil)) rfl)
      (pss_cons (ps_fld (pv 0) (pe_tup
        (pa_cons (pe_op op_add (pe_callB (cr_max rfl) (by rfl) B.max bt_max (pa_cons (pe_lc (own := [("x", 3), ("y", 4)]) (g := gTup K 2 (gCons (gName 3) (gCons (gName 4) gNil))) (tt := tYes) (by rfl) sc_lay.nd (pi_tup (pe_fld (pv 0) rfl)) (blkOk_by (own := [("x", 3), ("y", 4)]) (N := ["self", "cells", "own", "x", "y", "cell"]) (sc := defScope sLay) (by decide +kernel))
          (fun _ _ _ _ _ => pg_tup rfl (pgs_cons (pg_name (i := 3) sc_lay.nd rfl (.inl rfl)) (pgs_cons (pg_name (i := 4) sc_lay.nd rfl (.inl rfl)) pgs_nil))) (fun _ _ _ _ _ => pts_nil) (fun _ _ _ _ _ => pv 3)) pa_nil)) pe_int)
        (pa_cons (pe_op op_add (pe_callB (cr_max rfl) (by rfl) B.max bt_max (pa_cons (pe_lc (own := [("x", 3), ("y", 4)]) (g := gTup K 2 (gCons (gName 3) (gCons (gName 4) gNil))) (tt := tYes) (by rfl) sc_lay.nd (pi_tup (pe_fld (pv 0) rfl)) (blkOk_by (own := [("x", 3), ("y", 4)]) (N := ["self", "cells", "own", "x", "y", "cell"]) (sc := defScope sLay) (by decide +kernel))
          (fun _ _ _ _ _ => pg_tup rfl (pgs_cons (pg_name (i := 3) sc_lay.nd rfl (.inl rfl)) (pgs_cons (pg_name (i := 4) sc_lay.nd rfl (.inl rfl)) pgs_nil))) (fun _ _ _ _ _ => pts_nil) (fun _ _ _ _ _ => pv 4)) pa_nil)) pe_int) pa_nil))) rfl)
      (pss_cons (ps_setDcT (i := 2) (own := [("cell", 5)]) (g := gName 5) (tt := tYes) hu (by rfl) sc_lay.nd rfl rfl (sw_trueD rfl rfl rfl (by decide +kernel)) (pi_tup (pe_fld (pv 0) rfl)) (blkOk_by (own := [("cell", 5)]) (N := ["self", "cells", "own", "x", "y", "cell"]) (sc := defScope sLay) (by decide +kernel))
          (fun _ _ _ _ _ => pg_name (i := 5) sc_lay.nd rfl (.inl rfl)) (fun _ _ _ _ _ => pts_nil) (fun _ _ _ _ _ => pv 5) (fun _ _ _ _ _ => pe_bl))
      (pss_cons (ps_fld (pv 0) (pe_callC C2 hr (by rfl) (pa_cons (pv 2) pa_nil)) rfl)
      (pss_one (ps_fld (pv 0) (pe_and (pe_fld (pv 0) rfl) (pe_one (pe_callC C2 hr (by rfl) (pa_cons (pe_callC (C3.mono (by decide)) hr (by rfl) (pa_cons (pv 2) (pa_cons (pe_ix ix_tup (pe_fld (pv 0) rfl) pe_int (fun _ _ => rfl)) (pa_cons (pe_ix ix_tup (pe_fld (pv 0) rfl) pe_int (fun _ _ => rfl)) pa_nil)))) pa_nil)))) rfl))))), ?_⟩
    refine ⟨_, rfl, a, cs, rfl, hcs, hne, h24, htt, fun t H1 kept s1 nt hk hK => ?_⟩
    refine ⟨_, rfl, x, C, dx, fs, rfl, s1 _ _ hx, S.cl, S.kept, by omega, ?_⟩
    have hkne := kept_pos hK hne
    have hkl := kept_len hK
    have hz : kept.length ≤ sizeLine := by rw [hkl]; exact Nat.le_trans h24 (by decide)
    have hpos : 0 < kept.length := List.length_pos_iff.mpr hkne
    have sx1 : SameX x H (upd H1 x (.ins C dx (putF "kept" (.ref t) fs))) := (SameX.of s1).trans SameX.put
    have e1 : upd H1 x (.ins C dx (putF "kept" (.ref t) fs)) x = some (.ins C dx (putF "kept" (.ref t) fs)) := upd_same
    have k1 : CellsT (upd H1 x (.ins C dx (putF "kept" (.ref t) fs))) t kept := hk.up (tups_ins (s1 _ _ hx))
    have l1 : (putF "kept" (.ref t) fs).lookup ("kept" : Str) = some (.ref t) := fld_eq
    have n1 : (putF "kept" (.ref t) fs).length ≤ fs.length + 1 := length_putF _ _ _
    have m1 : ∀ m, m ∉ four → fs.lookup m = none → (putF "kept" (.ref t) fs).lookup m = none := fun m hm e => by
      rw [fld_ne fun z => hm (by rw [z]; decide +kernel)]
      exact e
    generalize upd H1 x (.ins C dx (putF "kept" (.ref t) fs)) = H2 at sx1 e1 k1
    generalize putF "kept" (.ref t) fs = fs1 at e1 l1 n1 m1
    obtain ⟨vs, et, hvs⟩ := k1
    -- size
    refine ⟨_, rfl, x, C, dx, fs1, _, rfl, e1, S.cl, S.kept, l1, t, rfl, ⟨vs, SqT.of et⟩, fun D1 nD1 => ?_⟩
    refine lc_wl (F := IntV) (wl_tup upCell et hvs) nD1 upInt (fun _ => true) (fun c => c.1) hz ?_ ?_
    · rintro y c H' N N0 hc sm ⟨p, rfl, e⟩ hN _
      exact ⟨p, _, rfl, SqT.of e, rfl, _, _, rfl, _, _, rfl, rfl, rfl, _, rfl, hN _ _ rfl (Same.refl _) rfl⟩
    intro H3 ys s3 e3 hys
    rw [filter_t] at hys
    refine ⟨D1, kept.map (fun c => c.1), rfl, SqL.of (by rw [e3, ints_map hys]), by rw [List.length_map]; exact hpos, fun m hm hle => ?_⟩
    refine ⟨_, _, rfl, rfl, ?_⟩
    refine ⟨_, rfl, x, C, dx, fs1, _, rfl, s3 _ _ e1, S.cl, S.kept, l1, t, rfl, ⟨vs, SqT.of (s3 _ _ et)⟩, fun D2 nD2 => ?_⟩
    refine lc_wl (F := IntV) (wl_tup upCell (s3 _ _ et) (CellVs.up (Same.tups s3) hvs)) nD2 upInt (fun _ => true) (fun c => c.2) hz ?_ ?_
    · rintro y c H' N N0 hc sm ⟨p, rfl, e⟩ hN _
      exact ⟨p, _, rfl, SqT.of e, rfl, _, _, rfl, _, _, rfl, rfl, rfl, _, rfl, hN _ _ rfl (Same.refl _) rfl⟩
    intro H4 zs s4 e4 hzs
    rw [filter_t] at hzs
    refine ⟨D2, kept.map (fun c => c.2), rfl, SqL.of (by rw [e4, ints_map hzs]), by rw [List.length_map]; exact hpos, fun m2 hm2 hle2 => ?_⟩
    refine ⟨_, _, rfl, rfl, by show 2 ≤ sizeLine; decide, fun q1 nq1 => ?_⟩
    have s5 : Same H4 (upd H4 q1 (.tup [.int (m + 1), .int (m2 + 1)])) := same_new nq1
    have eq1 : upd H4 q1 (.tup [.int (m + 1), .int (m2 + 1)]) q1 = some (.tup [.int (m + 1), .int (m2 + 1)]) := upd_same
    have s25 := (s3.trans s4).trans s5
    refine ⟨_, rfl, x, C, dx, fs1, rfl, s25 _ _ e1, S.cl, S.size, by omega, ?_⟩
    obtain ⟨c1, hc1, ec1⟩ := List.mem_map.mp hm
    obtain ⟨c2, hc2, ec2⟩ := List.mem_map.mp hm2
    have b1 := (hK.2 c1 hc1).1
    have b2 := (hK.2 c2 hc2).2
    rw [ec1] at b1
    rw [ec2] at b2
    generalize upd H4 q1 (.tup [.int (m + 1), .int (m2 + 1)]) = H5 at s5 eq1 s25
    have t5 : Tups H5 (upd H5 x (.ins C dx (putF "size" (.ref q1) fs1))) := tups_ins (s25 _ _ e1)
    have sx5 : SameX x H (upd H5 x (.ins C dx (putF "size" (.ref q1) fs1))) := (sx1.trans (SameX.of s25)).trans SameX.put
    have e5 : upd H5 x (.ins C dx (putF "size" (.ref q1) fs1)) x = some (.ins C dx (putF "size" (.ref q1) fs1)) := upd_same
    have eq5 := t5 _ _ eq1
    have et5 := t5 _ _ (s25 _ _ et)
    have hv5 := CellVs.up ((Same.tups s25).trans t5) hvs
    have l5 : (putF "size" (.ref q1) fs1).lookup ("size" : Str) = some (.ref q1) := fld_eq
    have l5' : (putF "size" (.ref q1) fs1).lookup ("kept" : Str) = some (.ref t) := by rw [fld_ne (by decide +kernel)]; exact l1
    have n5 : (putF "size" (.ref q1) fs1).length ≤ fs.length + 2 := Nat.le_trans (length_putF _ _ _) (by omega)
    have m5 : ∀ m, m ∉ four → fs.lookup m = none → (putF "size" (.ref q1) fs1).lookup m = none := fun m hm e => by
      rw [fld_ne fun z => hm (by rw [z]; decide +kernel)]
      exact m1 m hm e
    generalize upd H5 x (.ins C dx (putF "size" (.ref q1) fs1)) = H6 at t5 sx5 e5 eq5 et5 hv5
    generalize putF "size" (.ref q1) fs1 = fs2 at e5 l5 l5' n5 m5
    -- own
    refine ⟨_, rfl, x, C, dx, fs2, _, rfl, e5, S.cl, S.kept, l5', t, rfl, ⟨vs, SqT.of et5⟩, fun D3 nD3 => ?_⟩
    refine dc_wl (wl_tup upCell et5 hv5) nD3 (fun _ => true) id hz (fun σ H Q h => h) ?_ ?_
    · rintro y c H' N N0 hc sm hv hN _
      exact ⟨rfl, _, rfl, hN _ _ _ rfl (Same.refl _) hv⟩
    intro H7 s7 hds
    rw [filter_t, List.map_id] at hds
    obtain ⟨f1, f2, f3, _⟩ := ddC_facts kept
    have hdne := ddC_ne hkne
    have hdl : (ddC kept).length < sizeLine := by
      have : (24 : Nat) < sizeLine := by decide
      omega
    -- in_piece
    refine ⟨_, rfl, D3, ddC kept, rfl, hds, hdne, hdl, fun pc H8 s8 => ?_⟩
    have e8 := s8 _ _ (s7 _ _ e5)
    refine ⟨_, rfl, x, C, dx, fs2, rfl, e8, S.cl, S.piece, by omega, ?_⟩
    have s78 := s7.trans s8
    have t8 : Tups H8 (upd H8 x (.ins C dx (putF "in_piece" (.bl pc) fs2))) := tups_ins e8
    have sx8 : SameX x H (upd H8 x (.ins C dx (putF "in_piece" (.bl pc) fs2))) := (sx5.trans (SameX.of s78)).trans SameX.put
    have e9 : upd H8 x (.ins C dx (putF "in_piece" (.bl pc) fs2)) x = some (.ins C dx (putF "in_piece" (.bl pc) fs2)) := upd_same
    have hx3 : D3 ≠ x := fun z => by
      obtain ⟨kvs, z1, _⟩ := hds
      rw [z, s7 _ _ e5] at z1
      cases z1
    have hds9 : DSet (upd H8 x (.ins C dx (putF "in_piece" (.bl pc) fs2))) D3 (ddC kept) := by
      obtain ⟨kvs, z1, z2⟩ := hds
      exact ⟨kvs, by rw [upd_ne hx3]; exact s8 _ _ z1, z2⟩
    have eq9 := t8 _ _ (s78 _ _ eq5)
    have et9 := t8 _ _ (s78 _ _ et5)
    have hv9 := CellVs.up ((Same.tups s78).trans t8) hv5
    have l9 : (putF "in_piece" (.bl pc) fs2).lookup ("in_piece" : Str) = some (.bl pc) := fld_eq
    have l9' : (putF "in_piece" (.bl pc) fs2).lookup ("kept" : Str) = some (.ref t) := by rw [fld_ne (by decide +kernel)]; exact l5'
    have l9s : (putF "in_piece" (.bl pc) fs2).lookup ("size" : Str) = some (.ref q1) := by rw [fld_ne (by decide +kernel)]; exact l5
    have n9 : (putF "in_piece" (.bl pc) fs2).length ≤ fs.length + 3 := Nat.le_trans (length_putF _ _ _) (by omega)
    have m9 : ∀ m, m ∉ four → fs.lookup m = none → (putF "in_piece" (.bl pc) fs2).lookup m = none := fun m hm e => by
      rw [fld_ne fun z => hm (by rw [z]; decide +kernel)]
      exact m5 m hm e
    generalize upd H8 x (.ins C dx (putF "in_piece" (.bl pc) fs2)) = H9 at t8 sx8 e9 eq9 et9 hv9 hds9
    generalize putF "in_piece" (.bl pc) fs2 = fs3 at e9 l9 l9' l9s n9 m9
    have fin : ∀ (u : Bool) (H10 : Hp), Same H9 H10 → Q .non (upd H10 x (.ins C dx (putF "in_whole" (.bl u) fs3))) := fun u H10 s10 => by
      have t10 : Tups H10 (upd H10 x (.ins C dx (putF "in_whole" (.bl u) fs3))) := tups_ins (s10 _ _ e9)
      refine q _ _ t kept ((sx8.trans (SameX.of s10)).trans SameX.put) upd_same (by rw [fld_ne (by decide +kernel)]; exact l9') ⟨vs, t10 _ _ (s10 _ _ et9), CellVs.up ((Same.tups s10).trans t10) hv9⟩ hK (Nat.le_trans (length_putF _ _ _) (by omega)) fun m hm e => ?_
      rw [fld_ne fun z => hm (by rw [z]; decide +kernel)]
      exact m9 m hm e
    -- in_whole
    refine ⟨_, rfl, x, C, dx, fs3, _, rfl, e9, S.cl, S.piece, l9, pc, rfl, ?_⟩
    cases pc with
    | false => exact iteF ⟨_, rfl, x, C, dx, fs3, rfl, e9, S.cl, S.whole, by omega, fin false H9 (Same.refl _)⟩
    | true =>
      refine iteT ⟨_, rfl, _, rfl, x, C, dx, fs3, _, rfl, e9, S.cl, S.size, l9s, q1, _, 0, _, rfl, rfl, SqT.of eq9, atI_nat (j := 0) rfl, _, rfl, x, C, dx, fs3, _, rfl, e9, S.cl, S.size, l9s, q1, _, 1, _, rfl, rfl, SqT.of eq9, atI_nat (j := 1) rfl, ?_⟩
      refine ⟨D3, ddC kept, m + 1, m2 + 1, rfl, hds9, by omega, by omega, fun hm => ?_, fun p H10 ds s10 hd10 hdn hdl2 => ?_⟩
      · have := (hK.2 _ ((f2 _).mp hm)).1.1
        exact absurd this (by decide)
      · refine ⟨p, ds, rfl, hd10, hdn, hdl2, fun u H11 s11 => ?_⟩
        exact ⟨_, rfl, x, C, dx, fs3, rfl, s11 _ _ (s10 _ _ e9), S.cl, S.whole, by omega, fin u H11 (s10.trans s11)⟩
end
end Sf

/-! Shape.__init__, shape_of_cells, turned, quarter, flipped, __len__, check_shape. -/
namespace Sf
open PySem PySem.Spec PyProof.Rows L2
/-- at x a Shape whose cells are these -/
def ShapeN (n : Nat) (C : Addr) (H : Hp) (x : Addr) (kept : List Cel) : Prop := ∃ (dx : Addr) (fs : List (Str × V)) (t : Addr), H x = some (.ins C dx fs) ∧ fs.length ≤ n ∧ fs.lookup ("kept" : Str) = some (.ref t) ∧ CellsT H t kept ∧ ∀ m, m ∉ four → fs.lookup m = none
abbrev ShapeAt (C : Addr) (H : Hp) (x : Addr) (kept : List Cel) : Prop := ShapeN 20 C H x kept
theorem ShapeAt.up {C : Addr} {H H' : Hp} (s : Same H H') {x : Addr} {kept : List Cel} (h : ShapeAt C H x kept) : ShapeAt C H' x kept :=
  let ⟨dx, fs, t, e, l, k, ct, m⟩ := h; ⟨dx, fs, t, s _ _ e, l, k, ct.up (Same.tups s), m⟩
theorem tight_shv {m : Int} {cs kept : List Cel} (h : Kept cs kept) (t : tight m cs) : tight m kept := by
  obtain ⟨⟨x, y, hp⟩, _⟩ := h
  intro c hc d hd
  obtain ⟨c', hc', rfl⟩ := List.mem_map.mp (hp.mem_iff.mp hc)
  obtain ⟨d', hd', rfl⟩ := List.mem_map.mp (hp.mem_iff.mp hd)
  have := t c' hc' d' hd'
  show c'.1 + x - (d'.1 + x) ≤ m ∧ c'.2 + y - (d'.2 + y) ≤ m
  omega
section
variable {P : Program} {w : World} {K : PySem.W.Frag} {mg : Str → Option Value} {base : Heap} {C : Addr}
abbrev sInit : Stmt := inClass (top 28) 0
theorem sc_init : FnScope ["self", "cells"] ["self", "cells"] (defScope sInit) := ⟨rfl, rfl, rfl, by decide +kernel, rfl, by decide +kernel, by decide +kernel⟩
def sp_init (C : Addr) : Sp := fun vs H Q _ => ∃ (x a dx : Addr) (cs : List Cel), vs = [.ref x, .ref a] ∧ H x = some (.ins C dx []) ∧ CellsT H a cs ∧ cs ≠ [] ∧ cs.length ≤ 24 ∧ cs.Nodup ∧ (∀ c ∈ cs, near 1000 c) ∧ tight 1000 cs ∧
  ∀ (H' : Hp) (kept : List Cel), SameX x H H' → ShapeN 4 C H' x kept → Kept cs kept → Q .non H'
theorem mcal_init (B : Bi mg) (S : ShC K mg C) (C5 : Cal P w K mg base 5 "check_cells" ["values"] sp_check_cells) (M1 : MCal P w K mg base 3 C "lay" ["self", "cells"] (sp_lay C)) (D : MDef K C "__init__" "Shape.__init__" sInit ["self", "cells"]) : MCal P w K mg base 6 C "__init__" ["self", "cells"] (sp_init C) := by
  refine D.mcal sc_init (fun vs H Q E h => ?_) (fun f cdv A outer s H vs Q E hr h => ?_)
  · obtain ⟨x, a, dx, cs, rfl, _⟩ := h
    rfl
  · obtain ⟨x, a, dx, cs, rfl, hx, hcs, hne, h24, hnd, hnr, htt, q⟩ := h
    obtain ⟨g, gd, F, b, m⟩ := (M1.mono (by decide : 3 ≤ 5)).ex
    refine ⟨_, pss_cons (ps_expr (pe_callC C5 hr (by rfl) (pa_cons (pv 1) pa_nil))) (pss_one (ps_expr (pe_meth (pv 0) S.cl m F hr b .nil pass0 (pa_cons (pv 1) pa_nil)))), ?_⟩
    refine ⟨_, rfl, a, cs, rfl, hcs, hne, h24, hnd, hnr, fun H1 s1 => ?_⟩
    refine ⟨_, rfl, x, dx, [], rfl, s1 _ _ hx, rfl, _, rfl, x, a, dx, [], cs, rfl, s1 _ _ hx, Nat.zero_le _, .inl (hcs.up (Same.tups s1)), hne, h24, htt, fun H2 fs' t kept sx e l ct hK hl hm => ?_⟩
    exact q H2 kept ((SameX.of s1).trans sx) ⟨dx, fs', t, e, Nat.le_trans hl (by decide), l, ct, fun m hm' => hm m hm' rfl⟩ hK
theorem sc_soc : FnScope ["cells", "shape"] ["cells"] (defScope (top 29)) := ⟨rfl, rfl, rfl, by decide +kernel, rfl, by decide +kernel, by decide +kernel⟩
def sp_soc (C : Addr) : Sp := fun vs H Q _ => ∃ (a : Addr) (cs : List Cel), vs = [.ref a] ∧ CellsS H a cs ∧ cs ≠ [] ∧ cs.length ≤ 24 ∧ tight 1000 cs ∧ ∀ (x : Addr) (H' : Hp) (kept : List Cel), Same H H' → ShapeAt C H' x kept → Kept cs kept → Q (.ref x) H'
theorem cal_soc (S : ShC K mg C) (hmk : PySem.W.makesIn K C = true) (hkp : PySem.W.keepIn K (.ref C) = true) (M0 : MCal P w K mg base 6 C "__init__" ["self", "cells"] (sp_init C)) (M1 : MCal P w K mg base 3 C "lay" ["self", "cells"] (sp_lay C)) (D : Def K mg "shape_of_cells" (top 29) ["cells"]) : Cal P w K mg base 8 "shape_of_cells" ["cells"] (sp_soc C) := by
  refine D.cal sc_soc (fun vs H Q E h => ?_) (fun f cdv A outer s H vs Q E hr h => ?_)
  · obtain ⟨a, cs, rfl, _⟩ := h
    rfl
  · obtain ⟨a, cs, rfl, hcs, hne, h24, htt, q⟩ := h
    obtain ⟨g, gd, F, b, m⟩ := (M1.mono (by decide : 3 ≤ 7)).ex
    obtain ⟨g0, gd0, F0, b0, m0⟩ := M0.ex
    have M : Mk K C g0 := ⟨hmk, m0.at_, m0.fn, hkp⟩
    refine ⟨_, pss_cons (ps_set (i := 1) sc_soc.nd rfl (.inl rfl) (pe_make M F0 hr (by rfl) S.name b0 .nil pass0 (pa_cons (pe_tup (pa_cons (pe_tup (pa_cons pe_int (pa_cons pe_int pa_nil))) pa_nil)) pa_nil)))
      (pss_cons (ps_expr (pe_meth (pv 1) S.cl m F hr b .nil pass0 (pa_cons (pv 0) pa_nil))) (pss_one (ps_ret (pv 1)))), ?_⟩
    refine ⟨by show 2 ≤ sizeLine; decide, fun p1 n1 => ⟨by show 1 ≤ sizeLine; decide, fun p2 n2 => ?_⟩⟩
    have s1 : Same H (upd H p1 (.tup [.int 0, .int 0])) := same_new n1
    have e1 : upd H p1 (.tup [.int 0, .int 0]) p1 = some (.tup [.int 0, .int 0]) := upd_same
    generalize upd H p1 (.tup [.int 0, .int 0]) = H1 at s1 e1 n2
    have s2 : Same H1 (upd H1 p2 (.tup [.ref p1])) := same_new n2
    have e2 : upd H1 p2 (.tup [.ref p1]) p2 = some (.tup [.ref p1]) := upd_same
    have e12 := s2 _ _ e1
    have s02 := s1.trans s2
    generalize upd H1 p2 (.tup [.ref p1]) = H2 at s2 e2 e12 s02
    intro x dx nx ndx hdx
    have s3 : Same H2 (upd (upd H2 dx (.own x)) x (.ins C dx [])) := fun b o e => by
      rw [upd_ne (ne_of_none e nx), upd_ne (ne_of_none e ndx)]
      exact e
    have nx0 := none_of_same s02 nx
    refine ⟨x, p2, dx, [(0, 0)], rfl, upd_same, ⟨_, s3 _ _ e2, .cons ⟨p1, rfl, s3 _ _ e12⟩ .nil⟩, by decide, by decide, nodup_one _, fun c hc => ?_, fun c hc d hd => ?_, fun H3 k0 sx sh _ => ⟨rfl, ?_⟩⟩
    · rw [List.mem_singleton] at hc
      subst hc
      exact ⟨⟨by decide, by decide⟩, ⟨by decide, by decide⟩⟩
    · rw [List.mem_singleton] at hc hd
      subst hc
      subst hd
      exact ⟨by decide, by decide⟩
    have s4 : Same H H3 := SameX.own (s02.trans s3) nx0 sx
    obtain ⟨dx', fs, t, ex, hl, _, _, hm⟩ := sh
    refine ⟨_, rfl, x, dx', fs, rfl, ex, hm _ (by decide +kernel), _, rfl, x, a, dx', fs, cs, rfl, ex, by omega, hcs.up s4, hne, h24, htt, fun H4 fs' t' kept sx4 e4 l4 ct hK hl4 hm4 => ?_⟩
    refine ⟨_, rfl, q x H4 kept (SameX.own s4 nx0 sx4) ⟨dx', fs', t', e4, ?_, l4, ct, fun m hm' => hm4 m hm' (hm m hm')⟩ hK⟩
    omega
def sp_turn (C : Addr) (g : Cel → Cel) : Sp := fun vs H Q _ => ∃ (s : Addr) (cs : List Cel), vs = [.ref s] ∧ ShapeAt C H s cs ∧ cs ≠ [] ∧ cs.length ≤ 24 ∧ tight 1000 cs ∧ ∀ (x : Addr) (H' : Hp) (kept : List Cel), Same H H' → ShapeAt C H' x kept → Kept (cs.map g) kept → Q (.ref x) H'
abbrev sturned : Stmt := inClass (top 28) 8
theorem sc_turned : FnScope ["self", "x", "y"] ["self"] (defScope sturned) := ⟨rfl, rfl, rfl, by decide +kernel, rfl, by decide +kernel, by decide +kernel⟩
def gturned (c : Cel) : Cel := (-c.1, -c.2)
theorem mcal_turned (S : ShC K mg C) (C1 : Cal P w K mg base 8 "shape_of_cells" ["cells"] (sp_soc C)) (D : MDef K C "turned" "Shape.turned" sturned ["self"]) : MCal P w K mg base 9 C "turned" ["self"] (sp_turn C gturned) := by
  refine D.mcal sc_turned (fun vs H Q E h => ?_) (fun f cdv A outer s H vs Q E hr h => ?_)
  · obtain ⟨s, cs, rfl, _⟩ := h
    rfl
  · obtain ⟨s, cs, rfl, ⟨dx, fs, t, e, hl, lk, ⟨vs, et, hvs⟩, hm⟩, hne, h24, htt, q⟩ := h
    refine ⟨_, pss_one (ps_ret (pe_callC C1 hr (by rfl) (pa_cons (pe_lc (own := [("x", 1), ("y", 2)]) (g := gTup K 2 (gCons (gName 1) (gCons (gName 2) gNil))) (tt := tYes) (by rfl) sc_turned.nd (pi_tup (pe_fld (pv 0) rfl)) (blkOk_by (own := [("x", 1), ("y", 2)]) (N := ["self", "x", "y"]) (sc := defScope sturned) (by decide +kernel))
          (fun _ _ _ _ _ => pg_tup rfl (pgs_cons (pg_name (i := 1) sc_turned.nd rfl (.inl rfl)) (pgs_cons (pg_name (i := 2) sc_turned.nd rfl (.inl rfl)) pgs_nil))) (fun _ _ _ _ _ => pts_nil) (fun _ _ _ _ _ => pe_tup (pa_cons (pe_un un_neg (pv 1)) (pa_cons (pe_un un_neg (pv 2)) pa_nil)))) pa_nil))), ?_⟩
    refine ⟨_, rfl, s, C, dx, fs, _, rfl, e, S.cl, S.kept, lk, t, rfl, ⟨vs, SqT.of et⟩, fun Dl nD => ?_⟩
    refine lc_wl (F := CellV) (wl_tup upCell et hvs) nD upCell (fun _ => true) gturned (Nat.le_trans h24 (by decide)) ?_ ?_
    · rintro y c H' N N0 hc sm ⟨p, rfl, ep⟩ hN _
      refine ⟨p, _, rfl, SqT.of ep, rfl, _, _, rfl, _, _, rfl, rfl, rfl, _, rfl, _, rfl, _, rfl, _, rfl, by show 2 ≤ sizeLine; decide, fun p1 n1 => hN _ _ rfl (same_new n1) ⟨p1, rfl, upd_same⟩⟩
    intro H1 ys s1 e1 hys
    rw [filter_t] at hys
    refine ⟨Dl, cs.map gturned, rfl, .inr ⟨ys, e1, hys⟩, fun z => hne (List.map_eq_nil_iff.mp z), by rw [List.length_map]; exact h24, fun c hc d hd => ?_, fun x H2 kept s2 sh hK => q x H2 kept (s1.trans s2) sh hK⟩
    obtain ⟨c', hc', rfl⟩ := List.mem_map.mp hc
    obtain ⟨d', hd', rfl⟩ := List.mem_map.mp hd
    have h1 := htt c' hc' d' hd'
    have h2 := htt d' hd' c' hc'
    unfold gturned
    constructor <;> (dsimp only; omega)
abbrev squarter : Stmt := inClass (top 28) 9
theorem sc_quarter : FnScope ["self", "x", "y"] ["self"] (defScope squarter) := ⟨rfl, rfl, rfl, by decide +kernel, rfl, by decide +kernel, by decide +kernel⟩
def gquarter (c : Cel) : Cel := (-c.2, c.1)
theorem mcal_quarter (S : ShC K mg C) (C1 : Cal P w K mg base 8 "shape_of_cells" ["cells"] (sp_soc C)) (D : MDef K C "quarter" "Shape.quarter" squarter ["self"]) : MCal P w K mg base 9 C "quarter" ["self"] (sp_turn C gquarter) := by
  refine D.mcal sc_quarter (fun vs H Q E h => ?_) (fun f cdv A outer s H vs Q E hr h => ?_)
  · obtain ⟨s, cs, rfl, _⟩ := h
    rfl
  · obtain ⟨s, cs, rfl, ⟨dx, fs, t, e, hl, lk, ⟨vs, et, hvs⟩, hm⟩, hne, h24, htt, q⟩ := h
    refine ⟨_, pss_one (ps_ret (pe_callC C1 hr (by rfl) (pa_cons (pe_lc (own := [("x", 1), ("y", 2)]) (g := gTup K 2 (gCons (gName 1) (gCons (gName 2) gNil))) (tt := tYes) (by rfl) sc_quarter.nd (pi_tup (pe_fld (pv 0) rfl)) (blkOk_by (own := [("x", 1), ("y", 2)]) (N := ["self", "x", "y"]) (sc := defScope squarter) (by decide +kernel))
          (fun _ _ _ _ _ => pg_tup rfl (pgs_cons (pg_name (i := 1) sc_quarter.nd rfl (.inl rfl)) (pgs_cons (pg_name (i := 2) sc_quarter.nd rfl (.inl rfl)) pgs_nil))) (fun _ _ _ _ _ => pts_nil) (fun _ _ _ _ _ => pe_tup (pa_cons (pe_un un_neg (pv 2)) (pa_cons (pv 1) pa_nil)))) pa_nil))), ?_⟩
    refine ⟨_, rfl, s, C, dx, fs, _, rfl, e, S.cl, S.kept, lk, t, rfl, ⟨vs, SqT.of et⟩, fun Dl nD => ?_⟩
    refine lc_wl (F := CellV) (wl_tup upCell et hvs) nD upCell (fun _ => true) gquarter (Nat.le_trans h24 (by decide)) ?_ ?_
    · rintro y c H' N N0 hc sm ⟨p, rfl, ep⟩ hN _
      refine ⟨p, _, rfl, SqT.of ep, rfl, _, _, rfl, _, _, rfl, rfl, rfl, _, rfl, _, rfl, _, rfl, by show 2 ≤ sizeLine; decide, fun p1 n1 => hN _ _ rfl (same_new n1) ⟨p1, rfl, upd_same⟩⟩
    intro H1 ys s1 e1 hys
    rw [filter_t] at hys
    refine ⟨Dl, cs.map gquarter, rfl, .inr ⟨ys, e1, hys⟩, fun z => hne (List.map_eq_nil_iff.mp z), by rw [List.length_map]; exact h24, fun c hc d hd => ?_, fun x H2 kept s2 sh hK => q x H2 kept (s1.trans s2) sh hK⟩
    obtain ⟨c', hc', rfl⟩ := List.mem_map.mp hc
    obtain ⟨d', hd', rfl⟩ := List.mem_map.mp hd
    have h1 := htt c' hc' d' hd'
    have h2 := htt d' hd' c' hc'
    unfold gquarter
    constructor <;> (dsimp only; omega)
abbrev sflipped : Stmt := inClass (top 28) 10
theorem sc_flipped : FnScope ["self", "x", "y"] ["self"] (defScope sflipped) := ⟨rfl, rfl, rfl, by decide +kernel, rfl, by decide +kernel, by decide +kernel⟩
def gflipped (c : Cel) : Cel := (-c.1, c.2)
theorem mcal_flipped (S : ShC K mg C) (C1 : Cal P w K mg base 8 "shape_of_cells" ["cells"] (sp_soc C)) (D : MDef K C "flipped" "Shape.flipped" sflipped ["self"]) : MCal P w K mg base 9 C "flipped" ["self"] (sp_turn C gflipped) := by
  refine D.mcal sc_flipped (fun vs H Q E h => ?_) (fun f cdv A outer s H vs Q E hr h => ?_)
  · obtain ⟨s, cs, rfl, _⟩ := h
    rfl
  · obtain ⟨s, cs, rfl, ⟨dx, fs, t, e, hl, lk, ⟨vs, et, hvs⟩, hm⟩, hne, h24, htt, q⟩ := h
    refine ⟨_, pss_one (ps_ret (pe_callC C1 hr (by rfl) (pa_cons (pe_lc (own := [("x", 1), ("y", 2)]) (g := gTup K 2 (gCons (gName 1) (gCons (gName 2) gNil))) (tt := tYes) (by rfl) sc_flipped.nd (pi_tup (pe_fld (pv 0) rfl)) (blkOk_by (own := [("x", 1), ("y", 2)]) (N := ["self", "x", "y"]) (sc := defScope sflipped) (by decide +kernel))
          (fun _ _ _ _ _ => pg_tup rfl (pgs_cons (pg_name (i := 1) sc_flipped.nd rfl (.inl rfl)) (pgs_cons (pg_name (i := 2) sc_flipped.nd rfl (.inl rfl)) pgs_nil))) (fun _ _ _ _ _ => pts_nil) (fun _ _ _ _ _ => pe_tup (pa_cons (pe_un un_neg (pv 1)) (pa_cons (pv 2) pa_nil)))) pa_nil))), ?_⟩
    refine ⟨_, rfl, s, C, dx, fs, _, rfl, e, S.cl, S.kept, lk, t, rfl, ⟨vs, SqT.of et⟩, fun Dl nD => ?_⟩
    refine lc_wl (F := CellV) (wl_tup upCell et hvs) nD upCell (fun _ => true) gflipped (Nat.le_trans h24 (by decide)) ?_ ?_
    · rintro y c H' N N0 hc sm ⟨p, rfl, ep⟩ hN _
      refine ⟨p, _, rfl, SqT.of ep, rfl, _, _, rfl, _, _, rfl, rfl, rfl, _, rfl, _, rfl, _, rfl, by show 2 ≤ sizeLine; decide, fun p1 n1 => hN _ _ rfl (same_new n1) ⟨p1, rfl, upd_same⟩⟩
    intro H1 ys s1 e1 hys
    rw [filter_t] at hys
    refine ⟨Dl, cs.map gflipped, rfl, .inr ⟨ys, e1, hys⟩, fun z => hne (List.map_eq_nil_iff.mp z), by rw [List.length_map]; exact h24, fun c hc d hd => ?_, fun x H2 kept s2 sh hK => q x H2 kept (s1.trans s2) sh hK⟩
    obtain ⟨c', hc', rfl⟩ := List.mem_map.mp hc
    obtain ⟨d', hd', rfl⟩ := List.mem_map.mp hd
    have h1 := htt c' hc' d' hd'
    have h2 := htt d' hd' c' hc'
    unfold gflipped
    constructor <;> (dsimp only; omega)
abbrev sLen : Stmt := inClass (top 28) 13
theorem sc_len : FnScope ["self"] ["self"] (defScope sLen) := ⟨rfl, rfl, rfl, by decide +kernel, rfl, by decide +kernel, by decide +kernel⟩
def sp_len (C : Addr) : Sp := fun vs H Q _ => ∃ (s : Addr) (cs : List Cel), vs = [.ref s] ∧ ShapeAt C H s cs ∧ Q (.int cs.length) H
theorem mcal_len (B : Bi mg) (S : ShC K mg C) (D : MDef K C "__len__" "Shape.__len__" sLen ["self"]) : MCal P w K mg base 1 C "__len__" ["self"] (sp_len C) := by
  refine D.mcal sc_len (fun vs H Q E h => ?_) (fun f cdv A outer s H vs Q E hr h => ?_)
  · obtain ⟨s, cs, rfl, _⟩ := h
    rfl
  · obtain ⟨s, cs, rfl, ⟨dx, fs, t, e, hl, lk, ⟨vs, et, hvs⟩, hm⟩, q⟩ := h
    refine ⟨_, pss_one (ps_ret (pe_callB call_len_seq (by rfl) B.len bt_len (pa_cons (pe_fld (pv 0) rfl) pa_nil))), ?_⟩
    refine ⟨_, rfl, s, C, dx, fs, _, rfl, e, S.cl, S.kept, lk, t, vs, rfl, .inr (SqT.of et), ?_⟩
    rw [cells_len hvs]
    exact q
theorem sc_chs : FnScope ["value"] ["value"] (defScope (top 30)) := ⟨rfl, rfl, rfl, by decide +kernel, rfl, by decide +kernel, by decide +kernel⟩
def sp_chs (C : Addr) : Sp := fun vs H Q _ => ∃ (s : Addr) (cs : List Cel), vs = [.ref s] ∧ ShapeAt C H s cs ∧ Q .non H
/-- what isinstance asks of the class -/
structure ShI (K : PySem.W.Frag) (C : Addr) : Prop where
  ha : PySem.W.findIn K (.ref C) "__class__" = some (some (.builtin "object.__class__"))
  hn : PySem.W.specialIn K (.builtin "object.__class__") "__get__" = some (some (.builtin "getset_descriptor.__get__"))
  htk : PySem.W.takesIn K (.builtin "object.__class__") = some true
  hm : PySem.W.mroIn K C (.type "object") = some true
  me : PySem.W.kitOne K (.ref C) (.ref C) = some true
theorem cal_chs (B : Bi mg) (S : ShC K mg C) (I : ShI K C) (D : Def K mg "check_shape" (top 30) ["value"]) : Cal P w K mg base 1 "check_shape" ["value"] (sp_chs C) := by
  refine D.cal sc_chs (fun vs H Q E h => ?_) (fun f cdv A outer s H vs Q E hr h => ?_)
  · obtain ⟨s, cs, rfl, _⟩ := h
    rfl
  · obtain ⟨s, cs, rfl, ⟨dx, fs, t, e, hl, lk, _, hm⟩, q⟩ := h
    refine ⟨_, pss_one (ps_if (pt_not (pt_val (pe_callB call_isi (by rfl) B.isi bt_isi (pa_cons (pv 0) (pa_cons (pe_glob (v := .ref C) (by rfl) S.name rfl) pa_nil))))) (pss_one ps_never) pss_nil), ?_⟩
    exact ⟨_, rfl, .ref s, .ref C, .ref C, .ref C, true, rfl, .own C,   .base (.ins e S.cl I.ha I.hn I.htk I.hm), I.me, true, rfl, iteF q⟩
end
end Sf

/-! check_sizes, all_blocks. -/
namespace Sf
open PySem PySem.Spec PyProof.Rows L2
section
variable {P : Program} {w : World} {K : PySem.W.Frag} {mg : Str → Option Value} {base : Heap} {C : Addr}
theorem sc_chz : FnScope ["wide", "high", "size"] ["wide", "high"] (defScope (top 32)) := ⟨rfl, rfl, rfl, by decide +kernel, rfl, by decide +kernel, by decide +kernel⟩
def sp_chz : Sp := fun vs H Q _ => ∃ W Hh : Nat, vs = [.int W, .int Hh] ∧ 1 ≤ W ∧ 1 ≤ Hh ∧ W * Hh ≤ 36 ∧ ∀ H', Same H H' → Q .non H'
theorem cal_chz (B : Bi mg) (N : Co mg) (C1 : Cal P w K mg base 2 "is_between" ["value", "low", "high"] sp_is_between) (D : Def K mg "check_sizes" (top 32) ["wide", "high"]) : Cal P w K mg base 3 "check_sizes" ["wide", "high"] sp_chz := by
  refine D.cal sc_chz (fun vs H Q E h => ?_) (fun f cdv A outer s H vs Q E hr h => ?_)
  · obtain ⟨W, Hh, rfl, _⟩ := h
    rfl
  · obtain ⟨W, Hh, rfl, w1, h1, h36, q⟩ := h
    obtain ⟨tr, hrl⟩ := N.rolled
    have hw : W ≤ 36 := Nat.le_trans (Nat.le_mul_of_pos_right W h1) h36
    have hh : Hh ≤ 36 := Nat.le_trans (Nat.le_mul_of_pos_left Hh w1) h36
    refine ⟨_, pss_cons (ps_for PassesOwn.never rfl (pi_tup (pe_tup (pa_cons (pv 0) (pa_cons (pv 1) pa_nil)))) (pg_name (i := 2) sc_chz.nd rfl (.inl rfl))
        (pss_one (ps_if (pt_not (pt_val (pe_callC C1 hr (by rfl) (pa_cons (pv 2) (pa_cons pe_int (pa_cons (pe_glob (v := .int 36) (by rfl) hrl ⟨_, rfl⟩) pa_nil)))))) (pss_one ps_never) pss_nil)))
      (pss_one (ps_if (pt_cmp (pc_gt (pe_op op_mul (pv 0) (pv 1)) (pe_glob (v := .int 36) (by rfl) hrl ⟨_, rfl⟩))) (pss_one ps_never) pss_nil)), ?_⟩
    refine ⟨_, rfl, _, rfl, by show 2 ≤ sizeLine; decide, fun p np => ?_⟩
    have s1 : Same H (upd H p (.tup [.int W, .int Hh])) := same_new np
    have e1 : upd H p (.tup [.int W, .int Hh]) p = some (.tup [.int W, .int Hh]) := upd_same
    generalize upd H p (.tup [.int W, .int Hh]) = H1 at s1 e1
    refine ⟨p, rfl, ⟨_, SqT.of e1⟩, for_it (walk_tup (K := K) (a := p) (xs := [.int W, .int Hh])) (fun i σ H' => ∃ y, σ = [some (.int W), some (.int Hh), y] ∧ Same H1 H') ⟨none, rfl, Same.refl _⟩ (fun i σ H' _ ⟨_, _, sm⟩ => SqT.of (sm _ _ e1)) ?_ ?_⟩
    · rintro i x σ H2 H2' hi ⟨y, rfl, sm⟩ ⟨rfl, hx⟩
      have : ∃ n : Nat, x = .int n ∧ 1 ≤ n ∧ n ≤ 36 := by
        match i, hx with
        | 0, hx => exact ⟨W, (Option.some.inj hx).symm, w1, hw⟩
        | 1, hx => exact ⟨Hh, (Option.some.inj hx).symm, h1, hh⟩
        | i + 2, hx => exact absurd hx (by simp)
      obtain ⟨n, rfl, n1, n2⟩ := this
      exact ⟨_, rfl, n, 1, 36, rfl, by omega, by omega, true, rfl, iteF ⟨some (.int n), rfl, sm⟩⟩
    · rintro σ H2 ⟨y, rfl, sm⟩
      refine ⟨_, rfl, _, rfl, _, _, rfl, rfl, .inl (by omega), _, _, rfl, rfl, false, congrArg V.bl (decide_eq_false ?_), iteF (q _ (s1.trans sm))⟩
      have : ((W : Int) * (Hh : Int)) ≤ 36 := by exact_mod_cast h36
      omega
/-- the property cells -/
structure PrC (P : Program) (w : World) (K : PySem.W.Frag) (mg : Str → Option Value) (base : Heap) (C : Addr) : Prop where
  ex : ∃ p g fd, PropOf K C "cells" p g ∧ FnOk P w K mg base CX0 1 g fd ["self"] (getSp C "kept") ∧ Binds K fd ["self"] []
/-- an entry of the blocks that stand at Bd -/
def BlkV (Bd : Addr) (Bk : Cel → List Cel) (H : Hp) (kv : List Key × V) (s : Cel) : Prop := kv.1 = keyC s ∧ ∃ b, kv.2 = .ref b ∧ b ≠ Bd ∧ DSet H b (Bk s)
theorem BlkV.up {Bd : Addr} {Bk : Cel → List Cel} {H H' : Hp} (s : ∀ b o, b ≠ Bd → H b = some o → H' b = some o) {kv : List Key × V} {c : Cel} (h : BlkV Bd Bk H kv c) : BlkV Bd Bk H' kv c :=
  let ⟨h1, b, h2, h3, kvs, h4, h5⟩ := h; ⟨h1, b, h2, h3, kvs, s _ _ h3 h4, h5⟩
def BlocksAt (H : Hp) (Bd : Addr) (Bk : Cel → List Cel) (ss : List Cel) : Prop := ∃ kvs, H Bd = some (.dT kvs) ∧ Paired (BlkV Bd Bk H) kvs ss
theorem BlocksAt.up {H H' : Hp} (s : Same H H') {Bd : Addr} {Bk : Cel → List Cel} {ss : List Cel} (h : BlocksAt H Bd Bk ss) : BlocksAt H' Bd Bk ss :=
  let ⟨kvs, e, r⟩ := h; ⟨kvs, s _ _ e, Paired.mapP r fun _ _ q => q.up fun b o _ e => s b o e⟩
theorem blocks_keys {Bd : Addr} {Bk : Cel → List Cel} {H : Hp} : ∀ {kvs : List (List Key × V)} {ss : List Cel}, Paired (BlkV Bd Bk H) kvs ss → KeysC kvs ss
  | _, _, .nil => rfl
  | _, _, .cons q t => by
    unfold KeysC
    rw [List.map_cons, List.map_cons, q.1, blocks_keys t]
theorem blocks_val {Bd : Addr} {Bk : Cel → List Cel} {H : Hp} {s : Cel} : ∀ {kvs : List (List Key × V)} {ss : List Cel}, Paired (BlkV Bd Bk H) kvs ss → s ∈ ss → ∃ b, valV kvs (keyC s) = some (.ref b) ∧ b ≠ Bd ∧ DSet H b (Bk s)
  | _, _, .nil, h => absurd h List.not_mem_nil
  | _, _, .cons (b := c) q t, h => by
    by_cases e : c = s
    · subst e
      obtain ⟨h1, b, h2, h3, h4⟩ := q
      exact ⟨b, by rw [valV_pos h1, h2], h3, h4⟩
    · rcases List.mem_cons.mp h with h | h
      · exact absurd h.symm e
      · obtain ⟨b, h1, h2⟩ := blocks_val t h
        exact ⟨b, by rw [valV_neg fun z => e (keyC_inj (q.1.symm.trans z))]; exact h1, h2⟩
/-- the places before (i, j) -/
def preM (Hh i j : Nat) : List Cel := placesM i Hh ++ (zr j).map fun y => ((i : Int), y)
theorem zr_snoc (n : Nat) : zr (n + 1) = zr n ++ [(n : Int)] := by
  unfold zr
  rw [List.range_succ, List.map_append]
  rfl
theorem pre_col (Hh i j : Nat) : preM Hh i (j + 1) = preM Hh i j ++ [((i : Int), (j : Int))] := by
  unfold preM
  rw [zr_snoc j, List.map_append, ← List.append_assoc]
  rfl
theorem pre_row (Hh i : Nat) : preM Hh i Hh = placesM (i + 1) Hh := by
  unfold preM placesM
  rw [zr_snoc i, List.flatMap_append, List.flatMap_cons, List.flatMap_nil, List.append_nil]
theorem pre_zero (Hh i : Nat) : preM Hh i 0 = placesM i Hh := List.append_nil _
theorem mem_pre {Hh i j : Nat} {c : Cel} (h : c ∈ preM Hh i j) : c.1 < i ∨ (c.1 = i ∧ c.2 < j) := by
  rcases List.mem_append.mp h with h | h
  · exact .inl (mem_places.mp h).1.2
  · obtain ⟨y, hy, rfl⟩ := List.mem_map.mp h
    exact .inr ⟨rfl, (mem_zr.mp hy).2⟩
theorem pre_len (Hh i j : Nat) : (preM Hh i j).length = i * Hh + j := by
  unfold preM
  rw [List.length_append, places_length, List.length_map, zr_length]
theorem sc_blocks : FnScope ["shape", "wide", "high", "found", "a", "b", "block", "x", "y"] ["shape", "wide", "high"] (defScope (top 33)) := ⟨rfl, rfl, rfl, by decide +kernel, rfl, by decide +kernel, by decide +kernel⟩
def sp_blocks (C : Addr) : Sp := fun vs H Q _ => ∃ (sh : Addr) (cs : List Cel) (W Hh : Nat), vs = [.ref sh, .int W, .int Hh] ∧ ShapeAt C H sh cs ∧ cs.length ≤ 24 ∧ 1 ≤ W ∧ 1 ≤ Hh ∧ W * Hh ≤ 36 ∧ ∀ p H', Same H H' → BlocksAt H' p (blkM W Hh cs) (okM W Hh cs) → Q (.ref p) H'
theorem cal_blocks (B : Bi mg) (S : ShC K mg C) (Pr : PrC P w K mg base C) (M1 : MCal P w K mg base 1 C "__len__" ["self"] (sp_len C)) (D : Def K mg "all_blocks" (top 33) ["shape", "wide", "high"]) : Cal P w K mg base 3 "all_blocks" ["shape", "wide", "high"] (sp_blocks C) := by
  refine D.cal sc_blocks (fun vs H Q E h => ?_) (fun f cdv A outer s H vs Q E hr h => ?_)
  · obtain ⟨sh, cs, W, Hh, rfl, _⟩ := h
    rfl
  · obtain ⟨sh, cs, W, Hh, rfl, hsh, h24, w1, h1, h36, q⟩ := h
    have hu := hu_of hr
    obtain ⟨pp, pg, pfd, hp, PF, pb⟩ := Pr.ex
    obtain ⟨lg, lfd, LF, lb, lm⟩ := M1.ex
    have hw : W ≤ 36 := Nat.le_trans (Nat.le_mul_of_pos_right W h1) h36
    have hh : Hh ≤ 36 := Nat.le_trans (Nat.le_mul_of_pos_left Hh w1) h36
    refine ⟨_, pss_cons (ps_set (i := 3) sc_blocks.nd rfl (.inl rfl) pe_dnewT)
      (pss_cons (ps_for PassesOwn.never rfl (pi_range1 (by rfl) B.range (pa_cons (pv 1) pa_nil)) (pg_name (i := 4) sc_blocks.nd rfl (.inr rfl))
        (pss_one (ps_for PassesOwn.never rfl (pi_range1 (by rfl) B.range (pa_cons (pv 2) pa_nil)) (pg_name (i := 5) sc_blocks.nd rfl (.inr rfl))
          (pss_cons (ps_setDcT (i := 6) (own := [("x", 7), ("y", 8)]) (g := gTup K 2 (gCons (gName 7) (gCons (gName 8) gNil))) (tt := tYes) hu (by rfl) sc_blocks.nd rfl rfl (sw_trueD rfl rfl rfl (by decide +kernel)) (pi_tup (pe_prop (pv 0) S.cl hp PF hr pb .nil pass0 rfl)) (blkOk_by (own := [("x", 7), ("y", 8)]) (N := ["shape", "wide", "high", "found", "a", "b", "block", "x", "y"]) (sc := defScope (top 33)) (by decide +kernel))
              (fun _ _ _ _ _ => pg_tup rfl (pgs_cons (pg_name (i := 7) sc_blocks.nd rfl (.inl rfl)) (pgs_cons (pg_name (i := 8) sc_blocks.nd rfl (.inl rfl)) pgs_nil))) (fun _ _ _ _ _ => pts_nil)
              (fun _ _ _ _ _ => pe_tup (pa_cons (pe_op op_mod (pe_op op_add (pv 7) (pv 4)) (pv 1)) (pa_cons (pe_op op_mod (pe_op op_add (pv 8) (pv 5)) (pv 2)) pa_nil))) (fun _ _ _ _ _ => pe_bl))
          (pss_one (ps_if (pt_cmpR op_eq (pe_callB call_len_dT (by rfl) B.len bt_len (pa_cons (pv 6) pa_nil)) (pe_callB (call_lenI S.cl lm LF hr lb pass0) (by rfl) B.len bt_len (pa_cons (pv 0) pa_nil)) (nomark _))
            (pss_one (ps_dput hu (pv 3) (pe_tup (pa_cons (pv 4) (pa_cons (pv 5) pa_nil))) (pv 6) rfl)) pss_nil))))))
      (pss_one (ps_ret (pv 3)))), ?_⟩
    intro Bd nB
    have s1 : Same H (upd H Bd (.dT [])) := same_new nB
    have e1 : upd H Bd (.dT []) Bd = some (.dT []) := upd_same
    generalize upd H Bd (.dT []) = H1 at s1 e1
    refine ⟨_, rfl, W, rfl, by omega, by omega, ?_⟩
    refine for_it (walk_range (lo := 0) (n := W)) (fun i σ H' => ∃ y4 y5 y6, σ = [some (.ref sh), some (.int W), some (.int Hh), some (.ref Bd), y4, y5, y6, none, none] ∧ Same H H' ∧ BlocksAt H' Bd (blkM W Hh cs) ((preM Hh i 0).filter fun s => decide (blkM W Hh cs s).Nodup)) ⟨none, none, none, rfl, s1, [], e1, .nil⟩ (fun _ _ _ _ _ => trivial) ?_ ?_
    · rintro i x σ H2 H2' hi ⟨y4, y5, y6, rfl, sm, hb⟩ ⟨rfl, rfl⟩
      refine ⟨_, rfl, Hh, rfl, by omega, by omega, ?_⟩
      refine for_it (walk_range (lo := 0) (n := Hh)) (fun j σ H' => ∃ y5 y6, σ = [some (.ref sh), some (.int W), some (.int Hh), some (.ref Bd), some (.int (0 + (i : Nat))), y5, y6, none, none] ∧ Same H H' ∧ BlocksAt H' Bd (blkM W Hh cs) ((preM Hh i j).filter fun s => decide (blkM W Hh cs s).Nodup)) ⟨y5, y6, rfl, sm, hb⟩ (fun _ _ _ _ _ => trivial) ?_ ?_
      · rintro j x σ H3 H3' hj ⟨y5, y6, rfl, sm3, kvs, eB, hkv⟩ ⟨rfl, rfl⟩
        obtain ⟨dx, fs, t, es, hl, lk, ⟨vs, et, hvs⟩, hm⟩ := hsh.up sm3
        refine ⟨_, rfl, sh, dx, fs, rfl, es, sh, dx, fs, _, rfl, es, lk, t, rfl, ⟨vs, SqT.of et⟩, fun Db nD => ?_⟩
        refine dc_wl (wl_tup upCell et hvs) nD (fun _ => true) (bringM W Hh ((i : Int), (j : Int))) (Nat.le_trans h24 (by decide)) (fun σ H Q h => h) ?_ ?_
        · rintro y c H' N N0 hc sm' ⟨p, rfl, ep⟩ hN _
          refine ⟨p, _, rfl, SqT.of ep, rfl, _, _, rfl, _, _, rfl, rfl, rfl, ?_⟩
          refine ⟨_, rfl, _, rfl, _, _, rfl, rfl, _, rfl, _, _, rfl, rfl, by show (0 : Int) < W; omega, ?_⟩
          refine ⟨_, rfl, _, rfl, _, _, rfl, rfl, _, rfl, _, _, rfl, rfl, by show (0 : Int) < Hh; omega, ?_⟩
          refine ⟨by show 2 ≤ sizeLine; decide, fun p1 n1 => hN _ _ _ rfl (same_new n1) ⟨p1, rfl, ?_⟩⟩
          rw [upd_same]
          show some (HO.tup [V.int ((c.1 + (0 + (i : Int))) % W), V.int ((c.2 + (0 + (j : Int))) % Hh)]) = some (HO.tup [V.int ((c.1 + (i : Int)) % W), V.int ((c.2 + (j : Int)) % Hh)])
          rw [Int.zero_add, Int.zero_add]
        intro H4 s4 hds
        rw [filter_t] at hds
        have hbl : cs.map (bringM W Hh ((i : Int), (j : Int))) = blkM W Hh cs ((i : Int), (j : Int)) := rfl
        rw [hbl] at hds
        obtain ⟨f1, f2, f3, f4⟩ := ddC_facts (blkM W Hh cs ((i : Int), (j : Int)))
        have hbll : (blkM W Hh cs ((i : Int), (j : Int))).length = cs.length := blk_len _
        obtain ⟨bkv, eb, hbk⟩ := id hds
        have hbn := keys_len hbk
        have es4 := s4 _ _ es
        have sh4 : ShapeAt C H4 sh cs := ShapeAt.up s4 ⟨dx, fs, t, es, hl, lk, ⟨vs, et, hvs⟩, hm⟩
        refine ⟨_, rfl, Db, bkv, rfl, eb, _, rfl, sh, dx, fs, rfl, es4, sh, cs, rfl, sh4, _, rfl, by omega, by omega, rfl, ?_⟩
        have sm4 := sm3.trans s4
        have eB4 := s4 _ _ eB
        have hkv4 : Paired (BlkV Bd (blkM W Hh cs) H4) kvs ((preM Hh i j).filter fun s => decide (blkM W Hh cs s).Nodup) := Paired.mapP hkv fun _ _ q => q.up fun b o _ e => s4 b o e
        have hDB : Db ≠ Bd := fun z => by
          rw [z] at nD
          rw [nD] at eB
          cases eB
        by_cases hnd : (blkM W Hh cs ((i : Int), (j : Int))).Nodup
        · have hdd := ddC_id hnd
          have hc : decide (V.int (bkv.length : Nat) = V.int (cs.length : Nat)) = true := decide_eq_true (by rw [hbn, hdd, hbll])
          rw [hc]
          refine ⟨true, rfl, iteT ?_⟩
          have hpl := pre_len Hh i j
          have hkl := paired_len hkv4
          have hfl := List.length_filter_le (fun s => decide (blkM W Hh cs s).Nodup) (preM Hh i j)
          have hij : i * Hh + j < sizeLine := by
            have : i * Hh ≤ 36 * 36 := Nat.mul_le_mul (by have : i < W := hi; omega) hh
            have h2 : (36 * 36 + 36 : Nat) < sizeLine := by rw [sizeLine_eq]; decide
            have : j < Hh := hj
            omega
          refine ⟨_, rfl, _, rfl, _, rfl, _, rfl, by show 2 ≤ sizeLine; decide, fun pk nk => ?_⟩
          have s5 : Same H4 (upd H4 pk (.tup [.int (0 + (i : Int)), .int (0 + (j : Int))])) := same_new nk
          have ek : upd H4 pk (.tup [.int (0 + (i : Int)), .int (0 + (j : Int))]) pk = some (.tup ((keyC ((i : Int), (j : Int))).map kV)) := by
            rw [upd_same, Int.zero_add, Int.zero_add]
            rfl
          generalize upd H4 pk (.tup [.int (0 + (i : Int)), .int (0 + (j : Int))]) = H5 at s5 ek
          have eB5 := s5 _ _ eB4
          have hkv5 : Paired (BlkV Bd (blkM W Hh cs) H5) kvs ((preM Hh i j).filter fun s => decide (blkM W Hh cs s).Nodup) := Paired.mapP hkv4 fun _ _ q => q.up fun b o _ e => s5 b o e
          have hlt : kvs.length < sizeLine := by
            rw [hkl]
            exact Nat.lt_of_le_of_lt hfl (by rw [hpl]; exact hij)
          refine ⟨Bd, _, rfl, DPut.t eB5 ek hlt, ?_⟩
          have hnew : valV kvs (keyC ((i : Int), (j : Int))) = none := by
            have h1 := keys_val (blocks_keys hkv5) ((i : Int), (j : Int))
            have h2 : ((i : Int), (j : Int)) ∉ (preM Hh i j).filter fun s => decide (blkM W Hh cs s).Nodup := fun h => by
              have := mem_pre (List.mem_filter.mp h).1
              dsimp only at this
              omega
            rw [decide_eq_false h2] at h1
            cases hv : valV kvs (keyC ((i : Int), (j : Int))) with
            | none => rfl
            | some z =>
              rw [hv] at h1
              cases h1
          rw [putK_new _ hnew]
          refine ⟨_, _, rfl, fun b o e => ?_, _, upd_same, ?_⟩
          · have : b ≠ Bd := ne_of_none e nB
            rw [upd_ne this]
            exact s5 _ _ (sm4 _ _ e)
          · rw [pre_col, List.filter_append]
            have : [((i : Int), (j : Int))].filter (fun s => decide (blkM W Hh cs s).Nodup) = [((i : Int), (j : Int))] := by
              rw [List.filter_cons, decide_eq_true hnd]
              rfl
            rw [this]
            refine Paired.snoc (Paired.mapP hkv5 fun _ _ q => q.up fun b o n e => by rw [upd_ne n]; exact e) ⟨rfl, Db, rfl, hDB, ?_⟩
            rw [hdd] at hds
            obtain ⟨z, z1, z2⟩ := hds
            exact ⟨z, by rw [upd_ne hDB]; exact s5 _ _ z1, z2⟩
        · have hc : decide (V.int (bkv.length : Nat) = V.int (cs.length : Nat)) = false := decide_eq_false fun z => by
            injection z with z
            exact hnd (f4 (by omega)).1
          rw [hc]
          refine ⟨false, rfl, iteF ⟨_, _, rfl, sm4, kvs, eB4, ?_⟩⟩
          rw [pre_col, List.filter_append]
          have : [((i : Int), (j : Int))].filter (fun s => decide (blkM W Hh cs s).Nodup) = [] := by
            rw [List.filter_cons, decide_eq_false hnd]
            rfl
          rw [this, List.append_nil]
          exact hkv4
      · rintro σ H3 ⟨y5, y6, rfl, sm3, hb3⟩
        refine ⟨_, _, _, rfl, sm3, ?_⟩
        rw [pre_zero, ← pre_row]
        exact hb3
    · rintro σ H2 ⟨y4, y5, y6, rfl, sm, hb⟩
      rw [pre_zero] at hb
      exact ⟨_, rfl, q Bd H2 sm hb⟩
end
end Sf

/-! without, moves_for. -/
namespace Sf
open PySem PySem.Spec PyProof.Rows L2
theorem dataLe_cD : PySem.W.dataLe false cD = leC := by
  have h : PySem.W.dataLe false cD = fun p q : Cel => decide (p.1 < q.1 ∨ (p.1 = q.1 ∧ p.2 ≤ q.2)) := PySem.W.dataLe_ii (fun c : Cel => c.1) (fun c => c.2)
  rw [h]
  funext p q
  unfold leC
  by_cases h1 : p.1 < q.1 <;> by_cases h2 : p.1 = q.1 <;> by_cases h3 : p.2 ≤ q.2 <;> simp [h1, h2, h3]
theorem zr_sorted (n : Nat) : (zr n).Pairwise (· < ·) := by
  unfold zr
  rw [List.pairwise_map]
  exact List.pairwise_lt_range.imp fun h => Int.ofNat_lt.mpr h
theorem places_sorted (W Hh : Nat) : (placesM W Hh).Pairwise fun a b => leC a b = true := by
  unfold placesM
  rw [List.pairwise_flatMap]
  refine ⟨fun x _ => ?_, (zr_sorted W).imp fun {a b} h p hp q hq => ?_⟩
  · rw [List.pairwise_map]
    refine List.Pairwise.imp (R := fun a b : Int => a < b) (fun {a b} h => ?_) (zr_sorted Hh)
    exact leC_iff.mpr (.inr ⟨rfl, Int.le_of_lt h⟩)
  · obtain ⟨y, _, rfl⟩ := List.mem_map.mp hp
    obtain ⟨z, _, rfl⟩ := List.mem_map.mp hq
    exact leC_iff.mpr (.inl h)
theorem ok_sort (W Hh : Nat) (cs : List Cel) : (okM W Hh cs).mergeSort (PySem.W.dataLe false cD) = okM W Hh cs := by
  rw [dataLe_cD]
  exact List.mergeSort_of_pairwise ((places_sorted W Hh).sublist List.filter_sublist)
theorem unlock {H H' : Hp} {d : Addr} {od : Obj} {u : HO} (e : H d = some u) (s : Same (upd H d (.frz od u)) H') : Same H (upd H' d u) := fun b o eb => by
  by_cases h : b = d
  · rw [h, upd_same, ← e, h.symm]
    exact eb
  · rw [upd_ne h]
    exact s _ _ (by rw [upd_ne h]; exact eb)
theorem tups_frz {H : Hp} {d : Addr} {od : Obj} {kvs : List (List Key × V)} (e : H d = some (.dT kvs)) : Tups H (upd H d (.frz od (.dT kvs))) := tups_dT e
/-- a walk over a locked dict of cells -/
theorem wl_keys {d : Addr} {o : Obj} {kvs : List (List Key × V)} {cs : List Cel} {H : Hp} (e : H d = some (.frz o (.dT kvs))) (hk : KeysC kvs cs) : WL CellV (Itkt d o kvs) cs H := by
  have w := walk_keysT (d := d) (o := o) (kvs := kvs)
  have hl := keys_len hk
  unfold WL
  rw [← hl]
  refine w.mono (fun H' s => s _ _ e) (fun i H' x H2 hi s ⟨e1, k, v, q, h1, h2, h3⟩ => ⟨e1, ?_⟩)
  have h4 : (kvs.map (·.1))[i]? = some k := by rw [List.getElem?_map, h1]; rfl
  rw [hk, List.getElem?_map] at h4
  obtain ⟨c, hc, ek⟩ := Option.map_eq_some_iff.mp h4
  subst ek
  exact ⟨c, hc, q, h2, h3⟩
theorem contains_dec {l : List Cel} {c : Cel} : l.contains c = decide (c ∈ l) := by
  by_cases h : c ∈ l
  · rw [decide_eq_true h]
    exact List.contains_iff_mem.mpr h
  · rw [decide_eq_false h]
    exact Bool.eq_false_iff.mpr fun z => h (List.contains_iff_mem.mp z)
section
variable {P : Program} {w : World} {K : PySem.W.Frag} {mg : Str → Option Value} {base : Heap} {C : Addr}
theorem sc_without : FnScope ["left", "block", "cell"] ["left", "block"] (defScope (top 35)) := ⟨rfl, rfl, rfl, by decide +kernel, rfl, by decide +kernel, by decide +kernel⟩
def sp_without : Sp := fun vs H Q _ => ∃ (a b : Addr) (left bl : List Cel), vs = [.ref a, .ref b] ∧ CellsT H a left ∧ DSet H b bl ∧ left.length ≤ 36 ∧ ∀ p H', Same H H' → CellsT H' p (withoutM left bl) → Q (.ref p) H'
theorem cal_without (B : Bi mg) (D : Def K mg "without" (top 35) ["left", "block"]) : Cal P w K mg base 1 "without" ["left", "block"] sp_without := by
  refine D.cal sc_without (fun vs H Q E h => ?_) (fun f cdv A outer s H vs Q E hr h => ?_)
  · obtain ⟨a, b, left, bl, rfl, _⟩ := h
    rfl
  · obtain ⟨a, b, left, bl, rfl, ⟨vs, ea, hvs⟩, ⟨kvs, eb, hk⟩, h36, q⟩ := h
    have hu := hu_of hr
    refine ⟨_, pss_one (ps_ret (pe_callTy call_tuple_of (by rfl) B.tuple bt_tuple (pa_cons
        (pe_lc (own := [("cell", 2)]) (g := gName 2) (by rfl) sc_without.nd (pi_tup (pv 0)) (blkOk_by (own := [("cell", 2)]) (N := ["left", "block", "cell"]) (sc := defScope (top 35)) (by decide +kernel))
          (fun _ _ _ _ _ => pg_name (i := 2) sc_without.nd rfl (.inl rfl)) (fun _ _ _ _ _ => pts_one (pt_cmp (pc_dnotin hu (pv 2) (pv 1)))) (fun _ _ _ _ _ => pv 2)) pa_nil))), ?_⟩
    refine ⟨_, rfl, a, rfl, ⟨vs, SqT.of ea⟩, fun Dl nD => ?_⟩
    refine lc_wl (F := CellV) (wl_tup upCell ea hvs) nD upCell (fun c => !bl.contains c) id (Nat.le_trans h36 (by decide)) ?_ ?_
    · rintro x c H' N N0 hc sm ⟨p, rfl, ep⟩ hN hN0
      refine ⟨rfl, _, rfl, _, rfl, b, _, rfl, DGet.t (k := keyC c) (sm _ _ eb) ep, _, rfl, ?_⟩
      rw [keys_val hk, ← contains_dec]
      cases h : bl.contains c with
      | true => exact iteF (hN0 _ (by rw [h]; rfl) (Same.refl _))
      | false => exact iteT ⟨_, rfl, hN _ _ (by rw [h]; rfl) (Same.refl _) ⟨p, rfl, ep⟩⟩
    intro H1 ys s1 e1 hys
    rw [List.map_id] at hys
    refine ⟨Dl, ys, rfl, .inl ⟨SqL.of e1, fun p np => ?_⟩⟩
    have s2 : Same H1 (upd H1 p (.tup ys)) := same_new np
    exact q p _ (s1.trans s2) ⟨ys, upd_same, CellVs.up (Same.tups s2) hys⟩
theorem sc_moves : FnScope ["blocks", "left", "some", "shove", "cell"] ["blocks", "left"] (defScope (top 34)) := ⟨rfl, rfl, rfl, by decide +kernel, rfl, by decide +kernel, by decide +kernel⟩
def sp_moves : Sp := fun vs H Q _ => ∃ (d a : Addr) (Bk : Cel → List Cel) (ss left : List Cel), vs = [.ref d, .ref a] ∧ BlocksAt H d Bk ss ∧ ss.mergeSort (PySem.W.dataLe false cD) = ss ∧ CellsT H a left ∧ left ≠ [] ∧ ss.length ≤ 36 ∧ (∀ s ∈ ss, (Bk s).length ≤ 24) ∧
  ∀ p H', Same H H' → H p = none → CellsL H' p (movesM ss Bk left) → Q (.ref p) H'
def lcScope : Expr → Scope
  | .ListComp _ _ s _ => s
  | _ => defScope (top 34)
def retOf : Stmt → Expr
  | .Return (some e) _ => e
  | _ => .Constant .none 0 ⟨0, 0, 0, 0⟩
abbrev scMv : Scope := relS (lcScope (retOf ((defBody (top 34)).getD 1 (.Pass ⟨0, 0, 0, 0⟩)))) (defScope (top 34))
def BoolV (_ : Hp) (v : V) (b : Bool) : Prop := v = .bl b
theorem upBool : Up BoolV := fun _ _ _ _ _ h => h
theorem bools_map {H : Hp} : ∀ {vs : List V} {is : List Bool}, Paired (BoolV H) vs is → vs = is.map V.bl
  | _, _, .nil => rfl
  | _, _, .cons q t => by rw [bools_map t, q]; rfl
theorem cal_moves (B : Bi mg) (D : Def K mg "moves_for" (top 34) ["blocks", "left"]) : Cal P w K mg base 1 "moves_for" ["blocks", "left"] sp_moves := by
  refine D.cal sc_moves (fun vs H Q E h => ?_) (fun f cdv A outer s H vs Q E hr h => ?_)
  · obtain ⟨d, a, Bk, ss, left, rfl, _⟩ := h
    rfl
  · obtain ⟨d, a, Bk, ss, left, rfl, ⟨kvs, ed, hkv⟩, hss, ⟨vs, ea, hvs⟩, hne, h36, hb24, q⟩ := h
    have hu := hu_of hr
    have h65 := room65 hr
    refine ⟨_, pss_cons (ps_setLc (i := 2) (own := [("shove", 3)]) (g := gName 3) (by rfl) sc_moves.nd rfl rfl (sw_true rfl rfl rfl (by decide +kernel)) (pi_list (pe_callB (cr_sortedDT rfl hr.units) (by rfl) B.sorted bt_sorted (pa_cons (pv 0) pa_nil))) (blkOk_by (own := [("shove", 3)]) (N := ["blocks", "left", "some", "shove", "cell"]) (sc := defScope (top 34)) (by decide +kernel))
        (fun _ _ _ _ _ => pg_name (i := 3) sc_moves.nd rfl (.inl rfl)) (fun _ _ _ _ _ => pts_one (pt_cmp (pc_din hu (pe_ix (r := rIxT K) ix_tup (pv 1) pe_int (fun _ _ => rfl)) (pe_dget hu (pv 0) (pv 3) (fun _ _ => rfl))))) (fun _ _ _ _ _ => pv 3))
      (pss_one (ps_ret (pe_lc (own := [("shove", 3)]) (g := gName 3) (by rfl) sc_moves.nd (pi_list (pv 2)) (blkOk_by (own := [("shove", 3)]) (N := ["blocks", "left", "some", "shove", "cell"]) (sc := defScope (top 34)) (by decide +kernel))
        (fun _ _ _ _ _ => pg_name (i := 3) sc_moves.nd rfl (.inl rfl))
        (fun _ _ _ _ _ => pts_one (pt_val (pe_callB (r := rAll K) (cr_all rfl) (by rfl) B.all bt_all (pa_cons (pe_lock (pe_lc (own := [("cell", 4)]) (g := gName 4) (tt := tYes) (by rfl) sc_moves.nd (pi_keys (pe_dget hu (pv 0) (pv 3) (fun _ _ => rfl))) (blkOk_by (own := [("cell", 4)]) (N := ["blocks", "left", "some", "shove", "cell"]) (sc := scMv) (by decide +kernel))
          (fun _ _ _ _ _ => pg_name (i := 4) sc_moves.nd rfl (.inl rfl)) (fun _ _ _ _ _ => pts_nil) (fun _ _ _ _ _ => pe_cmpR (r := rInDT K) (op_inDT h65) (pv 4) (pv 1) (by rfl)))) pa_nil)))) (fun _ _ _ _ _ => pv 3)))), ?_⟩
    obtain ⟨c0, cr, rfl⟩ := List.exists_cons_of_ne_nil hne
    obtain ⟨v0, hv0, p0, rfl, ep0⟩ := Paired.at2 hvs (i := 0) rfl
    refine ⟨_, rfl, d, kvs, ss, rfl, .inl ed, blocks_keys hkv, fun ys p hys np => ?_⟩
    rw [hss] at hys
    have s1 : Same H (upd H p (.lst ys)) := same_new np
    have e1 : upd H p (.lst ys) p = some (.lst ys) := upd_same
    have hys1 := CellVs.up (Same.tups s1) hys
    generalize upd H p (.lst ys) = H1 at s1 e1 hys1
    refine ⟨p, rfl, ⟨ys, SqL.of e1⟩, fun D1 nD1 => ?_⟩
    have hz : ss.length ≤ sizeLine := Nat.le_trans h36 (by decide)
    refine lc_wl (F := CellV) (wl_list upCell e1 hys1) nD1 upCell (fun s => (Bk s).contains c0) id hz ?_ ?_
    · rintro x c H' N N0 hc sm ⟨px, rfl, ex⟩ hN hN0
      obtain ⟨b, hb1, hb2, bkv, hb3, hb4⟩ := blocks_val hkv hc
      have sm' := s1.trans sm
      have hdg : DGet H' d (.ref px) (some (.ref b)) := by
        have := DGet.t (k := keyC c) (sm' _ _ ed) ex
        rwa [hb1] at this
      refine ⟨rfl, _, rfl, a, vs, 0, .ref p0, rfl, rfl, SqT.of (sm' _ _ ea), atI_nat (j := 0) hv0, _, rfl, _, rfl, d, .ref b, rfl, hdg, b, _, rfl, DGet.t (k := keyC c0) (sm' _ _ hb3) (sm' _ _ ep0), _, rfl, ?_⟩
      rw [keys_val hb4, ← contains_dec]
      cases h : (Bk c).contains c0 with
      | true => exact iteT ⟨_, rfl, hN _ _ h (Same.refl _) ⟨px, rfl, ex⟩⟩
      | false => exact iteF (hN0 _ h (Same.refl _))
    intro H2 zs s2 e2 hzs
    rw [List.map_id] at hzs
    have s02 := s1.trans s2
    refine ⟨_, rfl, D1, rfl, ⟨zs, SqL.of e2⟩, fun D2 nD2 => ?_⟩
    refine lc_wl (F := CellV) (wl_list upCell e2 hzs) nD2 upCell (fun s => (Bk s).all fun c => (c0 :: cr).contains c) id (Nat.le_trans (List.length_filter_le _ _) hz) ?_ ?_
    · rintro x c H' N N0 hc sm ⟨px, rfl, ex⟩ hN hN0
      have hc' := (List.mem_filter.mp hc).1
      obtain ⟨b, hb1, hb2, bkv, hb3, hb4⟩ := blocks_val hkv hc'
      have sm' := s02.trans sm
      have hbH := sm' _ _ hb3
      refine ⟨rfl, b, _, hbH, trivial, fun od => ?_⟩
      have eL : upd H' b (.frz od (.dT bkv)) b = some (.frz od (.dT bkv)) := upd_same
      have edL : upd H' b (.frz od (.dT bkv)) d = some (.dT kvs) := by rw [upd_ne hb2.symm]; exact sm' _ _ ed
      have tL : Tups H' (upd H' b (.frz od (.dT bkv))) := tups_frz hbH
      have exL := tL _ _ ex
      have eaL := tL _ _ (sm' _ _ ea)
      have hvsL := CellVs.up ((Same.tups sm').trans tL) hvs
      have un : ∀ H3, Same (upd H' b (.frz od (.dT bkv))) H3 → Same H' (upd H3 b (.dT bkv)) := fun H3 s3 => unlock hbH s3
      generalize upd H' b (.frz od (.dT bkv)) = HL at eL edL tL exL eaL hvsL un
      have hdg : DGet HL d (.ref px) (some (.ref b)) := by
        have := DGet.t (k := keyC c) edL exL
        rwa [hb1] at this
      refine ⟨_, rfl, _, rfl, d, .ref b, rfl, hdg, b, od, rfl, .inr ⟨bkv, eL, fun D3 nD3 => ?_⟩⟩
      refine lc_wl (F := BoolV) (wl_keys eL hb4) nD3 upBool (fun _ => true) (fun c => (c0 :: cr).contains c) (Nat.le_trans (hb24 c hc') (by decide)) ?_ ?_
      · rintro y e H3 M M0 he s3 hv hM _
        refine ⟨rfl, _, rfl, _, rfl, cD e, (c0 :: cr).map cD, hv.dp, .tup (SqT.of (s3 _ _ eaL)) (CellVs.dp (CellVs.up (Same.tups s3) hvsL)), rfl, lD_shaped (c0 :: cr), ?_⟩
        rw [any_cD, ← contains_dec]
        exact hM _ _ rfl (Same.refl _) rfl
      · intro H3 us s3 e3 hus
        rw [filter_t] at hus
        have hD3 : D3 ≠ b := fun z => by
          rw [z, eL] at nD3
          cases nD3
        refine ⟨s3 _ _ eL, D3, (Bk c).map (fun c => (c0 :: cr).contains c), rfl, SqL.of (by rw [upd_ne hD3, e3, bools_map hus]), _, rfl, ?_⟩
        have hall : ((Bk c).map fun c => (c0 :: cr).contains c).all id = (Bk c).all fun c => (c0 :: cr).contains c := by
          rw [List.all_map]
          rfl
        rw [hall]
        cases h : (Bk c).all fun c => (c0 :: cr).contains c with
        | true => exact iteT ⟨_, rfl, hN _ _ h (un _ s3) ⟨px, rfl, un _ s3 _ _ ex⟩⟩
        | false => exact iteF (hN0 _ h (un _ s3))
    · intro H4 ws s4 e4 hws
      rw [List.map_id, List.filter_filter] at hws
      refine q D2 H4 (s02.trans s4) (none_of_same s02 nD2) ⟨ws, e4, ?_⟩
      have : (ss.filter fun s => ((Bk s).all fun c => (c0 :: cr).contains c) && (Bk s).contains c0) = movesM ss Bk (c0 :: cr) := by
        unfold movesM
        refine List.filter_congr fun s _ => ?_
        exact Bool.and_comm _ _
      rw [← this]
      exact hws
end
end Sf

/-! Comprehensions whose items are lists. -/
namespace Sf
open PySem PySem.Spec PyProof.Rows L2
section
variable {β γ : Type} {G : Hp → V → β → Prop}
theorem wl_listS {K : PySem.W.Frag} {a : Addr} {vs : List V} {bs : List β} {H : Hp} (u : ∀ H H' v b, Same H H' → G H v b → G H' v b) (e : H a = some (.lst vs)) (h : Paired (G H) vs bs) : WL G (Itl K a) bs H := by
  have w := walk_list (K := K) (a := a) (xs := vs)
  have hl := paired_len h
  unfold WL
  rw [← hl]
  exact w.mono (fun H' s => SqL.of (s _ _ e)) (fun i H' x H2 _ s ⟨e1, e2⟩ => ⟨e1, let ⟨b, e3, g⟩ := Paired.at h e2; ⟨b, e3, u _ _ _ _ s g⟩⟩)
theorem wl_tupS {K : PySem.W.Frag} {a : Addr} {vs : List V} {bs : List β} {H : Hp} (u : ∀ H H' v b, Same H H' → G H v b → G H' v b) (e : H a = some (.tup vs)) (h : Paired (G H) vs bs) : WL G (Itt K a) bs H := by
  have w := walk_tup (K := K) (a := a) (xs := vs)
  have hl := paired_len h
  unfold WL
  rw [← hl]
  exact w.mono (fun H' s => SqT.of (s _ _ e)) (fun i H' x H2 _ s ⟨e1, e2⟩ => ⟨e1, let ⟨b, e3, g⟩ := Paired.at h e2; ⟨b, e3, u _ _ _ _ s g⟩⟩)
/-- .. whose items may be lists, never the new list itself -/
theorem lc_wlX {J : It} {bs : List β} {H1 : Hp} {F : Hp → V → γ → Prop} {g : TG} {tt : TT} {te : TE} {vs : List Nat} {σ : L2.St} {D : Addr} {Qd : Hp → Prop} (w : WL G J bs H1) (nD : H1 D = none) (u : ∀ H H' v b, SameX D H H' → F H v b → F H' v b) (p : β → Bool) (f : β → γ) (hz : bs.length ≤ sizeLine)
    (hs : ∀ x b H' (N : V → Hp → Prop) (N0 : Hp → Prop), b ∈ bs → Same H1 H' → (∃ ys, H' D = some (.lst ys)) → G H' x b → (∀ y H4, p b = true → Same H' H4 → F H4 y (f b) → N y H4) → (∀ H4, p b = false → Same H' H4 → N0 H4) →
      g x (wipe σ vs) H' fun σ2 H2 => wipe σ2 vs = wipe σ vs ∧ tt σ2 H2 fun c H3 => if c = true then te σ2 H3 N else N0 H3)
    (hd : ∀ H' ys, Same H1 H' → H' D = some (.lst ys) → Paired (F H') ys ((bs.filter p).map f) → Qd H') :
    ∃ W : Nat → Nat → Hp → Prop, (∃ m, W 0 m (upd H1 D (.lst []))) ∧ ∀ i m H, W i m H →
      (J.stop i H ∧ Qd H) ∨ (J.go i H ∧ ∃ Nx : Hp → Prop, (∀ H', Nx H' → ∃ m', m' < m ∧ W (i + 1) m' H') ∧ ∀ x H', J.yld i H x H' → g x (wipe σ vs) H' fun σ2 H2 => wipe σ2 vs = wipe σ vs ∧ tt σ2 H2 fun b H3 =>
        if b = true then te σ2 H3 fun y H4 => ∃ acc, H4 D = some (.lst acc) ∧ acc.length < sizeLine ∧ Nx (upd H4 D (.lst (acc ++ [y]))) else Nx H3) := by
  refine lc_it w (fun i H' => Same H1 H' ∧ ∃ ys, H' D = some (.lst ys) ∧ Paired (F H') ys (((bs.take i).filter p).map f)) ⟨same_new nD, [], upd_same, .nil⟩ (fun i H' _ h => h.1) ?_ ?_
  · rintro i x H H' hi ⟨sm, ys, eD, hp⟩ ⟨rfl, b, hb, hg⟩
    have ht : bs.take (i + 1) = bs.take i ++ [b] := by
      rw [List.take_add_one, hb]
      rfl
    have hyl : ys.length < sizeLine := by
      have h1 := paired_len hp
      rw [List.length_map] at h1
      have h2 : ((bs.take i).filter p).length ≤ (bs.take i).length := List.length_filter_le _ _
      rw [List.length_take] at h2
      have : i < bs.length := hi
      omega
    refine hs x b H' _ _ (List.mem_of_getElem? hb) sm ⟨ys, eD⟩ hg (fun y H4 hpb s4 hF => ?_) (fun H4 hpb s4 => ?_)
    · have s5 := sm.trans s4
      refine ⟨ys, s4 _ _ eD, hyl, same_own s5 nD, ys ++ [y], upd_same, ?_⟩
      have t4 : SameX D H4 (upd H4 D (.lst (ys ++ [y]))) := SameX.put
      rw [ht, List.filter_append, List.map_append]
      have : [b].filter p = [b] := by
        rw [List.filter_cons, hpb]
        rfl
      rw [this]
      exact Paired.snoc (Paired.mapP hp fun v b h => u _ _ _ _ ((SameX.of s4).trans t4) h) (u _ _ _ _ t4 hF)
    · refine ⟨sm.trans s4, ys, s4 _ _ eD, ?_⟩
      rw [ht, List.filter_append, List.map_append]
      have : [b].filter p = [] := by
        rw [List.filter_cons, hpb]
        rfl
      rw [this, List.map_nil, List.append_nil]
      exact Paired.mapP hp fun v b h => u _ _ _ _ (SameX.of s4) h
  · rintro H' ⟨sm, ys, eD, hp⟩
    rw [List.take_length] at hp
    exact hd H' ys sm eD hp
end
/-- an item: a list of cells; it and its cells do not stand at Ls -/
def CellX (Ls : List Addr) (H : Hp) (v : V) (c : Cel) : Prop := ∃ p, v = .ref p ∧ p ∉ Ls ∧ H p = some (.tup [.int c.1, .int c.2])
def FillE (Ls : List Addr) (H : Hp) (v : V) (l : List Cel) : Prop := ∃ a, v = .ref a ∧ a ∉ Ls ∧ ∃ vs, H a = some (.lst vs) ∧ Paired (CellX Ls H) vs l
theorem FillE.up {x : Addr} {Ls : List Addr} (m : x ∈ Ls) {H H' : Hp} (s : SameX x H H') {v : V} {l : List Cel} (h : FillE Ls H v l) : FillE Ls H' v l := by
  obtain ⟨a, e, n, vs, ea, hv⟩ := h
  have ne : ∀ p, p ∉ Ls → p ≠ x := fun p hp z => hp (z ▸ m)
  exact ⟨a, e, n, vs, s _ _ (ne a n) ea, Paired.mapP hv fun _ _ ⟨p, e1, n1, e2⟩ => ⟨p, e1, n1, s _ _ (ne p n1) e2⟩⟩
theorem FillE.same {Ls : List Addr} {H H' : Hp} (s : Same H H') {v : V} {l : List Cel} (h : FillE Ls H v l) : FillE Ls H' v l := by
  obtain ⟨a, e, n, vs, ea, hv⟩ := h
  exact ⟨a, e, n, vs, s _ _ ea, Paired.mapP hv fun _ _ ⟨p, e1, n1, e2⟩ => ⟨p, e1, n1, s _ _ e2⟩⟩
theorem FillE.sub {Ls Ms : List Addr} (m : ∀ x ∈ Ms, x ∈ Ls) {H : Hp} {v : V} {l : List Cel} (h : FillE Ls H v l) : FillE Ms H v l := by
  obtain ⟨a, e, n, vs, ea, hv⟩ := h
  exact ⟨a, e, fun z => n (m _ z), vs, ea, Paired.mapP hv fun _ _ ⟨p, e1, n1, e2⟩ => ⟨p, e1, fun z => n1 (m _ z), e2⟩⟩
theorem FillE.cells {Ls : List Addr} {H : Hp} {v : V} {l : List Cel} (h : FillE Ls H v l) : ∃ a, v = .ref a ∧ CellsL H a l := by
  obtain ⟨a, e, n, vs, ea, hv⟩ := h
  exact ⟨a, e, vs, ea, Paired.mapP hv fun _ _ ⟨p, e1, n1, e2⟩ => ⟨p, e1, e2⟩⟩
/-- no tuple stands at Ls -/
def NoTup (H : Hp) (Ls : List Addr) : Prop := ∀ x ∈ Ls, ∀ xs, H x ≠ some (.tup xs)
theorem cellX_of {Ls : List Addr} {H : Hp} (n : NoTup H Ls) {v : V} {c : Cel} (h : CellV H v c) : CellX Ls H v c := by
  obtain ⟨p, e, ep⟩ := h
  exact ⟨p, e, fun z => n p z _ ep, ep⟩
/-- at p a list of lists of cells -/
def LofL (H : Hp) (p : Addr) (ls : List (List Cel)) : Prop := ∃ vs, H p = some (.lst vs) ∧ Paired (FillE [p] H) vs ls
end Sf

/-! all_fillings. -/
namespace Sf
open PySem PySem.Spec PyProof.Rows L2
/-- what is known of the shoves and their blocks -/
structure FF (ss : List Cel) (Bk : Cel → List Cel) (n : Nat) : Prop where
  srt : ss.mergeSort (PySem.W.dataLe false cD) = ss
  few : ss.length ≤ 36
  nd : ∀ s ∈ ss, (Bk s).Nodup
  len : ∀ s ∈ ss, (Bk s).length = n
  pos : 0 < n
  le : n ≤ 24
theorem fill_count {ss : List Cel} {Bk : Cel → List Cel} {n : Nat} (ff : FF ss Bk n) {left l : List Cel} (h : l ∈ FL ss Bk left) (nd : left.Nodup) : l.length ≤ left.length := by
  obtain ⟨h1, h2⟩ := fills_sound _ _ _ nd ff.nd h
  have h3 := h2.length_eq
  rw [flat_len (fun s hs => ff.len s (h1 s hs))] at h3
  rw [← h3]
  exact Nat.le_mul_of_pos_right _ ff.pos
theorem flat_take {α β : Type} (g : α → List β) {l : List α} {i : Nat} {s : α} (h : l[i]? = some s) : (l.take (i + 1)).flatMap g = (l.take i).flatMap g ++ g s := by
  have : l.take (i + 1) = l.take i ++ [s] := by
    rw [List.take_add_one, h]
    rfl
  rw [this, List.flatMap_append, List.flatMap_cons, List.flatMap_nil, List.append_nil]
theorem flat_take_le {α β : Type} (g : α → List β) (l : List α) (i : Nat) : ((l.take i).flatMap g).length ≤ (l.flatMap g).length := by
  have : l.flatMap g = (l.take i).flatMap g ++ (l.drop i).flatMap g := by rw [← List.flatMap_append, List.take_append_drop]
  rw [this, List.length_append]
  exact Nat.le_add_right _ _
theorem flat_mem_le {α β : Type} (g : α → List β) : ∀ {l : List α} {s : α}, s ∈ l → (g s).length ≤ (l.flatMap g).length
  | [], _, h => absurd h List.not_mem_nil
  | x :: r, s, h => by
    rw [List.flatMap_cons, List.length_append]
    rcases List.mem_cons.mp h with rfl | h
    · exact Nat.le_add_right _ _
    · exact Nat.le_trans (flat_mem_le g h) (Nat.le_add_left _ _)
section
variable {P : Program} {w : World} {K : PySem.W.Frag} {mg : Str → Option Value} {base : Heap} {C : Addr}
theorem sc_fill : FnScope ["blocks", "left", "found", "shove", "some"] ["blocks", "left"] (defScope (top 36)) := ⟨rfl, rfl, rfl, by decide +kernel, rfl, by decide +kernel, by decide +kernel⟩
def sp_fill (k : Nat) : Sp := fun vs H Q _ => ∃ (d a : Addr) (Bk : Cel → List Cel) (ss left : List Cel) (n : Nat), vs = [.ref d, .ref a] ∧ BlocksAt H d Bk ss ∧ CellsT H a left ∧ FF ss Bk n ∧ left.Nodup ∧ left.length ≤ 36 ∧ left.length < n * k ∧ (FL ss Bk left).length ≤ sizeLine ∧
  ∀ p H', Same H H' → LofL H' p (FL ss Bk left) → Q (.ref p) H'
theorem cal_fill (Cm : Cal P w K mg base 1 "moves_for" ["blocks", "left"] sp_moves) (Cw : Cal P w K mg base 1 "without" ["left", "block"] sp_without) (D : Def K mg "all_fillings" (top 36) ["blocks", "left"]) : ∀ k, Cal P w K mg base (k + 2) "all_fillings" ["blocks", "left"] (sp_fill k)
  | 0 => by
    refine D.cal sc_fill (fun vs H Q E h => ?_) (fun f cdv A outer s H vs Q E hr h => ?_)
    · obtain ⟨d, a, Bk, ss, left, n, rfl, _⟩ := h
      rfl
    · obtain ⟨d, a, Bk, ss, left, n, rfl, _, _, _, _, _, h, _⟩ := h
      rw [Nat.mul_zero] at h
      exact absurd h (Nat.not_lt_zero _)
  | k + 1 => by
    have CA := cal_fill Cm Cw D k
    refine D.cal sc_fill (fun vs H Q E h => ?_) (fun f cdv A outer s H vs Q E hr h => ?_)
    · obtain ⟨d, a, Bk, ss, left, n, rfl, _⟩ := h
      rfl
    · obtain ⟨d, a, Bk, ss, left, n, rfl, hb, ⟨vs, ea, hvs⟩, ff, hnd, h36, hk, hsz, q⟩ := h
      have hu := hu_of hr
      refine ⟨_, pss_cons (ps_if (pt_cmpR (op_eqD hr.units) (pv 1) (pe_tup pa_nil) (nomark _)) (pss_one (ps_ret (pe_lst (pa_cons (pe_lst pa_nil) pa_nil)))) pss_nil)
        (pss_cons (ps_set (i := 2) sc_fill.nd rfl (.inl rfl) (pe_lst pa_nil))
        (pss_cons (ps_for PassesOwn.never rfl (pi_list (pe_callC (Cm.mono (by omega)) hr (by rfl) (pa_cons (pv 0) (pa_cons (pv 1) pa_nil)))) (pg_name (i := 3) sc_fill.nd rfl (.inr rfl))
          (pss_one (ps_expr (pe_bm PySem.F.plainAttrs_list PySem.F.slot_list_extend PySem.F.type_list_extend mt_extend (pv 2) (pa_cons
            (pe_lc (own := [("some", 4)]) (g := gName 4) (tt := tYes) (by rfl) sc_fill.nd (pi_list (pe_callC CA hr (by rfl) (pa_cons (pv 0) (pa_cons (pe_callC (Cw.mono (by omega)) hr (by rfl) (pa_cons (pv 1) (pa_cons (pe_dget hu (pv 0) (pv 3) (fun _ _ => rfl)) pa_nil))) pa_nil)))) (blkOk_by (own := [("some", 4)]) (N := ["blocks", "left", "found", "shove", "some"]) (sc := defScope (top 36)) (by decide +kernel))
              (fun _ _ _ _ _ => pg_name (i := 4) sc_fill.nd rfl (.inl rfl)) (fun _ _ _ _ _ => pts_nil) (fun _ _ _ _ _ => pe_lst (t := tCons (tVar 3) (StX.tStar K (tVar 4) tNil)) (pa_cons (pv 3) (StX.pa_star (pv 4) pa_nil)))) pa_nil)))))
        (pss_one (ps_ret (pv 2))))), ?_⟩
      refine ⟨_, rfl, Nat.zero_le _, fun p np => ?_⟩
      have s1 : Same H (upd H p (.tup [])) := same_new np
      have ep : upd H p (.tup []) p = some (.tup []) := upd_same
      generalize upd H p (.tup []) = H1 at s1 ep
      have hv1 := CellVs.up (Same.tups s1) hvs
      refine ⟨lD left, lD [], FillV.dp ⟨a, rfl, vs, s1 _ _ ea, hv1⟩, .tup (SqT.of ep) .nil, lD_shaped left, lD_shaped [], ?_⟩
      cases left with
      | nil =>
        refine ⟨true, rfl, iteT ⟨Nat.zero_le _, fun p1 n1 => ⟨by show 1 ≤ sizeLine; decide, fun p2 n2 => ?_⟩⟩⟩
        have s2 : Same H1 (upd H1 p1 (.lst [])) := same_new n1
        have e2 : upd H1 p1 (.lst []) p1 = some (.lst []) := upd_same
        generalize upd H1 p1 (.lst []) = H2 at s2 e2 n2
        have s3 : Same H2 (upd H2 p2 (.lst [.ref p1])) := same_new n2
        rw [FL_nil] at q
        refine q p2 _ ((s1.trans s2).trans s3) ⟨_, upd_same, .cons ⟨p1, rfl, fun z => ?_, [], s3 _ _ e2, .nil⟩ .nil⟩
        rw [List.mem_singleton] at z
        rw [← z, e2] at n2
        cases n2
      | cons c0 cr =>
        refine ⟨false, ?_, iteF ?_⟩
        · refine congrArg V.bl ?_
          cases h : PyData.eqv (lD (c0 :: cr)) (lD []) with
          | false => rfl
          | true => exact absurd (lD_inj h) (by simp)
        refine ⟨Nat.zero_le _, fun L nL => ?_⟩
        have s2 : Same H1 (upd H1 L (.lst [])) := same_new nL
        have eL : upd H1 L (.lst []) L = some (.lst []) := upd_same
        have nL0 := none_of_same s1 nL
        generalize upd H1 L (.lst []) = H2 at s2 eL
        have s02 := s1.trans s2
        refine ⟨_, rfl, _, rfl, d, a, Bk, ss, c0 :: cr, rfl, hb.up s02, ff.srt, ⟨vs, s02 _ _ ea, CellVs.up (Same.tups s02) hvs⟩, by simp, ff.few, fun s hs => by rw [ff.len s hs]; exact ff.le, fun M H3 s3 nM ⟨ms, eM, hms⟩ => ?_⟩
        rw [FL_cons] at q hsz
        have s03 := s02.trans s3
        have eL3 := s3 _ _ eL
        generalize hmv : movesM ss Bk (c0 :: cr) = mv at hms q hsz
        refine ⟨M, rfl, ⟨ms, SqL.of eM⟩, ?_⟩
        have hml : M ≠ L := fun z => by
          rw [z, eL] at nM
          cases nM
        refine for_it (walk_list (K := K) (a := M) (xs := ms)) (fun i σ H' => ∃ y3, σ = [some (.ref d), some (.ref a), some (.ref L), y3, none] ∧ Same H H' ∧ H' M = some (.lst ms) ∧ (∀ p xs, H3 p = some (.tup xs) → H' p = some (.tup xs)) ∧
          ∃ ws, H' L = some (.lst ws) ∧ Paired (FillE [L] H') ws ((mv.take i).flatMap fun s => (FL ss Bk (withoutM (c0 :: cr) (Bk s))).map fun some => s :: some)) ⟨none, rfl, s03, eM, fun _ _ h => h, [], eL3, .nil⟩ (fun i σ H' _ ⟨_, _, _, h, _⟩ => SqL.of h) ?_ ?_
        · rintro i x σ H4 H4' hi ⟨y3, rfl, sm, eM4, tp, ws, eL4, hws⟩ ⟨rfl, hx⟩
          obtain ⟨s, hs, px, rfl, ex⟩ := Paired.at hms hx
          have hsm : s ∈ mv := List.mem_of_getElem? hs
          rw [← hmv] at hsm
          have hss := (mem_moves.mp hsm).1
          obtain ⟨kvs, ed, hkv⟩ := hb.up sm
          obtain ⟨b, hb1, hb2, hb3⟩ := blocks_val hkv hss
          have ex4 := tp _ _ ex
          have hdg : DGet H4' d (.ref px) (some (.ref b)) := by
            have := DGet.t (k := keyC s) ed ex4
            rwa [hb1] at this
          refine ⟨_, rfl, .inl ⟨rfl, ws, SqL.of eL4⟩, _, rfl, _, rfl, _, rfl, _, rfl, d, .ref b, rfl, hdg, a, b, c0 :: cr, Bk s, rfl, ⟨vs, sm _ _ ea, CellVs.up (Same.tups sm) hvs⟩, hb3, h36, fun pw H5 s5 cw => ?_⟩
          have hw := without_size hnd ff.nd hsm
          rw [ff.len s hss] at hw
          have hpos := ff.pos
          have hchild : (FL ss Bk (withoutM (c0 :: cr) (Bk s))).length ≤ sizeLine := by
            have := flat_mem_le (fun s => (FL ss Bk (withoutM (c0 :: cr) (Bk s))).map fun some => s :: some) (l := mv) (List.mem_of_getElem? hs)
            rw [List.length_map] at this
            exact Nat.le_trans this hsz
          have s05 := sm.trans s5
          have hkn : n * (k + 1) = n * k + n := Nat.mul_succ n k
          refine ⟨d, pw, Bk, ss, withoutM (c0 :: cr) (Bk s), n, rfl, hb.up s05, cw, ff, without_nodup hnd, by omega, by omega, hchild, fun pr H6 s6 ⟨rs, er, hrs⟩ => ?_⟩
          refine ⟨pr, rfl, ⟨rs, SqL.of er⟩, fun Dn nD => ?_⟩
          have s06 := s05.trans s6
          have s46 := s5.trans s6
          have eL6 := s46 _ _ eL4
          have ex6 := s46 _ _ ex4
          have hDL : Dn ≠ L := fun z => by
            rw [z, eL6] at nD
            cases nD
          refine lc_wlX (F := FillE [Dn, L]) (wl_listS (G := FillE [pr]) (fun H H' v b s h => FillE.same s h) er hrs) nD (fun H H' v b s h => FillE.up List.mem_cons_self s h) (fun _ => true) (fun l => s :: l) hchild ?_ ?_
          · rintro y l H7 N N0 hl s7 ⟨dys, eD7⟩ hy hN _
            obtain ⟨ay, rfl, lys, eay, hly⟩ := FillE.cells hy
            refine ⟨rfl, _, rfl, _, rfl, ay, lys, rfl, .inr (SqL.of eay), ?_, fun pn nn => ?_⟩
            · have h1 : lys.length = l.length := cells_len hly
              have h2 : l.length ≤ 36 := by
                have := fill_count ff hl (without_nodup hnd)
                omega
              show ([V.ref px] ++ (lys ++ [])).length ≤ sizeLine
              rw [List.append_nil, List.length_append]
              have h3 : 37 ≤ sizeLine := by decide
              show 1 + lys.length ≤ sizeLine
              omega
            · have s8 : Same H7 (upd H7 pn (.lst ([V.ref px] ++ (lys ++ [])))) := same_new nn
              have e8 : upd H7 pn (.lst ([V.ref px] ++ (lys ++ []))) pn = some (.lst (.ref px :: lys)) := by
                rw [upd_same, List.append_nil]
                rfl
              have eL7 := s7 _ _ eL6
              refine hN _ _ rfl s8 ⟨pn, rfl, fun z => ?_, _, e8, ?_⟩
              · rcases List.mem_cons.mp z with z | z
                · rw [z, eD7] at nn
                  cases nn
                · rw [List.mem_singleton] at z
                  rw [z, eL7] at nn
                  cases nn
              · have nt : NoTup (upd H7 pn (.lst ([V.ref px] ++ (lys ++ [])))) [Dn, L] := fun z hz xs => by
                  rcases List.mem_cons.mp hz with hz | hz
                  · rw [hz, s8 _ _ eD7]
                    intro z
                    cases z
                  · rw [List.mem_singleton] at hz
                    rw [hz, s8 _ _ eL7]
                    intro z
                    cases z
                refine .cons (cellX_of nt ⟨px, rfl, s8 _ _ (s7 _ _ ex6)⟩) (Paired.mapP hly fun _ _ hc => cellX_of nt (hc.up (Same.tups s8)))
          · intro H7 us s7 e7 hus
            rw [filter_t] at hus
            have eL7 := s7 _ _ eL6
            have hsum : ws.length + us.length ≤ sizeLine := by
              have h1 := paired_len hws
              have h2 := paired_len hus
              have h3 := flat_take (fun s => (FL ss Bk (withoutM (c0 :: cr) (Bk s))).map fun some => s :: some) hs
              have h4 := flat_take_le (fun s => (FL ss Bk (withoutM (c0 :: cr) (Bk s))).map fun some => s :: some) mv (i + 1)
              rw [h3, List.length_append] at h4
              rw [h1, h2]
              exact Nat.le_trans h4 hsz
            refine ⟨L, Dn, ws, us, rfl, rfl, eL7, e7, hsum, ?_⟩
            have hML : M ≠ L := hml
            have s07 := s06.trans s7
            have s47 := s46.trans s7
            refine ⟨_, rfl, same_own s07 nL0, by rw [upd_ne hML]; exact s47 _ _ eM4, fun p xs e => ?_, _, upd_same, ?_⟩
            · have hpL : p ≠ L := fun z => by
                rw [z, eL3] at e
                cases e
              rw [upd_ne hpL]
              exact s47 _ _ (tp _ _ e)
            · rw [flat_take _ hs]
              refine Paired.append (Paired.mapP hws fun v l h => (FillE.same s47 h).up List.mem_cons_self SameX.put) (Paired.mapP hus fun v l h => (FillE.sub (fun x hx => List.mem_cons_of_mem _ hx) h).up List.mem_cons_self SameX.put)
        · rintro σ H4 ⟨y3, rfl, sm, eM4, tp, ws, eL4, hws⟩
          have hmm : ms.length = mv.length := paired_len hms
          rw [hmm, List.take_length] at hws
          exact ⟨_, rfl, q L H4 sm ⟨ws, eL4, hws⟩⟩
end
end Sf

/-! number_of. -/
namespace Sf
open PySem PySem.Spec PyProof.Rows L2
def isKn (P : Program) (w : World) (H : Hp) (kn : Addr) : Prop := ∃ xs, H kn = some (KnownO P w kn xs)
theorem KnownAt.is {P : Program} {w : World} {H : Hp} {kn : Addr} {kvs : List (List Cel × Int)} (h : KnownAt P w H kn kvs) : isKn P w H kn := let ⟨xs, e, _⟩ := h; ⟨xs, e⟩
theorem kn_tups {P : Program} {w : World} {H H' : Hp} {kn : Addr} (h : isKn P w H kn) (s : SameX kn H H') : Tups H H' := fun b xs e => s b _ (fun z => by
  obtain ⟨ys, ek⟩ := h
  rw [z, ek] at e
  cases e) e
theorem kn_dT {P : Program} {w : World} {H H' : Hp} {kn b : Addr} {kvs : List (List Key × V)} (h : isKn P w H kn) (s : SameX kn H H') (e : H b = some (.dT kvs)) : H' b = some (.dT kvs) := s b _ (fun z => by
  obtain ⟨ys, ek⟩ := h
  rw [z, ek] at e
  cases e) e
theorem BlocksAt.upK {P : Program} {w : World} {H H' : Hp} {kn : Addr} (hk : isKn P w H kn) (s : SameX kn H H') {Bd : Addr} {Bk : Cel → List Cel} {ss : List Cel} (h : BlocksAt H Bd Bk ss) : BlocksAt H' Bd Bk ss := by
  obtain ⟨kvs, e, r⟩ := h
  refine ⟨kvs, kn_dT hk s e, Paired.mapP r fun kv c ⟨h1, b, h2, h3, z, h4, h5⟩ => ⟨h1, b, h2, h3, z, kn_dT hk s h4, h5⟩⟩
/-- what is known is right -/
def Corr (ss : List Cel) (Bk : Cel → List Cel) (kvs : List (List Cel × Int)) : Prop := ∀ kv ∈ kvs, kv.2 = ((FL ss Bk kv.1).length : Nat)
def cost (n : Nat) : Nat → Nat
  | 0 => 0
  | k + 1 => 1 + n * cost n k
theorem FL_len (ss : List Cel) (Bk : Cel → List Cel) (c : Cel) (r : List Cel) : (FL ss Bk (c :: r)).length = ((movesM ss Bk (c :: r)).map fun s => (FL ss Bk (withoutM (c :: r) (Bk s))).length).sum := by
  rw [FL_cons, List.length_flatMap]
  refine congrArg List.sum (List.map_congr_left fun s _ => ?_)
  exact List.length_map _
theorem sum_cast : ∀ l : List Nat, ((l.map fun n : Nat => (n : Int)).sum : Int) = ((l.sum : Nat) : Int)
  | [] => rfl
  | x :: r => by
    rw [List.map_cons, List.sum_cons, List.sum_cons, sum_cast r]
    omega
section
variable {P : Program} {w : World} {K : PySem.W.Frag} {mg : Str → Option Value} {base : Heap} {C : Addr}
theorem sc_num : FnScope ["blocks", "left", "known", "later", "shove", "cells"] ["blocks", "left", "known"] (defScope (top 37)) := ⟨rfl, rfl, rfl, by decide +kernel, rfl, by decide +kernel, by decide +kernel⟩
def sp_num (P : Program) (w : World) (k : Nat) : Sp := fun vs H Q _ => ∃ (d a kn : Addr) (Bk : Cel → List Cel) (ss left : List Cel) (n : Nat) (kvs : List (List Cel × Int)), vs = [.ref d, .ref a, .ref kn] ∧ BlocksAt H d Bk ss ∧ CellsT H a left ∧ KnownAt P w H kn kvs ∧ Corr ss Bk kvs ∧ FF ss Bk n ∧ (∀ l, (movesM ss Bk l).length ≤ n) ∧
  left.Nodup ∧ left.length ≤ 36 ∧ left.length < n * k ∧ kvs.length + cost n k < sizeLine ∧
  ∀ H' kvs', SameX kn H H' → KnownAt P w H' kn kvs' → Corr ss Bk kvs' → kvs'.length ≤ kvs.length + cost n k → Q (.int ((FL ss Bk left).length : Nat)) H'
theorem upFill : Up FillV := fun _ _ _ _ t h => h.up t
theorem cal_num (B : Bi mg) (Cm : Cal P w K mg base 1 "moves_for" ["blocks", "left"] sp_moves) (Cw : Cal P w K mg base 1 "without" ["left", "block"] sp_without) (D : Def K mg "number_of" (top 37) ["blocks", "left", "known"]) : ∀ k, Cal P w K mg base (k + 2) "number_of" ["blocks", "left", "known"] (sp_num P w k)
  | 0 => by
    refine D.cal sc_num (fun vs H Q E h => ?_) (fun f cdv A outer s H vs Q E hr h => ?_)
    · obtain ⟨d, a, kn, Bk, ss, left, n, kvs, rfl, _⟩ := h
      rfl
    · obtain ⟨d, a, kn, Bk, ss, left, n, kvs, rfl, _, _, _, _, _, _, _, _, h, _⟩ := h
      rw [Nat.mul_zero] at h
      exact absurd h (Nat.not_lt_zero _)
  | k + 1 => by
    have CA := cal_num B Cm Cw D k
    refine D.cal sc_num (fun vs H Q E h => ?_) (fun f cdv A outer s H vs Q E hr h => ?_)
    · obtain ⟨d, a, kn, Bk, ss, left, n, kvs, rfl, _⟩ := h
      rfl
    · obtain ⟨d, a, kn, Bk, ss, left, n, kvs, rfl, hb, hcl, hkn, hco, ff, few, hnd, h36, hk, hsz, q⟩ := h
      have hu := hu_of hr
      have h65 := room65 hr
      have hu9 : _ + 9 < cLine := Nat.lt_of_le_of_lt (Nat.add_le_add_left (by decide : 9 ≤ 65) _) h65
      refine ⟨_, pss_cons (ps_if (pt_cmpR (op_eqD hr.units) (pv 1) (pe_tup pa_nil) (nomark _)) (pss_one (ps_ret pe_int)) pss_nil)
        (pss_cons (ps_if (pt_cmpR (op_notInN hu9) (pv 1) (pv 2) (by rfl))
          (pss_cons (ps_setLc (i := 3) (own := [("shove", 4)]) (g := gName 4) (tt := tYes) (by rfl) sc_num.nd rfl rfl (sw_true rfl rfl rfl (by decide +kernel)) (pi_list (pe_callC (Cm.mono (by omega)) hr (by rfl) (pa_cons (pv 0) (pa_cons (pv 1) pa_nil)))) (blkOk_by (own := [("shove", 4)]) (N := ["blocks", "left", "known", "later", "shove", "cells"]) (sc := defScope (top 37)) (by decide +kernel))
              (fun _ _ _ _ _ => pg_name (i := 4) sc_num.nd rfl (.inl rfl)) (fun _ _ _ _ _ => pts_nil) (fun _ _ _ _ _ => pe_callC (Cw.mono (by omega)) hr (by rfl) (pa_cons (pv 1) (pa_cons (pe_dget hu (pv 0) (pv 4) (fun _ _ => rfl)) pa_nil))))
          (pss_one (ps_asg (pe_callB (cr_sum rfl) (by rfl) B.sum bt_sum (pa_cons (pe_lc (own := [("cells", 5)]) (g := gName 5) (tt := tYes) (by rfl) sc_num.nd (pi_list (pv 3)) (blkOk_by (own := [("cells", 5)]) (N := ["blocks", "left", "known", "later", "shove", "cells"]) (sc := defScope (top 37)) (by decide +kernel))
              (fun _ _ _ _ _ => pg_name (i := 5) sc_num.nd rfl (.inl rfl)) (fun _ _ _ _ _ => pts_nil) (fun _ _ _ _ _ => pe_callC CA hr (by rfl) (pa_cons (pv 0) (pa_cons (pv 5) (pa_cons (pv 2) pa_nil))))) pa_nil)) (pg_sub (pv 2) (pv 1) (set_known hu9))))) pss_nil)
        (pss_one (ps_ret (pe_getN hu9 (pv 2) (pv 1) (fun _ _ => rfl))))), ?_⟩
      refine ⟨_, rfl, Nat.zero_le _, fun p np => ?_⟩
      have s1 : Same H (upd H p (.tup [])) := same_new np
      have ep : upd H p (.tup []) p = some (.tup []) := upd_same
      generalize upd H p (.tup []) = H1 at s1 ep
      have hcl1 := hcl.up (Same.tups s1)
      have hkn1 : KnownAt P w H1 kn kvs := hkn.up (fun o e => s1 _ _ e) (Same.tups s1)
      refine ⟨lD left, lD [], FillV.dp ⟨a, rfl, hcl1⟩, .tup (SqT.of ep) .nil, lD_shaped left, lD_shaped [], ?_⟩
      cases left with
      | nil => exact ⟨true, rfl, iteT (q H1 kvs (SameX.of s1) hkn1 hco (Nat.le_add_right _ _))⟩
      | cons c0 cr =>
        refine ⟨false, ?_, iteF ?_⟩
        · refine congrArg V.bl ?_
          cases h : PyData.eqv (lD (c0 :: cr)) (lD []) with
          | false => rfl
          | true => exact absurd (lD_inj h) (by simp)
        refine ⟨_, rfl, _, rfl, kn, a, c0 :: cr, kvs, rfl, rfl, hcl1, hkn1, _, rfl, ?_⟩
        cases hg : kget kvs (c0 :: cr) with
        | some z =>
          refine iteF ⟨_, rfl, _, rfl, kn, a, c0 :: cr, kvs, z, rfl, rfl, hcl1, hkn1, hg, ?_⟩
          have hz : z = ((FL ss Bk (c0 :: cr)).length : Nat) := hco _ (kget_some hg)
          rw [hz]
          exact q H1 kvs (SameX.of s1) hkn1 hco (Nat.le_add_right _ _)
        | none =>
          refine iteT ?_
          refine ⟨_, rfl, _, rfl, d, a, Bk, ss, c0 :: cr, rfl, hb.up s1, ff.srt, hcl1, by simp, ff.few, fun s hs => by rw [ff.len s hs]; exact ff.le, fun M H3 s3 nM ⟨ms, eM, hms⟩ => ?_⟩
          refine ⟨M, rfl, ⟨ms, SqL.of eM⟩, fun La nLa => ?_⟩
          have s03 := s1.trans s3
          have hml := few (c0 :: cr)
          have h24 := ff.le
          have hz24 : (24 : Nat) ≤ sizeLine := by decide
          refine lc_wl (F := FillV) (wl_list upCell eM hms) nLa upFill (fun _ => true) (fun s => withoutM (c0 :: cr) (Bk s)) (by omega) ?_ ?_
          · rintro x s H' N N0 hs sm ⟨px, rfl, ex⟩ hN _
            have hss := (mem_moves.mp hs).1
            have sm' := s03.trans sm
            obtain ⟨kv2, ed, hkv⟩ := hb.up sm'
            obtain ⟨b, hb1, hb2, hb3⟩ := blocks_val hkv hss
            have hdg : DGet H' d (.ref px) (some (.ref b)) := by
              have := DGet.t (k := keyC s) ed ex
              rwa [hb1] at this
            exact ⟨rfl, _, rfl, _, rfl, _, rfl, d, .ref b, rfl, hdg, a, b, c0 :: cr, Bk s, rfl, hcl.up (Same.tups sm'), hb3, h36, fun pw H5 s5 cw => hN _ _ rfl s5 ⟨pw, rfl, cw⟩⟩
          intro H4 ls s4 e4 hls
          rw [filter_t] at hls
          have s04 := s03.trans s4
          refine ⟨_, rfl, La, rfl, ⟨ls, SqL.of e4⟩, fun Dn nD => ?_⟩
          have hkn4 : KnownAt P w H4 kn kvs := hkn.up (fun o e => s04 _ _ e) (Same.tups s04)
          generalize hmv : movesM ss Bk (c0 :: cr) = mv at hml hls
          have hll : ls.length = mv.length := by
            have := paired_len hls
            rwa [List.length_map] at this
          have hcost : cost n (k + 1) = 1 + n * cost n k := rfl
          have hkD : kn ≠ Dn := fun z => by
            obtain ⟨xs, ek⟩ := hkn4.is
            rw [z, nD] at ek
            cases ek
          have hknLa : La ≠ kn := fun z => by
            obtain ⟨xs, ek⟩ := hkn4.is
            rw [z, ek] at e4
            cases e4
          refine lc_list (K := K) (a := La) (xs := ls) (fun i H' => SameX kn H4 H' ∧ ∃ kvs', KnownAt P w H' kn kvs' ∧ Corr ss Bk kvs' ∧ kvs'.length ≤ kvs.length + i * cost n k ∧ H' Dn = some (.lst ((((mv.take i).map fun s => (FL ss Bk (withoutM (c0 :: cr) (Bk s))).length).map fun n : Nat => (n : Int)).map V.int)))
            ⟨SameX.of (same_new nD), kvs, hkn4.up (fun o e => by rw [upd_ne hkD]; exact e) (tups_new nD), hco, by omega, upd_same⟩ (fun i H' _ h => SqL.of (h.1 _ _ hknLa e4)) ?_ ?_
          · rintro i x H' hx ⟨sx, kvs', hkn', hco', hl', eD'⟩
            obtain ⟨l, hl, hxl⟩ := Paired.at hls hx
            rw [List.getElem?_map] at hl
            obtain ⟨s, hs, rfl⟩ := Option.map_eq_some_iff.mp hl
            have hi : i < mv.length := (List.getElem?_eq_some_iff.mp hs).1
            have hsm : s ∈ movesM ss Bk (c0 :: cr) := by rw [hmv]; exact List.mem_of_getElem? hs
            have hss := (mem_moves.mp hsm).1
            have hw := without_size hnd ff.nd hsm
            rw [ff.len s hss] at hw
            have hpos := ff.pos
            have hkn5 : n * (k + 1) = n * k + n := Nat.mul_succ n k
            have tx := kn_tups hkn4.is sx
            obtain ⟨pw, rfl, cw⟩ := hxl
            have hic : i * cost n k + cost n k ≤ n * cost n k := by
              rw [← Nat.succ_mul]
              exact Nat.mul_le_mul_right _ (by omega)
            refine ⟨rfl, _, rfl, _, rfl, _, rfl, d, pw, kn, Bk, ss, withoutM (c0 :: cr) (Bk s), n, kvs', rfl, BlocksAt.upK hkn4.is sx (hb.up s04), cw.up tx, hkn', hco', ff, few, without_nodup hnd, by omega, by omega, by omega, fun H5 kv5 s5 hkn5' hco5 hl5 => ?_⟩
            have eD5 := s5 _ _ hkD.symm eD'
            refine ⟨_, eD5, ?_, ?_, kv5, hkn5'.up (fun o e => by rw [upd_ne hkD]; exact e) (tups_lst eD5), hco5, ?_, ?_⟩
            · rw [List.length_map, List.length_map, List.length_map, List.length_take]
              omega
            · exact fun b o nb e => by
                have : b ≠ Dn := ne_of_none e nD
                rw [upd_ne this]
                exact s5 _ _ nb (sx _ _ nb e)
            · rw [Nat.succ_mul]
              omega
            · rw [upd_same]
              have ht : mv.take (i + 1) = mv.take i ++ [s] := by
                rw [List.take_add_one, hs]
                rfl
              rw [ht, List.map_append, List.map_append, List.map_append]
              rfl
          · rintro H5 ⟨sx, kvs', hkn', hco', hl', eD'⟩
            rw [hll, List.take_length] at eD'
            refine ⟨Dn, _, rfl, SqL.of eD', ?_⟩
            rw [sum_cast, ← hmv, ← FL_len]
            have tx := kn_tups hkn4.is sx
            have hcl5 : CellsT H5 a (c0 :: cr) := (hcl.up (Same.tups s04)).up tx
            have hmc : ls.length * cost n k ≤ n * cost n k := Nat.mul_le_mul_right _ (by omega)
            refine ⟨_, rfl, _, rfl, kn, a, c0 :: cr, kvs', _, rfl, rfl, rfl, hcl5, hkn', by omega, fun H6 h6 hkn6 => ?_⟩
            have sx6 : SameX kn H H6 := fun b o nb e => by
              rw [h6 b nb]
              exact sx _ _ nb (s04 _ _ e)
            have tx6 : Tups H5 H6 := kn_tups hkn'.is fun b o nb e => by
              rw [h6 b nb]
              exact e
            refine ⟨_, rfl, _, rfl, kn, a, c0 :: cr, _, _, rfl, rfl, hcl5.up tx6, hkn6, kget_kput _ _ _, ?_⟩
            refine q H6 _ sx6 hkn6 (fun kv hkv => ?_) (Nat.le_trans (kput_len _ _ _) (by omega))
            rcases mem_kput hkv with rfl | h
            · rfl
            · exact hco' _ h
end
end Sf

/-! all_places, fillings_of, fillings, many_fillings, count_fillings. -/
namespace Sf
open PySem PySem.Spec PyProof.Rows L2
theorem rng_zr (n : Nat) : rng 0 n = zr n := by
  unfold zr
  exact List.map_congr_left fun i _ => Int.zero_add _
theorem sortC_data (l : List Cel) : l.mergeSort (PySem.W.dataLe false cD) = sortC l := by
  rw [dataLe_cD]
  rfl
theorem ff_ok {W Hh : Nat} {cs : List Cel} (h : W * Hh ≤ 36) (hne : cs ≠ []) (h24 : cs.length ≤ 24) : FF (okM W Hh cs) (blkM W Hh cs) cs.length where
  srt := ok_sort W Hh cs
  few := by
    have h1 : (okM W Hh cs).length ≤ (placesM W Hh).length := List.length_filter_le _ _
    rw [places_length] at h1
    omega
  nd := fun s hs => (mem_ok.mp hs).2
  len := fun s _ => blk_len s
  pos := List.length_pos_iff.mpr hne
  le := h24
theorem cost_small : ∀ n, n < 6 → 0 < n → ∀ m, m < 33 → cost n (m / n + 1) < 16777215 := by decide +kernel
/-- a tuple of tuples of cells -/
def FillTs (H : Hp) (p : Addr) (ls : List (List Cel)) : Prop := ∃ vs, H p = some (.tup vs) ∧ FillVs H vs ls
theorem FillTs.up {H H' : Hp} (s : Same H H') {p : Addr} {ls : List (List Cel)} (h : FillTs H p ls) : FillTs H' p ls := let ⟨vs, e, q⟩ := h; ⟨vs, s _ _ e, q.up (Same.tups s)⟩
/-- what fillings tells -/
def toldM (W Hh : Nat) (cs : List Cel) : List (List Cel) := ((allM W Hh cs).map sortC).mergeSort (PySem.W.dataLe false lD)
section
variable {P : Program} {w : World} {K : PySem.W.Frag} {mg : Str → Option Value} {base : Heap} {C : Addr}
theorem sc_places : FnScope ["wide", "high", "x", "y"] ["wide", "high"] (defScope (top 38)) := ⟨rfl, rfl, rfl, by decide +kernel, rfl, by decide +kernel, by decide +kernel⟩
def sp_places : Sp := fun vs H Q _ => ∃ W Hh : Nat, vs = [.int W, .int Hh] ∧ 1 ≤ W ∧ 1 ≤ Hh ∧ W * Hh ≤ 36 ∧ ∀ p H', Same H H' → CellsT H' p (placesM W Hh) → Q (.ref p) H'
theorem cal_places (B : Bi mg) (D : Def K mg "all_places" (top 38) ["wide", "high"]) : Cal P w K mg base 1 "all_places" ["wide", "high"] sp_places := by
  refine D.cal sc_places (fun vs H Q E h => ?_) (fun f cdv A outer s H vs Q E hr h => ?_)
  · obtain ⟨W, Hh, rfl, _⟩ := h
    rfl
  · obtain ⟨W, Hh, rfl, w1, h1, h36, q⟩ := h
    have hw : W ≤ 36 := Nat.le_trans (Nat.le_mul_of_pos_right W h1) h36
    have hh : Hh ≤ 36 := Nat.le_trans (Nat.le_mul_of_pos_left Hh w1) h36
    refine ⟨_, pss_one (ps_ret (pe_callTy call_tuple_of (by rfl) B.tuple bt_tuple (pa_cons
        (pe_lc2 (own := [("x", 2), ("y", 3)]) (vs1 := [3]) (g := gName 2) (g1 := gName 3) (tt := tYes) (tt1 := tYes) (by rfl) sc_places.nd
        (pi_range1 (by rfl) B.range (pa_cons (pv 0) pa_nil))
        (blkOk_by (own := [("x", 2), ("y", 3)]) (N := ["wide", "high", "x", "y"]) (sc := defScope (top 38)) (by decide +kernel)) (by decide)
        (fun _ _ _ _ _ => pg_name (i := 2) sc_places.nd rfl (.inl rfl)) (fun _ _ _ _ _ => pts_nil)
        (fun _ _ _ _ _ => pi_range1 (by rfl) B.range (pa_cons (pv 1) pa_nil))
        (fun _ _ _ _ _ => pg_name (i := 3) sc_places.nd rfl (.inl rfl)) (fun _ _ _ _ _ => pts_nil)
        (fun _ _ _ _ _ => pe_tup (pa_cons (pv 2) (pa_cons (pv 3) pa_nil)))) pa_nil))), ?_⟩
    refine ⟨_, rfl, W, rfl, by omega, by omega, fun D nD => ?_⟩
    refine lc2_grid nD (Nat.le_trans h36 (by decide)) (fun x σ2 => σ2 = [some (.int W), some (.int Hh), some (.int x), none]) (lo1 := 0) (n1 := Hh) ?_ ?_ ?_ ?_
    · intro x H' R N0 h
      exact ⟨rfl, h _ rfl⟩
    · rintro x σ2 H' R rfl sm h
      exact ⟨_, rfl, Hh, rfl, by omega, by omega, h⟩
    · rintro x y σ2 H' N N0 rfl h
      exact ⟨rfl, _, rfl, _, rfl, by show 2 ≤ sizeLine; decide, h⟩
    intro H1 ys s1 e1 hys
    refine ⟨D, ys, rfl, .inl ⟨SqL.of e1, fun p np => ?_⟩⟩
    have s2 : Same H1 (upd H1 p (.tup ys)) := same_new np
    refine q p _ (s1.trans s2) ⟨ys, upd_same, ?_⟩
    have hpl : placesM W Hh = ((rng 0 W).flatMap fun x => (rng 0 Hh).map fun y => (x, y)) := by
      rw [rng_zr, rng_zr]
      rfl
    rw [hpl]
    exact CellVs.up (Same.tups s2) hys
theorem sc_fo : FnScope ["shape", "wide", "high", "found", "some"] ["shape", "wide", "high"] (defScope (top 39)) := ⟨rfl, rfl, rfl, by decide +kernel, rfl, by decide +kernel, by decide +kernel⟩
/-- what both ask for -/
def sp_fo (C : Addr) : Sp := fun vs H Q _ => ∃ (sh : Addr) (cs : List Cel) (W Hh : Nat), vs = [.ref sh, .int W, .int Hh] ∧ ShapeAt C H sh cs ∧ cs ≠ [] ∧ cs.length ≤ 24 ∧ 1 ≤ W ∧ 1 ≤ Hh ∧ W * Hh ≤ 36 ∧ (allM W Hh cs).length ≤ 300 ∧
  ∀ p H', Same H H' → FillTs H' p (toldM W Hh cs) → Q (.ref p) H'
theorem cal_fo (B : Bi mg) (C1 : Cal P w K mg base 3 "all_blocks" ["shape", "wide", "high"] (sp_blocks C)) (C2 : Cal P w K mg base 1 "all_places" ["wide", "high"] sp_places) (C3 : ∀ k, Cal P w K mg base (k + 2) "all_fillings" ["blocks", "left"] (sp_fill k)) (D : Def K mg "fillings_of" (top 39) ["shape", "wide", "high"]) : Cal P w K mg base 40 "fillings_of" ["shape", "wide", "high"] (sp_fo C) := by
  refine D.cal sc_fo (fun vs H Q E h => ?_) (fun f cdv A outer s H vs Q E hr h => ?_)
  · obtain ⟨sh, cs, W, Hh, rfl, _⟩ := h
    rfl
  · obtain ⟨sh, cs, W, Hh, rfl, hsh, hne, h24, w1, h1, h36, h300, q⟩ := h
    refine ⟨_, pss_cons (ps_set (i := 3) sc_fo.nd rfl (.inl rfl) (pe_callC (C3 37) hr (by rfl) (pa_cons (pe_callC (C1.mono (by decide)) hr (by rfl) (pa_cons (pv 0) (pa_cons (pv 1) (pa_cons (pv 2) pa_nil)))) (pa_cons (pe_callC (C2.mono (by decide)) hr (by rfl) (pa_cons (pv 1) (pa_cons (pv 2) pa_nil))) pa_nil))))
      (pss_one (ps_ret (pe_callTy call_tuple_of (by rfl) B.tuple bt_tuple (pa_cons (pe_callB (cr_sortedD (R := FillV) (enc := lD) hr.units) (by rfl) B.sorted bt_sorted (pa_cons
        (pe_lc (own := [("some", 4)]) (g := gName 4) (tt := tYes) (by rfl) sc_fo.nd (pi_list (pv 3)) (blkOk_by (own := [("some", 4)]) (N := ["shape", "wide", "high", "found", "some"]) (sc := defScope (top 39)) (by decide +kernel))
          (fun _ _ _ _ _ => pg_name (i := 4) sc_fo.nd rfl (.inl rfl)) (fun _ _ _ _ _ => pts_nil)
          (fun _ _ _ _ _ => pe_callTy (r := fun xs H Q => ∃ p ys, xs = [.ref p] ∧ ((SqL K H p ys ∧ ∀ l, H l = none → Q (.ref l) (upd H l (.tup ys))) ∨ (SqT K H p ys ∧ Q (.ref p) H))) call_tuple_of (by rfl) B.tuple bt_tuple (pa_cons (pe_callB (r := rSortedD K CellV cD) (cr_sortedD (R := CellV) (enc := cD) hr.units) (by rfl) B.sorted bt_sorted (pa_cons (pv 4) pa_nil)) pa_nil))) pa_nil)) pa_nil)))), ?_⟩
    have ff := ff_ok h36 hne h24
    have hpos := ff.pos
    refine ⟨_, rfl, _, rfl, _, rfl, sh, cs, W, Hh, rfl, hsh, h24, w1, h1, h36, fun bd H1 s1 hb => ?_⟩
    refine ⟨_, rfl, _, rfl, W, Hh, rfl, w1, h1, h36, fun pl H2 s2 hpl => ?_⟩
    have hlen := places_length W Hh
    have hFL : (FL (okM W Hh cs) (blkM W Hh cs) (placesM W Hh)).length ≤ 300 := by
      rw [← allM_FL]
      exact h300
    have hz300 : (300 : Nat) ≤ sizeLine := by decide
    refine ⟨bd, pl, blkM W Hh cs, okM W Hh cs, placesM W Hh, cs.length, rfl, hb.up s2, hpl, ff, places_nodup W Hh, by omega, by omega, by omega, fun fl H3 s3 ⟨fs, ef, hfs⟩ => ?_⟩
    refine ⟨_, rfl, fl, rfl, ⟨fs, SqL.of ef⟩, fun Dn nD => ?_⟩
    rw [← allM_FL] at hfs hFL
    have s03 := (s1.trans s2).trans s3
    refine lc_wl (F := FillV) (wl_listS (G := FillE [fl]) (fun H H' v b s h => FillE.same s h) ef hfs) nD upFill (fun _ => true) sortC (by omega) ?_ ?_
    · rintro y l H4 N N0 hl s4 hy hN _
      obtain ⟨ay, rfl, lys, eay, hly⟩ := FillE.cells hy
      refine ⟨rfl, _, rfl, ay, lys, l, rfl, SqL.of eay, hly, fun x b _ h => h.dp, PySem.W.AllAlike.of fun a b => cD_alike a b, .inl fun d hd => ?_, fun b _ => cD_depth b, fun us p hus np => ?_⟩
      · obtain ⟨c, _, rfl⟩ := List.mem_map.mp hd
        exact ⟨_, _, rfl⟩
      · rw [sortC_data] at hus
        have s5 : Same H4 (upd H4 p (.lst us)) := same_new np
        refine ⟨p, us, rfl, .inl ⟨SqL.of upd_same, fun p5 n5 => hN _ _ rfl (s5.trans (same_new n5)) ⟨p5, rfl, us, upd_same, CellVs.up ((Same.tups s5).trans (Same.tups (same_new n5))) hus⟩⟩⟩
    · intro H4 ws s4 e4 hws
      rw [filter_t] at hws
      refine ⟨Dn, ws, (allM W Hh cs).map sortC, rfl, SqL.of e4, hws, fun x b _ h => h.dp, fun d hd d' hd' => ?_, lD_sortable fun l hl => ?_, fun b _ => Nat.le_trans (lD_depth b) (by decide), fun us p hus np => ?_⟩
      · obtain ⟨a', _, rfl⟩ := List.mem_map.mp hd
        obtain ⟨b', _, rfl⟩ := List.mem_map.mp hd'
        exact lD_alike _ _
      · obtain ⟨S, hS, rfl⟩ := List.mem_map.mp hl
        have h2 := fill_size hS
        rintro e
        have h3 := (sortC_perm S).length_eq
        rw [e] at h3
        have h4 : S.length = 0 := h3.symm
        rw [h4, Nat.zero_mul] at h2
        have : 0 < W * Hh := Nat.mul_pos w1 h1
        omega
      · have s5 : Same H4 (upd H4 p (.lst us)) := same_new np
        refine ⟨p, us, rfl, .inl ⟨SqL.of upd_same, fun p5 n5 => ?_⟩⟩
        have s6 : Same (upd H4 p (.lst us)) (upd (upd H4 p (.lst us)) p5 (.tup us)) := same_new n5
        exact q p5 _ (((s03.trans s4).trans s5).trans s6) ⟨us, upd_same, FillVs.up ((Same.tups s5).trans (Same.tups s6)) hus⟩
theorem sc_fi : FnScope ["shape", "wide", "high"] ["shape", "wide", "high"] (defScope (top 40)) := ⟨rfl, rfl, rfl, by decide +kernel, rfl, by decide +kernel, by decide +kernel⟩
theorem cal_fi (C1 : Cal P w K mg base 1 "check_shape" ["value"] (sp_chs C)) (C2 : Cal P w K mg base 3 "check_sizes" ["wide", "high"] sp_chz) (C3 : Cal P w K mg base 40 "fillings_of" ["shape", "wide", "high"] (sp_fo C)) (D : Def K mg "fillings" (top 40) ["shape", "wide", "high"]) : Cal P w K mg base 41 "fillings" ["shape", "wide", "high"] (sp_fo C) := by
  refine D.cal sc_fi (fun vs H Q E h => ?_) (fun f cdv A outer s H vs Q E hr h => ?_)
  · obtain ⟨sh, cs, W, Hh, rfl, _⟩ := h
    rfl
  · obtain ⟨sh, cs, W, Hh, rfl, hsh, hne, h24, w1, h1, h36, h300, q⟩ := h
    refine ⟨_, pss_cons (ps_expr (pe_callC (C1.mono (by decide)) hr (by rfl) (pa_cons (pv 0) pa_nil))) (pss_cons (ps_expr (pe_callC (C2.mono (by decide)) hr (by rfl) (pa_cons (pv 1) (pa_cons (pv 2) pa_nil))))
      (pss_one (ps_ret (pe_callC C3 hr (by rfl) (pa_cons (pv 0) (pa_cons (pv 1) (pa_cons (pv 2) pa_nil))))))), ?_⟩
    refine ⟨_, rfl, sh, cs, rfl, hsh, _, rfl, _, rfl, W, Hh, rfl, w1, h1, h36, fun H1 s1 => ?_⟩
    exact ⟨_, rfl, _, rfl, _, rfl, sh, cs, W, Hh, rfl, hsh.up s1, hne, h24, w1, h1, h36, h300, fun p H' s2 hf => q p H' (s1.trans s2) hf⟩
def sp_many (C : Addr) : Sp := fun vs H Q _ => ∃ (sh : Addr) (cs : List Cel) (W Hh : Nat), vs = [.ref sh, .int W, .int Hh] ∧ ShapeAt C H sh cs ∧ cs ≠ [] ∧ cs.length ≤ 5 ∧ 1 ≤ W ∧ 1 ≤ Hh ∧ W * Hh ≤ 32 ∧
  ∀ H', Same H H' → Q (.int (countM W Hh cs : Nat)) H'
theorem sc_many : FnScope ["shape", "wide", "high"] ["shape", "wide", "high"] (defScope (top 41)) := ⟨rfl, rfl, rfl, by decide +kernel, rfl, by decide +kernel, by decide +kernel⟩
theorem cal_many (C1 : Cal P w K mg base 3 "all_blocks" ["shape", "wide", "high"] (sp_blocks C)) (C2 : Cal P w K mg base 1 "all_places" ["wide", "high"] sp_places) (C3 : ∀ k, Cal P w K mg base (k + 2) "number_of" ["blocks", "left", "known"] (sp_num P w k)) (D : Def K mg "many_fillings" (top 41) ["shape", "wide", "high"]) : Cal P w K mg base 40 "many_fillings" ["shape", "wide", "high"] (sp_many C) := by
  refine D.cal sc_many (fun vs H Q E h => ?_) (fun f cdv A outer s H vs Q E hr h => ?_)
  · obtain ⟨sh, cs, W, Hh, rfl, _⟩ := h
    rfl
  · obtain ⟨sh, cs, W, Hh, rfl, hsh, hne, h5, w1, h1, h32, q⟩ := h
    have ff := ff_ok (W := W) (Hh := Hh) (by omega) hne (Nat.le_trans h5 (by decide))
    have hpos := ff.pos
    have hk37 : W * Hh / cs.length + 1 + 2 ≤ 39 := by
      have := Nat.div_le_self (W * Hh) cs.length
      omega
    refine ⟨_, pss_one (ps_ret (pe_callC ((C3 (W * Hh / cs.length + 1)).mono hk37) hr (by rfl) (pa_cons (pe_callC (C1.mono (by decide)) hr (by rfl) (pa_cons (pv 0) (pa_cons (pv 1) (pa_cons (pv 2) pa_nil)))) (pa_cons (pe_callC (C2.mono (by decide)) hr (by rfl) (pa_cons (pv 1) (pa_cons (pv 2) pa_nil))) (pa_cons pe_dnewN pa_nil))))), ?_⟩
    refine ⟨_, rfl, _, rfl, _, rfl, sh, cs, W, Hh, rfl, hsh, Nat.le_trans h5 (by decide), w1, h1, by omega, fun bd H1 s1 hb => ?_⟩
    refine ⟨_, rfl, _, rfl, W, Hh, rfl, w1, h1, by omega, fun pl H2 s2 hpl => ?_⟩
    intro kn H3 nk s3 hkn
    have hlen := places_length W Hh
    have hc := cost_small cs.length (by omega) hpos (W * Hh) (by omega)
    have hs16 : (16777215 : Nat) < sizeLine := by decide
    have hdm : W * Hh < cs.length * (W * Hh / cs.length + 1) := by
      have := Nat.lt_mul_div_succ (W * Hh) hpos
      exact this
    have s03 := (s1.trans s2).trans s3
    refine ⟨bd, pl, kn, blkM W Hh cs, okM W Hh cs, placesM W Hh, cs.length, [], rfl, (hb.up s2).up s3, hpl.up (Same.tups s3), hkn, fun kv h => absurd h List.not_mem_nil, ff, moves_few, places_nodup W Hh, by omega, by omega, by show 0 + _ < _; omega, fun H4 kvs' sx _ _ _ => ?_⟩
    rw [← allM_FL]
    refine q H4 fun b o e => ?_
    have nb : b ≠ kn := ne_of_none ((s1.trans s2) _ _ e) nk
    exact sx _ _ nb (s03 _ _ e)
theorem sc_count : FnScope ["shape", "wide", "high"] ["shape", "wide", "high"] (defScope (top 42)) := ⟨rfl, rfl, rfl, by decide +kernel, rfl, by decide +kernel, by decide +kernel⟩
theorem cal_count (C1 : Cal P w K mg base 1 "check_shape" ["value"] (sp_chs C)) (C2 : Cal P w K mg base 3 "check_sizes" ["wide", "high"] sp_chz) (C3 : Cal P w K mg base 40 "many_fillings" ["shape", "wide", "high"] (sp_many C)) (D : Def K mg "count_fillings" (top 42) ["shape", "wide", "high"]) : Cal P w K mg base 41 "count_fillings" ["shape", "wide", "high"] (sp_many C) := by
  refine D.cal sc_count (fun vs H Q E h => ?_) (fun f cdv A outer s H vs Q E hr h => ?_)
  · obtain ⟨sh, cs, W, Hh, rfl, _⟩ := h
    rfl
  · obtain ⟨sh, cs, W, Hh, rfl, hsh, hne, h5, w1, h1, h32, q⟩ := h
    refine ⟨_, pss_cons (ps_expr (pe_callC (C1.mono (by decide)) hr (by rfl) (pa_cons (pv 0) pa_nil))) (pss_cons (ps_expr (pe_callC (C2.mono (by decide)) hr (by rfl) (pa_cons (pv 1) (pa_cons (pv 2) pa_nil))))
      (pss_one (ps_ret (pe_callC C3 hr (by rfl) (pa_cons (pv 0) (pa_cons (pv 1) (pa_cons (pv 2) pa_nil))))))), ?_⟩
    refine ⟨_, rfl, sh, cs, rfl, hsh, _, rfl, _, rfl, W, Hh, rfl, w1, h1, by omega, fun H1 s1 => ?_⟩
    exact ⟨_, rfl, _, rfl, _, rfl, sh, cs, W, Hh, rfl, hsh.up s1, hne, h5, w1, h1, h32, fun H' s2 => q H' (s1.trans s2)⟩
end
end Sf

/-! the law's draws: origin, sip, some_one, beside, remainder, grid. -/
namespace Sf
open PySem PySem.Spec PyProof.Rows L2
/-- a pool of draws -/
def PoolAt (H : Hp) (p : Addr) : Prop := ∃ a b c : Int, H p = some (.lst [.int a, .int b, .int c]) ∧ 0 ≤ a ∧ 0 ≤ b ∧ b < 4294967296 ∧ 0 ≤ c
theorem PoolAt.up {H H' : Hp} (s : Same H H') {p : Addr} (h : PoolAt H p) : PoolAt H' p := let ⟨a, b, c, e, r⟩ := h; ⟨a, b, c, s _ _ e, r⟩
theorem tIf_val {tA : TT} {ta tb : TE} {σ : L2.St} {H : Hp} (c : Bool) (v : V) (h1 : ∀ Q : Bool → Hp → Prop, Q c H → tA σ H Q) (h2 : c = true → ∀ Q : VK, Q v H → ta σ H Q) (h3 : c = false → ∀ Q : VK, Q v H → tb σ H Q) {Q : VK} (q : Q v H) : tIf tA ta tb σ H Q := by
  refine h1 _ ?_
  cases c with
  | true => exact iteT (h2 rfl _ q)
  | false => exact iteF (h3 rfl _ q)
theorem mulL {i j : Int} (h0 : 0 ≤ i) (h1 : i < 18446744073709551616) : CMul i j := .inl ⟨by omega, by omega⟩
theorem mulR {i j : Int} (h0 : 0 ≤ j) (h1 : j < 18446744073709551616) : CMul i j := .inr ⟨by omega, by omega⟩
section
variable {P : Program} {w : World} {K : PySem.W.Frag} {mg : Str → Option Value} {base : Heap} {C : Addr}
theorem sc_origin : FnScope ["_law_script", "_law_turn", "_law_own", "_law_state", "_law_each"] ["_law_script", "_law_turn"] (defScope (top 44)) := ⟨rfl, rfl, rfl, by decide +kernel, rfl, by decide +kernel, by decide +kernel⟩
def sp_origin (K : PySem.W.Frag) : Sp := fun vs H Q _ => ∃ (a : Addr) (ns : List Int) (t : Nat), vs = [.ref a, .int t] ∧ SqL K H a (ns.map V.int) ∧ (∀ n ∈ ns, Builtin.Int.intBits n ≤ 1048576) ∧ t ≤ 4 ∧ ∀ p H', Same H H' → H p = none → PoolAt H' p → Q (.ref p) H'
theorem SqL.same {K : PySem.W.Frag} {H H' : Hp} {a : Addr} {xs : List V} (s : Same H H') (h : SqL K H a xs) : SqL K H' a xs := by
  rcases h with (h | ⟨o, h⟩) | h
  · exact .inl (.inl (s _ _ h))
  · exact .inl (.inr ⟨o, s _ _ h⟩)
  · exact .inr h
theorem cal_origin (B : Bi mg) (D : Def K mg "_law_origin" (top 44) ["_law_script", "_law_turn"]) : Cal P w K mg base 1 "_law_origin" ["_law_script", "_law_turn"] (sp_origin K) := by
  refine D.cal sc_origin (fun vs H Q E h => ?_) (fun f cdv A outer s H vs Q E hr h => ?_)
  · obtain ⟨a, ns, t, rfl, _⟩ := h
    rfl
  · obtain ⟨a, ns, t, rfl, hs, hbit, ht, q⟩ := h
    refine ⟨_, pss_cons (ps_set (i := 2) sc_origin.nd rfl (.inl rfl) (pe_ifExp (pt_cmp (pc_lt (pv 1) (pe_callB call_len_seq (by rfl) B.len bt_len (pa_cons (pv 0) pa_nil)))) (pe_ix ix_list (pv 0) (pv 1) (fun _ _ => rfl)) pe_int))
      (pss_cons (ps_set (i := 3) sc_origin.nd rfl (.inl rfl) (pe_op op_add pe_int (pe_op op_mul pe_int (pv 1))))
      (pss_cons (ps_for PassesOwn.never rfl (pi_list (pe_slice sl_list (pv 0) po_none (po_some pe_int))) (pg_name (i := 4) sc_origin.nd rfl (.inl rfl))
        (pss_one (ps_set (i := 3) sc_origin.nd rfl (.inl rfl) (pe_op op_mod (pe_callTy call_int1 (by rfl) B.int bt_int (pa_cons (pe_op op_add (pe_op op_add (pe_op op_mul (pv 3) pe_int) (pe_op op_mul (pv 4) pe_int)) pe_int) pa_nil)) pe_int))))
      (pss_one (ps_ret (pe_lst (pa_cons (pe_ifExp (PW.pt (pw_or (pt_cmp (pc_lt (pv 2) pe_int)) (pw_or1 (pt_cmp (pc_ge (pv 2) (pe_op op_pow pe_int pe_int)))))) (pe_callB call_abs (by rfl) B.abs bt_abs (pa_cons (pv 2) pa_nil)) pe_int)
        (pa_cons (pe_op op_mod (pe_callTy call_int1 (by rfl) B.int bt_int (pa_cons (pe_op op_add (pe_op op_add (pe_op op_mul (pv 3) pe_int) (pe_op op_mulB (pv 2) (pv 2))) (pe_op op_mul pe_int (pv 1))) pa_nil)) pe_int)
        (pa_cons pe_int pa_nil)))))))), ?_⟩
    have hown : Builtin.Int.intBits (ns.getD t 0) ≤ 1048576 := by
      by_cases hlt : t < ns.length
      · rw [List.getD_eq_getElem?_getD, List.getElem?_eq_getElem hlt]
        exact hbit _ (List.getElem_mem hlt)
      · rw [List.getD_eq_getElem?_getD, List.getElem?_eq_none (by omega)]
        decide
    refine tIf_val (decide (((t : Nat) : Int) < (ns.length : Nat))) (.int (ns.getD t 0)) ?_ ?_ ?_ ?_
    · intro Q q
      exact ⟨_, rfl, _, rfl, a, _, rfl, .inl hs, _, _, rfl, rfl, _, congrArg V.bl (by rw [List.length_map]), q⟩
    · intro hc Q q
      have hlt : t < ns.length := by have := of_decide_eq_true hc; omega
      refine ⟨_, rfl, _, rfl, a, _, t, .int (ns.getD t 0), rfl, rfl, hs, atI_nat ?_, q⟩
      rw [List.getElem?_map, List.getD_eq_getElem?_getD, List.getElem?_eq_getElem hlt]
      rfl
    · intro hc Q q
      have hge : ¬ t < ns.length := fun h => by have := of_decide_eq_false hc; omega
      rw [List.getD_eq_getElem?_getD, List.getElem?_eq_none (by omega)] at q
      exact q
    generalize ns.getD t 0 = own at hown
    refine ⟨_, rfl, _, _, rfl, rfl, mulL (by decide) (by decide), _, _, rfl, rfl, ?_⟩
    refine ⟨_, rfl, 5, rfl, a, _, rfl, hs, fun p np => ?_⟩
    have s1 : Same H (upd H p (.lst (cutV (ns.map V.int) none (some 5)))) := same_new np
    have e1 : upd H p (.lst (cutV (ns.map V.int) none (some 5))) p = some (.lst (cutV (ns.map V.int) none (some 5))) := upd_same
    generalize upd H p (.lst (cutV (ns.map V.int) none (some 5))) = H1 at s1 e1
    refine ⟨p, rfl, ⟨_, SqL.of e1⟩, for_it (walk_list (K := K) (a := p) (xs := cutV (ns.map V.int) none (some 5))) (fun i σ H' => H' = H1 ∧ ∃ (st : Int) (y : Option V), σ = [some (.ref a), some (.int t), some (.int own), some (.int st), y] ∧ 0 ≤ st ∧ st < 4294967296) ⟨rfl, _, none, rfl, by omega, by omega⟩ (fun i σ H' _ h => by rw [h.1]; exact SqL.of e1) ?_ ?_⟩
    · rintro i x σ H2 H2' hi ⟨rfl, st, y, rfl, st0, st1⟩ ⟨rfl, hx⟩
      have hm : x ∈ ns.map V.int := List.mem_of_mem_drop (List.mem_of_mem_take (List.mem_of_getElem? hx))
      obtain ⟨n, hn, rfl⟩ := List.mem_map.mp hm
      refine ⟨_, rfl, _, _, rfl, rfl, mulL st0 (by omega), _, rfl, _, _, rfl, rfl, mulR (by decide) (by decide), _, _, rfl, rfl, _, _, rfl, rfl, .inl ⟨_, rfl, _, _, rfl, rfl, by show (0 : Int) < 2147483543; decide, ?_⟩⟩
      exact ⟨rfl, _, _, rfl, Int.emod_nonneg _ (by decide), Int.lt_trans (Int.emod_lt_of_pos _ (by decide)) (by decide)⟩
    · rintro σ H2 ⟨rfl, st, y, rfl, st0, st1⟩
      dsimp only [tRet, tLst, tCons]
      refine tIf_val (decide (own < 0) || decide (own ≥ 10 ^ 18)) (.int (if own < 0 ∨ own ≥ 10 ^ 18 then (if own < 0 then -own else own) else 0)) ?_ ?_ ?_ ?_
      · intro Q q
        by_cases h0 : own < 0
        · refine ⟨_, rfl, _, _, rfl, rfl, true, congrArg V.bl (decide_eq_true h0), iteT ?_⟩
          rw [decide_eq_true h0] at q
          exact q
        · refine ⟨_, rfl, _, _, rfl, rfl, false, congrArg V.bl (decide_eq_false h0), iteF ?_⟩
          rw [decide_eq_false h0, Bool.false_or] at q
          exact ⟨_, rfl, _, _, rfl, rfl, ⟨by decide, by decide, by decide⟩, _, _, rfl, rfl, _, rfl, q⟩
      · intro hc Q q
        have hc' : own < 0 ∨ own ≥ 10 ^ 18 := by
          rcases (Bool.or_eq_true _ _).mp hc with h | h
          · exact .inl (of_decide_eq_true h)
          · exact .inr (of_decide_eq_true h)
        rw [if_pos hc'] at q
        exact ⟨_, rfl, _, rfl, q⟩
      · intro hc Q q
        have hc' : ¬ (own < 0 ∨ own ≥ 10 ^ 18) := by
          have h := Bool.or_eq_false_iff.mp hc
          rintro (h1 | h1)
          · exact of_decide_eq_false h.1 h1
          · exact of_decide_eq_false h.2 h1
        rw [if_neg hc'] at q
        exact q
      have ha : 0 ≤ (if own < 0 ∨ own ≥ 10 ^ 18 then (if own < 0 then -own else own) else 0) := by
        split
        · split <;> omega
        · exact Int.le_refl _
      generalize (if own < 0 ∨ own ≥ 10 ^ 18 then (if own < 0 then -own else own) else 0) = a0 at ha
      refine ⟨_, rfl, _, _, rfl, rfl, mulL st0 (by omega), _, rfl, _, rfl, _, _, rfl, rfl, ⟨hown, hown⟩, _, _, rfl, rfl, _, rfl, _, _, rfl, rfl, mulL (by decide) (by decide), _, _, rfl, rfl, .inl ⟨_, rfl, _, _, rfl, rfl, by show (0 : Int) < 2147483543; decide, ?_⟩⟩
      refine ⟨by show 3 ≤ sizeLine; decide, fun p2 n2 => ?_⟩
      exact q p2 _ (s1.trans (same_new n2)) (none_of_same s1 n2) ⟨a0, _, 0, upd_same, ha, Int.emod_nonneg _ (by decide), Int.lt_trans (Int.emod_lt_of_pos _ (by decide)) (by decide), Int.le_refl _⟩
theorem sc_sip : FnScope ["_law_pool", "_law_size", "_law_figure", "_law_state"] ["_law_pool", "_law_size"] (defScope (top 45)) := ⟨rfl, rfl, rfl, by decide +kernel, rfl, by decide +kernel, by decide +kernel⟩
def sp_sip : Sp := fun vs H Q _ => ∃ (p : Addr) (n : Nat), vs = [.ref p, .int n] ∧ PoolAt H p ∧ 0 < n ∧ n ≤ 1000000 ∧ ∀ (f : Nat) H', f < n → SameX p H H' → PoolAt H' p → Q (.int f) H'
theorem cal_sip (B : Bi mg) (D : Def K mg "_law_sip" (top 45) ["_law_pool", "_law_size"]) : Cal P w K mg base 1 "_law_sip" ["_law_pool", "_law_size"] sp_sip := by
  refine D.cal sc_sip (fun vs H Q E h => ?_) (fun f cdv A outer s H vs Q E hr h => ?_)
  · obtain ⟨p, n, rfl, _⟩ := h
    rfl
  · obtain ⟨p, n, rfl, ⟨a, b, c, ep, a0, b0, b1, c0⟩, n0, n1, q⟩ := h
    refine ⟨_, pss_cons (ps_if (pt_cmp (pc_gt (pe_ix ix_list (pv 0) pe_int (fun _ _ => rfl)) pe_int))
        (pss_cons (ps_asg (pe_callB call_divmod (by rfl) B.divmod bt_divmod (pa_cons (pe_ix ix_list (pv 0) pe_int (fun _ _ => rfl)) (pa_cons (pv 1) pa_nil))) (pg_tup rfl (pgs_cons (pg_sub (pv 0) pe_int set_list) (pgs_cons (pg_name (i := 2) sc_sip.nd rfl (.inl rfl)) pgs_nil)))) (pss_one (ps_ret (pv 2)))) pss_nil)
      (pss_cons (ps_asg (pe_op op_add (pe_ix ix_list (pv 0) pe_int (fun _ _ => rfl)) pe_int) (pg_sub (pv 0) pe_int set_list))
      (pss_cons (ps_set (i := 3) sc_sip.nd rfl (.inl rfl) (pe_op op_mod (pe_callTy call_int1 (by rfl) B.int bt_int (pa_cons (pe_op op_add (pe_op op_add (pe_op op_mul (pe_ix ix_list (pv 0) pe_int (fun _ _ => rfl)) (pe_op op_add pe_int (pe_op op_mul pe_int (pe_ix ix_list (pv 0) pe_int (fun _ _ => rfl))))) (pe_op op_mul pe_int (pe_ix ix_list (pv 0) pe_int (fun _ _ => rfl)))) pe_int) pa_nil)) pe_int))
      (pss_cons (ps_asg (pe_op op_mod (pe_callTy call_int1 (by rfl) B.int bt_int (pa_cons (pe_op op_add (pe_op op_add (pe_op op_mul (pv 3) pe_int) (pe_op op_mul pe_int (pe_ix ix_list (pv 0) pe_int (fun _ _ => rfl)))) pe_int) pa_nil)) pe_int) (pg_sub (pv 0) pe_int set_list))
      (pss_one (ps_ret (pe_op op_mod (pe_callTy call_int1 (by rfl) B.int bt_int (pa_cons (pe_op op_fdiv (pe_ix ix_list (pv 0) pe_int (fun _ _ => rfl)) pe_int) pa_nil)) (pv 1))))))), ?_⟩
    refine ⟨_, rfl, p, _, 0, _, rfl, rfl, SqL.of ep, atI_nat (j := 0) rfl, _, _, rfl, rfl, ?_⟩
    by_cases ha : a > 0
    · refine ⟨true, congrArg V.bl (decide_eq_true ha), iteT ?_⟩
      refine ⟨_, rfl, p, _, 0, _, rfl, rfl, SqL.of ep, atI_nat (j := 0) rfl, _, rfl, _, _, rfl, ⟨by omega, by omega⟩, fun t nt => ?_⟩
      have s1 : Same H (upd H t (.tup [.int (a / n), .int (a % n)])) := same_new nt
      have e1 : upd H t (.tup [.int (a / n), .int (a % n)]) t = some (.tup [.int (a / n), .int (a % n)]) := upd_same
      generalize upd H t (.tup [.int (a / n), .int (a % n)]) = H1 at s1 e1
      refine ⟨t, _, rfl, SqT.of e1, rfl, _, _, rfl, _, rfl, p, _, 0, 0, rfl, rfl, s1 _ _ ep, rfl, _, _, rfl, rfl, _, rfl, ?_⟩
      have h1 := Int.emod_nonneg a (by omega : (n : Int) ≠ 0)
      have h2 := Int.emod_lt_of_pos a (by omega : (0 : Int) < n)
      have h3 : ((a % (n : Int)).toNat : Int) = a % n := Int.toNat_of_nonneg h1
      rw [← h3]
      exact q _ _ (by omega) ((SameX.of s1).trans SameX.put) ⟨a / n, b, c, upd_same, Int.ediv_nonneg a0 (by omega), b0, b1, c0⟩
    · refine ⟨false, congrArg V.bl (decide_eq_false ha), iteF ?_⟩
      -- the third
      refine ⟨_, rfl, p, _, 2, _, rfl, rfl, SqL.of ep, atI_nat (j := 2) rfl, _, _, rfl, rfl, _, rfl, p, _, 2, 2, rfl, rfl, ep, rfl, ?_⟩
      have e2 : upd H p (.lst ([V.int a, .int b, .int c].set 2 (.int (c + 1)))) p = some (.lst [.int a, .int b, .int (c + 1)]) := upd_same
      have s2 : SameX p H (upd H p (.lst ([V.int a, .int b, .int c].set 2 (.int (c + 1))))) := SameX.put
      generalize upd H p (.lst ([V.int a, .int b, .int c].set 2 (.int (c + 1)))) = H2 at e2 s2
      refine ⟨_, rfl, p, _, 1, _, rfl, rfl, SqL.of e2, atI_nat (j := 1) rfl, _, rfl, p, _, 2, _, rfl, rfl, SqL.of e2, atI_nat (j := 2) rfl, _, _, rfl, rfl, mulL (by decide) (by decide), _, _, rfl, rfl, _, _, rfl, rfl, mulL b0 (by omega),
        _, rfl, p, _, 2, _, rfl, rfl, SqL.of e2, atI_nat (j := 2) rfl, _, _, rfl, rfl, mulL (by decide) (by decide), _, _, rfl, rfl, _, _, rfl, rfl, .inl ⟨_, rfl, _, _, rfl, rfl, by show (0 : Int) < 2147483543; decide, ?_⟩⟩
      have st0 : 0 ≤ (b * (51001 + 2 * (c + 1)) + 4013 * (c + 1) + 23) % 2147483543 := Int.emod_nonneg _ (by decide)
      have st1 : (b * (51001 + 2 * (c + 1)) + 4013 * (c + 1) + 23) % 2147483543 < 2147483543 := Int.emod_lt_of_pos _ (by decide)
      refine ⟨_, rfl, _, _, rfl, rfl, mulL st0 (Int.lt_trans st1 (by decide)), _, rfl, p, _, 2, _, rfl, rfl, SqL.of e2, atI_nat (j := 2) rfl, _, _, rfl, rfl, mulL (by decide) (by decide), _, _, rfl, rfl, _, _, rfl, rfl, .inl ⟨_, rfl, _, _, rfl, rfl, by show (0 : Int) < 2147483489; decide, ?_⟩⟩
      refine ⟨_, rfl, p, _, 1, 1, rfl, rfl, e2, rfl, ?_⟩
      obtain ⟨b2, hb2⟩ : ∃ b2, b2 = ((b * (51001 + 2 * (c + 1)) + 4013 * (c + 1) + 23) % 2147483543 * 39019 + 17 * (c + 1) + 9) % 2147483489 := ⟨_, rfl⟩
      have b20 : 0 ≤ b2 := by rw [hb2]; exact Int.emod_nonneg _ (by decide)
      have b21 : b2 < 2147483489 := by rw [hb2]; exact Int.emod_lt_of_pos _ (by decide)
      have e3 : upd H2 p (.lst ([V.int a, .int b, .int (c + 1)].set 1 (.int (((b * (51001 + 2 * (c + 1)) + 4013 * (c + 1) + 23) % 2147483543 * 39019 + 17 * (c + 1) + 9) % 2147483489)))) p = some (.lst [.int a, .int b2, .int (c + 1)]) := by rw [upd_same, hb2]; rfl
      have s3 : SameX p H (upd H2 p (.lst ([V.int a, .int b, .int (c + 1)].set 1 (.int (((b * (51001 + 2 * (c + 1)) + 4013 * (c + 1) + 23) % 2147483543 * 39019 + 17 * (c + 1) + 9) % 2147483489))))) := s2.trans SameX.put
      refine ⟨_, rfl, p, _, 1, _, rfl, rfl, SqL.of e3, atI_nat (j := 1) rfl, _, _, rfl, rfl, ⟨by decide, by decide⟩, .inl ⟨_, rfl, _, rfl, _, _, rfl, rfl, by show (0 : Int) < (n : Int); omega, ?_⟩⟩
      have h1 := Int.emod_nonneg (b2 / 2048) (by omega : (n : Int) ≠ 0)
      have h2 := Int.emod_lt_of_pos (b2 / 2048) (by omega : (0 : Int) < n)
      have h3 : ((b2 / 2048 % (n : Int)).toNat : Int) = b2 / 2048 % n := Int.toNat_of_nonneg h1
      have fin := q (b2 / 2048 % (n : Int)).toNat _ (by omega) s3 ⟨a, b2, c + 1, e3, a0, b20, by omega, by omega⟩
      rw [h3] at fin
      exact fin
end
end Sf

/-! some_one, beside, remainder, grid. -/
namespace Sf
open PySem PySem.Spec PyProof.Rows L2
theorem pool_tups {H H' : Hp} {p : Addr} (h : PoolAt H p) (s : SameX p H H') : Tups H H' := fun b xs e => s b _ (fun z => by
  obtain ⟨a, b', c, ep, _⟩ := h
  rw [z, ep] at e
  cases e) e
section
variable {P : Program} {w : World} {K : PySem.W.Frag} {mg : Str → Option Value} {base : Heap} {C : Addr}
theorem sc_some : FnScope ["_law_pool", "_law_menu"] ["_law_pool", "_law_menu"] (defScope (top 46)) := ⟨rfl, rfl, rfl, by decide +kernel, rfl, by decide +kernel, by decide +kernel⟩
def sp_some : Sp := fun vs H Q _ => ∃ (p m : Addr) (xs : List V), vs = [.ref p, .ref m] ∧ PoolAt H p ∧ H m = some (.lst xs) ∧ m ≠ p ∧ 0 < xs.length ∧ xs.length ≤ 1000000 ∧ ∀ (i : Nat) x H', xs[i]? = some x → SameX p H H' → PoolAt H' p → Q x H'
theorem cal_some (B : Bi mg) (C1 : Cal P w K mg base 1 "_law_sip" ["_law_pool", "_law_size"] sp_sip) (D : Def K mg "_law_some_one" (top 46) ["_law_pool", "_law_menu"]) : Cal P w K mg base 2 "_law_some_one" ["_law_pool", "_law_menu"] sp_some := by
  refine D.cal sc_some (fun vs H Q E h => ?_) (fun f cdv A outer s H vs Q E hr h => ?_)
  · obtain ⟨p, m, xs, rfl, _⟩ := h
    rfl
  · obtain ⟨p, m, xs, rfl, hp, em, hmp, hx0, hx1, q⟩ := h
    refine ⟨_, pss_one (ps_ret (pe_ix ix_list (pv 1) (pe_callC C1 hr (by rfl) (pa_cons (pv 0) (pa_cons (pe_callB call_len_seq (by rfl) B.len bt_len (pa_cons (pv 1) pa_nil)) pa_nil))) (fun _ _ => rfl))), ?_⟩
    refine ⟨_, rfl, _, rfl, _, rfl, m, xs, rfl, .inl (SqL.of em), p, xs.length, rfl, hp, hx0, hx1, fun i H' hi sx hp' => ?_⟩
    exact ⟨m, xs, i, xs[i], rfl, rfl, SqL.of (sx _ _ hmp em), atI_nat (List.getElem?_eq_getElem hi), q i _ H' (List.getElem?_eq_getElem hi) sx hp'⟩
theorem sc_bes : FnScope ["_law_spot", "_law_x", "_law_y"] ["_law_spot"] (defScope (top 47)) := ⟨rfl, rfl, rfl, by decide +kernel, rfl, by decide +kernel, by decide +kernel⟩
def sp_bes : Sp := fun vs H Q _ => ∃ (v : V) (c : Cel), vs = [v] ∧ CellV H v c ∧ ∀ l H', Same H H' → H l = none → CellsL H' l (besM c) → Q (.ref l) H'
theorem cal_bes (D : Def K mg "_law_beside" (top 47) ["_law_spot"]) : Cal P w K mg base 1 "_law_beside" ["_law_spot"] sp_bes := by
  refine D.cal sc_bes (fun vs H Q E h => ?_) (fun f cdv A outer s H vs Q E hr h => ?_)
  · obtain ⟨v, c, rfl, _⟩ := h
    rfl
  · obtain ⟨v, c, rfl, ⟨p, rfl, ep⟩, q⟩ := h
    refine ⟨_, pss_cons (ps_asg (pv 0) (pg_tup rfl (pgs_cons (pg_name (i := 1) sc_bes.nd rfl (.inl rfl)) (pgs_cons (pg_name (i := 2) sc_bes.nd rfl (.inl rfl)) pgs_nil))))
      (pss_one (ps_ret (pe_lst (pa_cons (pe_tup (pa_cons (pe_op op_add (pv 1) pe_int) (pa_cons (pv 2) pa_nil))) (pa_cons (pe_tup (pa_cons (pv 1) (pa_cons (pe_op op_add (pv 2) pe_int) pa_nil)))
        (pa_cons (pe_tup (pa_cons (pe_op op_sub (pv 1) pe_int) (pa_cons (pv 2) pa_nil))) (pa_cons (pe_tup (pa_cons (pv 1) (pa_cons (pe_op op_sub (pv 2) pe_int) pa_nil))) pa_nil))))))), ?_⟩
    refine ⟨_, rfl, p, _, rfl, SqT.of ep, rfl, _, _, rfl, _, _, rfl, rfl, ?_⟩
    refine ⟨_, rfl, _, _, rfl, rfl, _, rfl, by show 2 ≤ sizeLine; decide, fun p1 n1 => ?_⟩
    have s1 : Same H (upd H p1 (.tup [.int (c.1 + 1), .int c.2])) := same_new n1
    have e1 : upd H p1 (.tup [.int (c.1 + 1), .int c.2]) p1 = some (.tup [.int (c.1 + 1), .int c.2]) := upd_same
    generalize upd H p1 (.tup [.int (c.1 + 1), .int c.2]) = H1 at s1 e1
    refine ⟨_, rfl, _, rfl, _, _, rfl, rfl, by show 2 ≤ sizeLine; decide, fun p2 n2 => ?_⟩
    have s2 : Same H1 (upd H1 p2 (.tup [.int c.1, .int (c.2 + 1)])) := same_new n2
    have e2 : upd H1 p2 (.tup [.int c.1, .int (c.2 + 1)]) p2 = some (.tup [.int c.1, .int (c.2 + 1)]) := upd_same
    generalize upd H1 p2 (.tup [.int c.1, .int (c.2 + 1)]) = H2 at s2 e2
    refine ⟨_, rfl, _, _, rfl, rfl, _, rfl, by show 2 ≤ sizeLine; decide, fun p3 n3 => ?_⟩
    have s3 : Same H2 (upd H2 p3 (.tup [.int (c.1 - 1), .int c.2])) := same_new n3
    have e3 : upd H2 p3 (.tup [.int (c.1 - 1), .int c.2]) p3 = some (.tup [.int (c.1 - 1), .int c.2]) := upd_same
    generalize upd H2 p3 (.tup [.int (c.1 - 1), .int c.2]) = H3 at s3 e3
    refine ⟨_, rfl, _, rfl, _, _, rfl, rfl, by show 2 ≤ sizeLine; decide, fun p4 n4 => ?_⟩
    have s4 : Same H3 (upd H3 p4 (.tup [.int c.1, .int (c.2 - 1)])) := same_new n4
    have e4 : upd H3 p4 (.tup [.int c.1, .int (c.2 - 1)]) p4 = some (.tup [.int c.1, .int (c.2 - 1)]) := upd_same
    generalize upd H3 p4 (.tup [.int c.1, .int (c.2 - 1)]) = H4 at s4 e4
    refine ⟨by show 4 ≤ sizeLine; decide, fun l nl => ?_⟩
    have s5 : Same H4 (upd H4 l (.lst [.ref p1, .ref p2, .ref p3, .ref p4])) := same_new nl
    have s04 := ((s1.trans s2).trans s3).trans s4
    exact q l _ (s04.trans s5) (none_of_same s04 nl) ⟨_, upd_same, .cons ⟨p1, rfl, s5 _ _ (s4 _ _ (s3 _ _ (s2 _ _ e1)))⟩ (.cons ⟨p2, rfl, s5 _ _ (s4 _ _ (s3 _ _ e2))⟩ (.cons ⟨p3, rfl, s5 _ _ (s4 _ _ e3)⟩ (.cons ⟨p4, rfl, s5 _ _ e4⟩ .nil)))⟩
/-- the grid that was drawn -/
def GridAt (H : Hp) (g : Addr) (gw gs gh : Nat) : Prop := H g = some (.tup [.int gw, .int gs, .int gh])
theorem sc_rem : FnScope ["_law_grid_here", "_law_spot", "_law_lines"] ["_law_grid_here", "_law_spot"] (defScope (top 48)) := ⟨rfl, rfl, rfl, by decide +kernel, rfl, by decide +kernel, by decide +kernel⟩
def sp_rem : Sp := fun vs H Q _ => ∃ (g : Addr) (v : V) (c : Cel) (gw gs gh : Nat), vs = [.ref g, v] ∧ GridAt H g gw gs gh ∧ CellV H v c ∧ 1 ≤ gw ∧ gw ≤ 5 ∧ gs ≤ 5 ∧ 1 ≤ gh ∧ gh ≤ 5 ∧ ∀ p H', Same H H' → H p = none → CellV H' (.ref p) (remM gw gs gh c) → Q (.ref p) H'
theorem cal_rem (B0 : Bi mg) (D : Def K mg "_law_remainder" (top 48) ["_law_grid_here", "_law_spot"]) : Cal P w K mg base 1 "_law_remainder" ["_law_grid_here", "_law_spot"] sp_rem := by
  refine D.cal sc_rem (fun vs H Q E h => ?_) (fun f cdv A outer s H vs Q E hr h => ?_)
  · obtain ⟨g, v, c, gw, gs, gh, rfl, _⟩ := h
    rfl
  · obtain ⟨g, v, c, gw, gs, gh, rfl, eg, ⟨p, rfl, ep⟩, w1, w5, s5, h1, h5, q⟩ := h
    refine ⟨_, pss_cons (ps_set (i := 2) sc_rem.nd rfl (.inl rfl) (pe_op op_fdiv (pe_ix ix_tup (pv 1) pe_int (fun _ _ => rfl)) (pe_ix ix_tup (pv 0) pe_int (fun _ _ => rfl))))
      (pss_one (ps_ret (pe_tup (pa_cons (pe_op op_mod (pe_callTy call_int1 (by rfl) B0.int bt_int (pa_cons (pe_op op_sub (pe_ix ix_tup (pv 1) pe_int (fun _ _ => rfl)) (pe_op op_mul (pv 2) (pe_ix ix_tup (pv 0) pe_int (fun _ _ => rfl)))) pa_nil)) (pe_ix ix_tup (pv 0) pe_int (fun _ _ => rfl)))
        (pa_cons (pe_op op_sub (pe_ix ix_tup (pv 1) pe_int (fun _ _ => rfl)) (pe_op op_mul (pv 2) (pe_ix ix_tup (pv 0) pe_int (fun _ _ => rfl)))) pa_nil))))), ?_⟩
    refine ⟨_, rfl, p, _, 1, _, rfl, rfl, SqT.of ep, atI_nat (j := 1) rfl, _, rfl, g, _, 2, _, rfl, rfl, SqT.of eg, atI_nat (j := 2) rfl, _, _, rfl, rfl, ⟨by omega, by omega⟩, ?_⟩
    refine ⟨_, rfl, p, _, 0, _, rfl, rfl, SqT.of ep, atI_nat (j := 0) rfl, _, rfl, _, rfl, g, _, 1, _, rfl, rfl, SqT.of eg, atI_nat (j := 1) rfl, _, _, rfl, rfl, mulR (by omega) (by omega), _, _, rfl, rfl, .inl ⟨_, rfl, _, rfl, g, _, 0, _, rfl, rfl, SqT.of eg, atI_nat (j := 0) rfl, _, _, rfl, rfl, by show (0 : Int) < (gw : Int); omega, ?_⟩⟩
    refine ⟨_, rfl, p, _, 1, _, rfl, rfl, SqT.of ep, atI_nat (j := 1) rfl, _, rfl, _, rfl, g, _, 2, _, rfl, rfl, SqT.of eg, atI_nat (j := 2) rfl, _, _, rfl, rfl, mulR (by omega) (by omega), _, _, rfl, rfl, by show 2 ≤ sizeLine; decide, fun p2 n2 => ?_⟩
    exact q p2 _ (same_new n2) n2 ⟨p2, rfl, upd_same⟩
theorem sc_grid : FnScope ["_law_pool", "_law_most_here", "_law_width"] ["_law_pool", "_law_most_here"] (defScope (top 49)) := ⟨rfl, rfl, rfl, by decide +kernel, rfl, by decide +kernel, by decide +kernel⟩
def sp_grid : Sp := fun vs H Q _ => ∃ (p : Addr), vs = [.ref p, .int 5] ∧ PoolAt H p ∧ ∀ g H' (gw gs gh : Nat), 1 ≤ gw → gs ≤ 5 → 1 ≤ gh → gw * gh ≤ 5 → SameX p H H' → PoolAt H' p → GridAt H' g gw gs gh → Q (.ref g) H'
theorem cal_grid (C1 : Cal P w K mg base 1 "_law_sip" ["_law_pool", "_law_size"] sp_sip) (D : Def K mg "_law_grid" (top 49) ["_law_pool", "_law_most_here"]) : Cal P w K mg base 2 "_law_grid" ["_law_pool", "_law_most_here"] sp_grid := by
  refine D.cal sc_grid (fun vs H Q E h => ?_) (fun f cdv A outer s H vs Q E hr h => ?_)
  · obtain ⟨p, rfl, _⟩ := h
    rfl
  · obtain ⟨p, rfl, hp, q⟩ := h
    refine ⟨_, pss_cons (ps_set (i := 2) sc_grid.nd rfl (.inl rfl) (pe_op op_add pe_int (pe_callC C1 hr (by rfl) (pa_cons (pv 0) (pa_cons (pv 1) pa_nil)))))
      (pss_one (ps_ret (pe_tup (pa_cons (pv 2) (pa_cons (pe_callC C1 hr (by rfl) (pa_cons (pv 0) (pa_cons (pv 2) pa_nil))) (pa_cons (pe_op op_add pe_int (pe_callC C1 hr (by rfl) (pa_cons (pv 0) (pa_cons (pe_op op_fdiv (pv 1) (pv 2)) pa_nil)))) pa_nil)))))), ?_⟩
    refine ⟨_, rfl, _, rfl, p, 5, rfl, hp, by decide, by decide, fun a H1 ha s1 hp1 => ?_⟩
    refine ⟨_, _, rfl, rfl, ?_⟩
    refine ⟨_, rfl, _, rfl, _, rfl, p, 1 + a, by rw [Int.natCast_add]; rfl, hp1, by omega, by omega, fun b H2 hb s2 hp2 => ?_⟩
    refine ⟨_, rfl, _, rfl, _, rfl, _, _, rfl, rfl, ⟨by omega, by omega⟩, ?_⟩
    have hd : (5 : Int) / (1 + (a : Int)) = ((5 / (1 + a) : Nat) : Int) := by
      rw [Int.natCast_ediv, Int.natCast_add]
      rfl
    have hd1 : 1 ≤ 5 / (1 + a) := by
      rw [Nat.le_div_iff_mul_le (by omega)]
      omega
    have hd5 : 5 / (1 + a) ≤ 5 := Nat.div_le_self _ _
    have hdm : (1 + a) * (5 / (1 + a)) ≤ 5 := Nat.mul_div_le _ _
    refine ⟨p, 5 / (1 + a), by rw [← hd]; rfl, hp2, by omega, by omega, fun c H3 hc s3 hp3 => ?_⟩
    refine ⟨_, _, rfl, rfl, by show 3 ≤ sizeLine; decide, fun g ng => ?_⟩
    refine q g _ (1 + a) b (1 + c) (by omega) (by omega) (by omega) (Nat.le_trans (Nat.mul_le_mul_left _ (by omega)) hdm) (((s1.trans s2).trans s3).trans (SameX.of (same_new ng))) (hp3.up (same_new ng)) ?_
    unfold GridAt
    rw [upd_same, Int.natCast_add, Int.natCast_add]
    rfl
end
end Sf

/-! grown. -/
namespace Sf
open PySem PySem.Spec PyProof.Rows L2
theorem lL_shaped (cs : List Cel) : SeqAt.shaped (.list (cs.map cD)) = true := by
  unfold SeqAt.shaped
  rw [Bool.and_eq_true]
  refine ⟨cs_lay cs, decide_eq_true ?_⟩
  exact Nat.le_trans (lD_depth cs) (by decide)
section
variable {P : Program} {w : World} {K : PySem.W.Frag} {mg : Str → Option Value} {base : Heap} {C : Addr}
theorem sc_grown : FnScope ["_law_pool", "_law_size", "_law_found", "_law_turn", "_law_near", "_law_each", "_law_spot"] ["_law_pool", "_law_size"] (defScope (top 51)) := ⟨rfl, rfl, rfl, by decide +kernel, rfl, by decide +kernel, by decide +kernel⟩
def sp_grown : Sp := fun vs H Q _ => ∃ (p : Addr) (n : Nat), vs = [.ref p, .int n] ∧ PoolAt H p ∧ 1 ≤ n ∧ n ≤ 5 ∧ ∀ l H' fs, SameX p H H' → PoolAt H' p → CellsL H' l fs → Piece (n - 1) fs → Q (.ref l) H'
theorem cal_grown (B : Bi mg) (C1 : Cal P w K mg base 1 "_law_beside" ["_law_spot"] sp_bes) (C2 : Cal P w K mg base 2 "_law_some_one" ["_law_pool", "_law_menu"] sp_some) (D : Def K mg "_law_grown" (top 51) ["_law_pool", "_law_size"]) : Cal P w K mg base 3 "_law_grown" ["_law_pool", "_law_size"] sp_grown := by
  refine D.cal sc_grown (fun vs H Q E h => ?_) (fun f cdv A outer s H vs Q E hr h => ?_)
  · obtain ⟨p, n, rfl, _⟩ := h
    rfl
  · obtain ⟨p, n, rfl, hp, n1, n5, q⟩ := h
    have h65 := room65 hr
    refine ⟨_, pss_cons (ps_set (i := 2) sc_grown.nd rfl (.inr rfl) (pe_lst (pa_cons (pe_tup (pa_cons pe_int (pa_cons pe_int pa_nil))) pa_nil)))
      (pss_cons (ps_for PassesOwn.never rfl (pi_range1 (by rfl) B.range (pa_cons (pe_op op_sub (pv 1) pe_int) pa_nil)) (pg_name (i := 3) sc_grown.nd rfl (.inl rfl))
        (pss_cons (ps_set (i := 4) sc_grown.nd rfl (.inl rfl) (pe_lst pa_nil))
        (pss_cons (ps_for PassesOwn.never rfl (pi_list (pv 2)) (pg_name (i := 5) sc_grown.nd rfl (.inl rfl))
          (pss_one (ps_set (i := 4) sc_grown.nd rfl (.inl rfl) (pe_op op_cat (pv 4) (pe_lc (own := [("_law_spot", 6)]) (g := gName 6) (by rfl) sc_grown.nd (pi_list (pe_callC (C1.mono (by decide)) hr (by rfl) (pa_cons (pv 5) pa_nil))) (blkOk_by (own := [("_law_spot", 6)]) (N := ["_law_pool", "_law_size", "_law_found", "_law_turn", "_law_near", "_law_each", "_law_spot"]) (sc := defScope (top 51)) (by decide +kernel))
            (fun _ _ _ _ _ => pg_name (i := 6) sc_grown.nd rfl (.inl rfl)) (fun _ _ _ _ _ => pts_one (pt_cmpR (r := rNotInD K) (op_notInD h65) (pv 6) (pv 2) (by rfl))) (fun _ _ _ _ _ => pv 6))))))
        (pss_one (ps_expr (pe_bm PySem.F.plainAttrs_list PySem.F.slot_list_append PySem.F.type_list_append mt_append (pv 2) (pa_cons (pe_callC C2 hr (by rfl) (pa_cons (pv 0) (pa_cons (pv 4) pa_nil))) pa_nil)))))))
      (pss_one (ps_ret (pv 2)))), ?_⟩
    refine ⟨by show 2 ≤ sizeLine; decide, fun p0 np0 => ?_⟩
    have s1 : Same H (upd H p0 (.tup [.int 0, .int 0])) := same_new np0
    have e1 : upd H p0 (.tup [.int 0, .int 0]) p0 = some (.tup [.int 0, .int 0]) := upd_same
    generalize upd H p0 (.tup [.int 0, .int 0]) = H1 at s1 e1
    refine ⟨by show 1 ≤ sizeLine; decide, fun L nL => ?_⟩
    have s2 : Same H1 (upd H1 L (.lst [.ref p0])) := same_new nL
    have eL : upd H1 L (.lst [.ref p0]) L = some (.lst [.ref p0]) := upd_same
    have nL0 := none_of_same s1 nL
    generalize upd H1 L (.lst [.ref p0]) = H2 at s2 eL
    have s02 := s1.trans s2
    have hLp : L ≠ p := fun z => by
      obtain ⟨a, b, c, ep, _⟩ := hp
      rw [z, ep] at nL0
      cases nL0
    refine ⟨_, rfl, _, _, rfl, rfl, n - 1, rfl, by omega, by omega, ?_⟩
    have hsub : ((n : Int) - 1).toNat = n - 1 := by omega
    refine for_it (walk_range (lo := 0) (n := ((n : Int) - 1).toNat)) (fun t σ H' => ∃ (y3 y4 y5 : Option V) (fs : List Cel), σ = [some (.ref p), some (.int n), some (.ref L), y3, y4, y5, none] ∧ SameX p H H' ∧ PoolAt H' p ∧ CellsL H' L fs ∧ Piece t fs)
      ⟨none, none, none, [(0, 0)], rfl, SameX.of s02, hp.up s02, ⟨_, eL, .cons ⟨p0, rfl, s2 _ _ e1⟩ .nil⟩, piece_one⟩ (fun _ _ _ _ _ => trivial) ?_ ?_
    · rintro t x σ H3 H3' ht ⟨y3, y4, y5, fs, rfl, sx, hp3, ⟨vs, eL3, hvs⟩, pc⟩ ⟨rfl, rfl⟩
      have ht4 : t < 4 := by
        have : t < ((n : Int) - 1).toNat := ht
        omega
      refine ⟨Nat.zero_le _, fun N0 nN0 => ?_⟩
      have s3 : Same H3' (upd H3' N0 (.lst [])) := same_new nN0
      have e3 : upd H3' N0 (.lst []) N0 = some (.lst []) := upd_same
      generalize upd H3' N0 (.lst []) = H4 at s3 e3
      have nep : ∀ b, H3' b = none → b ≠ p := fun b hb z => by
        obtain ⟨a, b', c, ep, _⟩ := hp3
        rw [z, ep] at hb
        cases hb
      refine ⟨_, rfl, L, rfl, ⟨vs, SqL.of (s3 _ _ eL3)⟩, ?_⟩
      refine for_it (walk_list (K := K) (a := L) (xs := vs)) (fun j σ H' => ∃ (y5 : Option V) (Nr : Addr) (ws : List V), σ = [some (.ref p), some (.int n), some (.ref L), some (.int (0 + (t : Nat))), some (.ref Nr), y5, none] ∧ Same H3' H' ∧ Nr ≠ p ∧ H' Nr = some (.lst ws) ∧ CellVs H' ws (nearM (fun c => decide (c ∈ fs)) (fs.take j)))
        ⟨y5, N0, [], rfl, s3, nep _ nN0, e3, .nil⟩ (fun j σ H' _ ⟨_, _, _, _, sm, _⟩ => SqL.of (sm _ _ eL3)) ?_ ?_
      · rintro j x σ H5 H5' hj ⟨y5, Nr, ws, rfl, sm, hNp, eN, hws⟩ ⟨rfl, hx⟩
        obtain ⟨c, hc, hcv⟩ := Paired.at hvs hx
        have hcv5 := hcv.up (Same.tups sm)
        refine ⟨_, rfl, _, rfl, x, c, rfl, hcv5, fun bl H6 s6 nbl ⟨bs, eb, hbs⟩ => ?_⟩
        refine ⟨bl, rfl, ⟨bs, SqL.of eb⟩, fun Dn nD => ?_⟩
        have s36 := sm.trans s6
        refine lc_wl (F := CellV) (wl_list upCell eb hbs) nD upCell (fun c => !decide (c ∈ fs)) id (by show (4 : Nat) ≤ sizeLine; decide) ?_ ?_
        · rintro y d H7 N N' hd s7 hy hN hN0
          refine ⟨rfl, _, rfl, _, rfl, cD d, fs.map cD, hy.dp, .lst (SqL.of (s7 _ _ (s36 _ _ eL3))) (CellVs.dp (CellVs.up (Same.tups (s36.trans s7)) hvs)), rfl, lL_shaped fs, ?_⟩
          rw [any_cD]
          by_cases h : d ∈ fs
          · rw [decide_eq_true h]
            exact ⟨_, rfl, iteF (hN0 _ (by rw [decide_eq_true h]; rfl) (Same.refl _))⟩
          · rw [decide_eq_false h]
            exact ⟨_, rfl, iteT ⟨_, rfl, hN _ _ (by rw [decide_eq_false h]; rfl) (Same.refl _) hy⟩⟩
        intro H7 us s7 e7 hus
        rw [List.map_id] at hus
        have hlen : ws.length + us.length ≤ sizeLine := by
          have h1 := paired_len hws
          have h2 := paired_len hus
          have h3 := near_len (fun c => decide (c ∈ fs)) (fs.take j)
          have h4 : ((besM c).filter fun c => !decide (c ∈ fs)).length ≤ 4 := List.length_filter_le _ _
          have h5 := pc.len
          rw [List.length_take] at h3
          have h6 : (100 : Nat) ≤ sizeLine := by decide
          omega
        have s57 := s6.trans s7
        refine ⟨Nr, Dn, ws, us, rfl, rfl, s57 _ _ eN, e7, hlen, fun p8 n8 => ?_⟩
        have s8 : Same H7 (upd H7 p8 (.lst (ws ++ us))) := same_new n8
        have s38 := (s36.trans s7).trans s8
        refine ⟨_, p8, _, rfl, s38, nep _ (none_of_same (s36.trans s7) n8), upd_same, ?_⟩
        unfold nearM
        rw [flat_take _ hc]
        exact Paired.append (CellVs.up (Same.tups (s57.trans s8)) hws) (CellVs.up (Same.tups s8) hus)
      · rintro σ H5 ⟨y5, Nr, ws, rfl, sm, hNp, eN, hws⟩
        have hvl : vs.length = fs.length := cells_len hvs
        rw [hvl, List.take_length] at hws
        have hfne : fs ≠ [] := fun z => by
          have := pc.len
          rw [z] at this
          cases this
        have hwl : ws.length = (nearM (fun c => decide (c ∈ fs)) fs).length := cells_len hws
        have hpos : 0 < ws.length := by
          rw [hwl]
          exact List.length_pos_iff.mpr (grown_ne hfne)
        have hmax : ws.length ≤ 1000000 := by
          have h3 := near_len (fun c => decide (c ∈ fs)) fs
          have h5 := pc.len
          omega
        refine ⟨_, rfl, .inl ⟨rfl, vs, SqL.of (sm _ _ eL3)⟩, _, rfl, _, rfl, p, Nr, ws, rfl, hp3.up sm, eN, hNp, hpos, hmax, fun i x H6 hx sx6 hp6 => ?_⟩
        obtain ⟨c, hc, hcv⟩ := Paired.at hws hx
        obtain ⟨f0, hf0, hb0, hbad⟩ := near_mem.mp (List.mem_of_getElem? hc)
        have hcn : c ∉ fs := of_decide_eq_false hbad
        have eL6 := sx6 _ _ hLp (sm _ _ eL3)
        have tp : Tups H3' H6 := (Same.tups sm).trans (pool_tups (hp3.up sm) sx6)
        have tp2 : Tups H5 H6 := pool_tups (hp3.up sm) sx6
        have hvl6 : vs.length < sizeLine := by
          have h5 := pc.len
          have h6 : (100 : Nat) ≤ sizeLine := by decide
          omega
        refine ⟨L, vs, x, rfl, rfl, eL6, hvl6, ?_⟩
        have t7 : Tups H6 (upd H6 L (.lst (vs ++ [x]))) := tups_lst eL6
        refine ⟨_, _, _, fs ++ [c], rfl, fun b o nb e => ?_, ?_, ⟨_, upd_same, Paired.snoc (CellVs.up (tp.trans t7) hvs) ((hcv.up tp2).up t7)⟩, piece_more pc hf0 hb0 hcn⟩
        · have : b ≠ L := ne_of_none e nL0
          rw [upd_ne this]
          exact sx6 _ _ nb (sm _ _ (sx _ _ nb e))
        · obtain ⟨a, b, c, ep, r⟩ := hp6
          exact ⟨a, b, c, by rw [upd_ne hLp.symm]; exact ep, r⟩
    · rintro σ H3 ⟨y3, y4, y5, fs, rfl, sx, hp3, hL3, pc⟩
      rw [hsub] at pc
      exact ⟨_, rfl, q L H3 fs sx hp3 hL3 pc⟩
end
end Sf

/-! fit. -/
namespace Sf
open PySem PySem.Spec PyProof.Rows L2
section
variable {P : Program} {w : World} {K : PySem.W.Frag} {mg : Str → Option Value} {base : Heap} {C : Addr}
abbrev nFit : List Str := ["_law_pool", "_law_grid_here", "_law_found", "_law_known", "_law_turn", "_law_near", "_law_each", "_law_spot"]
theorem sc_fit : FnScope nFit ["_law_pool", "_law_grid_here"] (defScope (top 50)) := ⟨rfl, rfl, rfl, by decide +kernel, rfl, by decide +kernel, by decide +kernel⟩
def sp_fit : Sp := fun vs H Q _ => ∃ (p g : Addr) (gw gs gh : Nat), vs = [.ref p, .ref g] ∧ PoolAt H p ∧ GridAt H g gw gs gh ∧ 1 ≤ gw ∧ gs ≤ 5 ∧ 1 ≤ gh ∧ gw * gh ≤ 5 ∧ ∀ l H' fs, SameX p H H' → PoolAt H' p → CellsL H' l fs → Piece (gw * gh - 1) fs → Q (.ref l) H'
theorem cal_fit (B : Bi mg) (C1 : Cal P w K mg base 1 "_law_beside" ["_law_spot"] sp_bes) (C2 : Cal P w K mg base 2 "_law_some_one" ["_law_pool", "_law_menu"] sp_some) (C3 : Cal P w K mg base 1 "_law_remainder" ["_law_grid_here", "_law_spot"] sp_rem) (D : Def K mg "_law_fit" (top 50) ["_law_pool", "_law_grid_here"]) : Cal P w K mg base 3 "_law_fit" ["_law_pool", "_law_grid_here"] sp_fit := by
  refine D.cal sc_fit (fun vs H Q E h => ?_) (fun f cdv A outer s H vs Q E hr h => ?_)
  · obtain ⟨p, g, gw, gs, gh, rfl, _⟩ := h
    rfl
  · obtain ⟨p, g, gw, gs, gh, rfl, hp, hg, w1, s5, h1, wh5, q⟩ := h
    have h65 := room65 hr
    have w5 : gw ≤ 5 := Nat.le_trans (Nat.le_mul_of_pos_right gw h1) wh5
    have h5 : gh ≤ 5 := Nat.le_trans (Nat.le_mul_of_pos_left gh w1) wh5
    refine ⟨_, pss_cons (ps_asg (pe_tup (pa_cons (pe_lst (pa_cons (pe_tup (pa_cons pe_int (pa_cons pe_int pa_nil))) pa_nil)) (pa_cons (pe_lst (pa_cons (pe_tup (pa_cons pe_int (pa_cons pe_int pa_nil))) pa_nil)) pa_nil))) (pg_tup rfl (pgs_cons (pg_name (i := 2) sc_fit.nd rfl (.inl rfl)) (pgs_cons (pg_name (i := 3) sc_fit.nd rfl (.inr rfl)) pgs_nil))))
      (pss_cons (ps_for PassesOwn.never rfl (pi_range1 (by rfl) B.range (pa_cons (pe_op op_sub (pe_op op_mul (pe_ix ix_tup (pv 1) pe_int (fun _ _ => rfl)) (pe_ix ix_tup (pv 1) pe_int (fun _ _ => rfl))) pe_int) pa_nil)) (pg_name (i := 4) sc_fit.nd rfl (.inl rfl))
        (pss_cons (ps_set (i := 5) sc_fit.nd rfl (.inl rfl) (pe_lst pa_nil))
        (pss_cons (ps_for PassesOwn.never rfl (pi_list (pv 2)) (pg_name (i := 6) sc_fit.nd rfl (.inl rfl))
          (pss_one (ps_set (i := 5) sc_fit.nd rfl (.inl rfl) (pe_op op_cat (pv 5) (pe_lc (own := [("_law_spot", 7)]) (g := gName 7) (by rfl) sc_fit.nd (pi_list (pe_callC (C1.mono (by decide)) hr (by rfl) (pa_cons (pv 6) pa_nil))) (blkOk_by (own := [("_law_spot", 7)]) (N := nFit) (sc := defScope (top 50)) (by decide +kernel))
            (fun _ _ _ _ _ => pg_name (i := 7) sc_fit.nd rfl (.inl rfl)) (fun _ _ _ _ _ => pts_one (pt_cmpR (r := rNotInD K) (op_notInD h65) (pe_callC (C3.mono (by decide)) hr (by rfl) (pa_cons (pv 1) (pa_cons (pv 7) pa_nil))) (pv 3) (by rfl))) (fun _ _ _ _ _ => pv 7))))))
        (pss_cons (ps_expr (pe_bm PySem.F.plainAttrs_list PySem.F.slot_list_append PySem.F.type_list_append mt_append (pv 2) (pa_cons (pe_callC C2 hr (by rfl) (pa_cons (pv 0) (pa_cons (pv 5) pa_nil))) pa_nil)))
        (pss_one (ps_expr (pe_bm PySem.F.plainAttrs_list PySem.F.slot_list_append PySem.F.type_list_append mt_append (pv 3) (pa_cons (pe_callC (C3.mono (by decide)) hr (by rfl) (pa_cons (pv 1) (pa_cons (pe_ix ix_list (pv 2) (pe_un un_neg pe_int) (fun _ _ => rfl)) pa_nil))) pa_nil))))))))
      (pss_one (ps_ret (pv 2)))), ?_⟩
    refine ⟨by show 2 ≤ sizeLine; decide, fun p0 np0 => ?_⟩
    have s1 : Same H (upd H p0 (.tup [.int 0, .int 0])) := same_new np0
    have e1 : upd H p0 (.tup [.int 0, .int 0]) p0 = some (.tup [.int 0, .int 0]) := upd_same
    generalize upd H p0 (.tup [.int 0, .int 0]) = H1 at s1 e1
    refine ⟨by show 1 ≤ sizeLine; decide, fun L nL => ?_⟩
    have s2 : Same H1 (upd H1 L (.lst [.ref p0])) := same_new nL
    have eL : upd H1 L (.lst [.ref p0]) L = some (.lst [.ref p0]) := upd_same
    have nL0 := none_of_same s1 nL
    generalize upd H1 L (.lst [.ref p0]) = H2 at s2 eL
    have s02 := s1.trans s2
    have nep0 : ∀ b, H b = none → b ≠ p := fun b hb z => by
      obtain ⟨a, b', c, ep, _⟩ := hp
      rw [z, ep] at hb
      cases hb
    have hLp : L ≠ p := nep0 _ nL0
    refine ⟨by show 2 ≤ sizeLine; decide, fun p1 np1 => ?_⟩
    have s3 : Same H2 (upd H2 p1 (.tup [.int 0, .int 0])) := same_new np1
    have e3 : upd H2 p1 (.tup [.int 0, .int 0]) p1 = some (.tup [.int 0, .int 0]) := upd_same
    have eL3 := s3 _ _ eL
    have e13 := s3 _ _ (s2 _ _ e1)
    generalize upd H2 p1 (.tup [.int 0, .int 0]) = H3 at s3 e3 eL3 e13
    have s03 := s02.trans s3
    refine ⟨by show 1 ≤ sizeLine; decide, fun M nM => ?_⟩
    have s4 : Same H3 (upd H3 M (.lst [.ref p1])) := same_new nM
    have eM : upd H3 M (.lst [.ref p1]) M = some (.lst [.ref p1]) := upd_same
    have nM0 := none_of_same s03 nM
    have hML : L ≠ M := ne_of_none eL3 nM
    have hMp : M ≠ p := nep0 _ nM0
    generalize upd H3 M (.lst [.ref p1]) = H4 at s4 eM
    have s04 := s03.trans s4
    refine ⟨by show 2 ≤ sizeLine; decide, fun T nT => ?_⟩
    have s5' : Same H4 (upd H4 T (.tup [.ref L, .ref M])) := same_new nT
    refine ⟨T, _, rfl, SqT.of upd_same, rfl, .ref L, [.ref M], rfl, .ref M, [], rfl, rfl, ?_⟩
    have eL5 := s5' _ _ (s4 _ _ eL3)
    have eM5 := s5' _ _ eM
    have e15 := s5' _ _ (s4 _ _ e13)
    have e35 := s5' _ _ (s4 _ _ e3)
    have s05 := s04.trans s5'
    generalize upd H4 T (.tup [.ref L, .ref M]) = H5 at s5' eL5 eM5 e15 e35 s05
    have eg5 := s05 _ _ hg
    have hgp : g ≠ p := fun z => by
      obtain ⟨a, b, c, ep, _⟩ := hp
      have hg' : H g = some (.tup [.int gw, .int gs, .int gh]) := hg
      rw [z, ep] at hg'
      cases hg'
    have hrem0 : remM gw gs gh ((0 : Int), (0 : Int)) = ((0 : Int), (0 : Int)) := by
      unfold remM
      simp
    refine ⟨_, rfl, g, _, 0, _, rfl, rfl, SqT.of eg5, atI_nat (j := 0) rfl, _, rfl, g, _, 2, _, rfl, rfl, SqT.of eg5, atI_nat (j := 2) rfl, _, _, rfl, rfl, mulL (by omega) (by omega), _, _, rfl, rfl, (gw : Int) * (gh : Int) - 1, rfl, ?_⟩
    have hmul : (gw : Int) * (gh : Int) = ((gw * gh : Nat) : Int) := (Int.natCast_mul gw gh).symm
    have hwh1 : 1 ≤ gw * gh := Nat.mul_pos w1 h1
    have hsub : ((gw : Int) * (gh : Int) - 1).toNat = gw * gh - 1 := by rw [hmul]; omega
    refine ⟨by rw [hmul]; omega, by rw [hmul]; omega, ?_⟩
    refine for_it (walk_range (lo := 0) (n := ((gw : Int) * (gh : Int) - 1).toNat)) (fun t σ H' => ∃ (y4 y5 y6 : Option V) (fs : List Cel), σ = [some (.ref p), some (.ref g), some (.ref L), some (.ref M), y4, y5, y6, none] ∧ SameX p H H' ∧ PoolAt H' p ∧ CellsL H' L fs ∧ CellsL H' M (fs.map (remM gw gs gh)) ∧ Piece t fs ∧ ((0 : Int), (0 : Int)) ∈ fs)
      ⟨none, none, none, [(0, 0)], rfl, SameX.of s05, hp.up s05, ⟨_, eL5, .cons ⟨p0, rfl, e15⟩ .nil⟩, ⟨_, eM5, .cons ⟨p1, rfl, by rw [hrem0]; exact e35⟩ .nil⟩, piece_one, .head _⟩ (fun _ _ _ _ _ => trivial) ?_ ?_
    · rintro t x σ H3 H3' ht ⟨y4, y5, y6, fs, rfl, sx, hp3, ⟨vs, eL3, hvs⟩, ⟨kv, eM3, hkv⟩, pc, h0⟩ ⟨rfl, rfl⟩
      have ht4 : t < gw * gh - 1 := by
        have : t < ((gw : Int) * (gh : Int) - 1).toNat := ht
        rwa [hsub] at this
      have hg3 : GridAt H3' g gw gs gh := sx _ _ hgp hg
      refine ⟨Nat.zero_le _, fun N0 nN0 => ?_⟩
      have s3 : Same H3' (upd H3' N0 (.lst [])) := same_new nN0
      have e3 : upd H3' N0 (.lst []) N0 = some (.lst []) := upd_same
      generalize upd H3' N0 (.lst []) = H4 at s3 e3
      have nep : ∀ b, H3' b = none → b ≠ p := fun b hb z => by
        obtain ⟨a, b', c, ep, _⟩ := hp3
        rw [z, ep] at hb
        cases hb
      refine ⟨_, rfl, L, rfl, ⟨vs, SqL.of (s3 _ _ eL3)⟩, ?_⟩
      refine for_it (walk_list (K := K) (a := L) (xs := vs)) (fun j σ H' => ∃ (y6 : Option V) (Nr : Addr) (ws : List V), σ = [some (.ref p), some (.ref g), some (.ref L), some (.ref M), some (.int (0 + (t : Nat))), some (.ref Nr), y6, none] ∧ Same H3' H' ∧ Nr ≠ p ∧ H' Nr = some (.lst ws) ∧ CellVs H' ws (nearM (fun c => decide (remM gw gs gh c ∈ fs.map (remM gw gs gh))) (fs.take j)))
        ⟨y6, N0, [], rfl, s3, nep _ nN0, e3, .nil⟩ (fun j σ H' _ ⟨_, _, _, _, sm, _⟩ => SqL.of (sm _ _ eL3)) ?_ ?_
      · rintro j x σ H5 H5' hj ⟨y6, Nr, ws, rfl, sm, hNp, eN, hws⟩ ⟨rfl, hx⟩
        obtain ⟨c, hc, hcv⟩ := Paired.at hvs hx
        have hcv5 := hcv.up (Same.tups sm)
        refine ⟨_, rfl, _, rfl, x, c, rfl, hcv5, fun bl H6 s6 nbl ⟨bs, eb, hbs⟩ => ?_⟩
        refine ⟨bl, rfl, ⟨bs, SqL.of eb⟩, fun Dn nD => ?_⟩
        have s36 := sm.trans s6
        refine lc_wl (F := CellV) (wl_list upCell eb hbs) nD upCell (fun c => !decide (remM gw gs gh c ∈ fs.map (remM gw gs gh))) id (by show (4 : Nat) ≤ sizeLine; decide) ?_ ?_
        · rintro y d H7 N N' hd s7 hy hN hN0
          have s37 := s36.trans s7
          refine ⟨rfl, _, rfl, _, rfl, g, y, d, gw, gs, gh, rfl, s37 _ _ hg3, hy, w1, w5, s5, h1, h5, fun pr H8 s8 nr hr8 => ?_⟩
          have s38 := s37.trans s8
          refine ⟨_, rfl, cD (remM gw gs gh d), (fs.map (remM gw gs gh)).map cD, hr8.dp, .lst (SqL.of (s38 _ _ eM3)) (CellVs.dp (CellVs.up (Same.tups s38) hkv)), rfl, lL_shaped _, ?_⟩
          rw [any_cD]
          by_cases h : remM gw gs gh d ∈ fs.map (remM gw gs gh)
          · rw [decide_eq_true h]
            exact ⟨_, rfl, iteF (hN0 _ (by rw [decide_eq_true h]; rfl) s8)⟩
          · rw [decide_eq_false h]
            exact ⟨_, rfl, iteT ⟨_, rfl, hN _ _ (by rw [decide_eq_false h]; rfl) s8 (hy.up (Same.tups s8))⟩⟩
        intro H7 us s7 e7 hus
        rw [List.map_id] at hus
        have hlen : ws.length + us.length ≤ sizeLine := by
          have h1 := paired_len hws
          have h2 := paired_len hus
          have h3 := near_len (fun c => decide (remM gw gs gh c ∈ fs.map (remM gw gs gh))) (fs.take j)
          have h4 : us.length ≤ 4 := by
            rw [h2]
            exact List.length_filter_le _ (besM c)
          have h7 : ws.length ≤ 4 * (fs.take j).length := by
            rw [h1]
            exact h3
          clear h1 h2 h3
          have h5 := pc.len
          rw [List.length_take] at h7
          have h6 : (100 : Nat) ≤ sizeLine := by decide
          omega
        have s57 := s6.trans s7
        refine ⟨Nr, Dn, ws, us, rfl, rfl, s57 _ _ eN, e7, hlen, fun p8 n8 => ?_⟩
        have s8 : Same H7 (upd H7 p8 (.lst (ws ++ us))) := same_new n8
        have s38 := (s36.trans s7).trans s8
        refine ⟨_, p8, _, rfl, s38, nep _ (none_of_same (s36.trans s7) n8), upd_same, ?_⟩
        unfold nearM
        rw [flat_take _ hc]
        exact Paired.append (CellVs.up (Same.tups (s57.trans s8)) hws) (CellVs.up (Same.tups s8) hus)
      · rintro σ H5 ⟨y6, Nr, ws, rfl, sm, hNp, eN, hws⟩
        have hvl : vs.length = fs.length := cells_len hvs
        rw [hvl, List.take_length] at hws
        have hwl : ws.length = (nearM (fun c => decide (remM gw gs gh c ∈ fs.map (remM gw gs gh))) fs).length := cells_len hws
        have hpos : 0 < ws.length := by
          rw [hwl]
          exact List.length_pos_iff.mpr (fit_ne w1 h1 h0 (by rw [pc.len]; omega))
        have hmax : ws.length ≤ 1000000 := by
          have h3 := near_len (fun c => decide (remM gw gs gh c ∈ fs.map (remM gw gs gh))) fs
          have h5 := pc.len
          omega
        refine ⟨_, rfl, .inl ⟨rfl, vs, SqL.of (sm _ _ eL3)⟩, _, rfl, _, rfl, p, Nr, ws, rfl, hp3.up sm, eN, hNp, hpos, hmax, fun i x H6 hx sx6 hp6 => ?_⟩
        obtain ⟨c, hc, hcv⟩ := Paired.at hws hx
        obtain ⟨f0, hf0, hb0, hbad⟩ := near_mem.mp (List.mem_of_getElem? hc)
        have hcr : remM gw gs gh c ∉ fs.map (remM gw gs gh) := of_decide_eq_false hbad
        have hcn : c ∉ fs := fun z => hcr (List.mem_map_of_mem z)
        have eL6 := sx6 _ _ hLp (sm _ _ eL3)
        have eM6 := sx6 _ _ hMp (sm _ _ eM3)
        have eg6 := sx6 _ _ hgp (sm _ _ hg3)
        have tp : Tups H3' H6 := (Same.tups sm).trans (pool_tups (hp3.up sm) sx6)
        have tp2 : Tups H5 H6 := pool_tups (hp3.up sm) sx6
        have hvl6 : vs.length < sizeLine := by
          have h5 := pc.len
          have h6 : (100 : Nat) ≤ sizeLine := by decide
          omega
        refine ⟨L, vs, x, rfl, rfl, eL6, hvl6, ?_⟩
        have t7 : Tups H6 (upd H6 L (.lst (vs ++ [x]))) := tups_lst eL6
        have e7 : upd H6 L (.lst (vs ++ [x])) L = some (.lst (vs ++ [x])) := upd_same
        have eM7 : upd H6 L (.lst (vs ++ [x])) M = some (.lst kv) := by rw [upd_ne hML.symm]; exact eM6
        have hx7 := (hcv.up tp2).up t7
        have eg7 := t7 _ _ eg6
        have sx7 : SameX p H (upd H6 L (.lst (vs ++ [x]))) := fun b o nb e => by
          have : b ≠ L := ne_of_none e nL0
          rw [upd_ne this]
          exact sx6 _ _ nb (sm _ _ (sx _ _ nb e))
        have hp7 : PoolAt (upd H6 L (.lst (vs ++ [x]))) p := by
          obtain ⟨a, b, c, ep, r⟩ := hp6
          exact ⟨a, b, c, by rw [upd_ne hLp.symm]; exact ep, r⟩
        have t37 := tp.trans t7
        generalize upd H6 L (.lst (vs ++ [x])) = H7 at t7 e7 eM7 hx7 eg7 sx7 hp7 t37
        refine ⟨_, rfl, .inl ⟨rfl, kv, SqL.of eM7⟩, _, rfl, _, rfl, 1, rfl, L, vs ++ [x], -1, x, rfl, rfl, SqL.of e7, atI_last vs x, g, x, c, gw, gs, gh, rfl, eg7, hx7, w1, w5, s5, h1, h5, fun pr H8 s8 nr hr8 => ?_⟩
        have eM8 := s8 _ _ eM7
        have hkl : kv.length < sizeLine := by
          have h1 := paired_len hkv
          rw [List.length_map] at h1
          have h5 := pc.len
          have h6 : (100 : Nat) ≤ sizeLine := by decide
          omega
        refine ⟨M, kv, _, rfl, rfl, eM8, hkl, ?_⟩
        have t8 : Tups H8 (upd H8 M (.lst (kv ++ [.ref pr]))) := tups_lst eM8
        have t78 := (Same.tups s8).trans t8
        refine ⟨_, _, _, fs ++ [c], rfl, fun b o nb e => ?_, ?_, ⟨_, by rw [upd_ne hML]; exact s8 _ _ e7, Paired.snoc (CellVs.up (t37.trans t78) hvs) (hx7.up t78)⟩, ⟨_, upd_same, ?_⟩, piece_more pc hf0 hb0 hcn, List.mem_append_left _ h0⟩
        · have : b ≠ M := ne_of_none e nM0
          rw [upd_ne this]
          exact s8 _ _ (sx7 _ _ nb e)
        · obtain ⟨a, b, c, ep, r⟩ := hp7.up s8
          exact ⟨a, b, c, by rw [upd_ne hMp.symm]; exact ep, r⟩
        · rw [List.map_append]
          exact Paired.snoc (CellVs.up (t37.trans t78) hkv) (hr8.up t8)
    · rintro σ H3 ⟨y4, y5, y6, fs, rfl, sx, hp3, hL3, hM3, pc, h0⟩
      rw [hsub] at pc
      exact ⟨_, rfl, q L H3 fs sx hp3 hL3 pc⟩
end
end Sf

/-! small_tiles, moved. -/
namespace Sf
open PySem PySem.Spec PyProof.Rows L2
def two (c : Cel) : List Int := [c.1, c.2]
theorem two_inj {a b : Cel} (h : two a = two b) : a = b := by
  injection h with h1 h2
  injection h2 with h2 _
  exact Prod.ext h1 h2
/-- the cells by their places -/
theorem cells_ks {H : Hp} : ∀ {ws : List V} {cs : List Cel}, CellVs H ws cs → ∃ ks : List (Addr × List Int), ws = ks.map (fun p => V.ref p.1) ∧ ks.map (·.2) = cs.map two ∧ ∀ p ∈ ks, ∃ c ∈ cs, p.2 = two c ∧ H p.1 = some (.tup [.int c.1, .int c.2])
  | _, _, .nil => ⟨[], rfl, rfl, fun p hp => absurd hp List.not_mem_nil⟩
  | _, _, .cons (b := c) q t => by
    obtain ⟨ks, h1, h2, h3⟩ := cells_ks t
    obtain ⟨p, rfl, ep⟩ := q
    refine ⟨(p, two c) :: ks, by rw [h1]; rfl, by rw [List.map_cons, List.map_cons, h2], fun x hx => ?_⟩
    rcases List.mem_cons.mp hx with rfl | hx
    · exact ⟨c, .head _, rfl, ep⟩
    · obtain ⟨d, hd, e⟩ := h3 x hx
      exact ⟨d, .tail _ hd, e⟩
def one (l : List Int) : Cel := (l.getD 0 0, l.getD 1 0)
theorem one_two (c : Cel) : one (two c) = c := rfl
theorem nodup_len {α : Type} [BEq α] [LawfulBEq α] : ∀ {l m : List α}, l.Nodup → (∀ c ∈ l, c ∈ m) → l.length ≤ m.length := by
  intro l
  induction l with
  | nil => intro m _ _; exact Nat.zero_le _
  | cons x r ih =>
    intro m hn hs
    rw [List.nodup_cons] at hn
    have hx : x ∈ m := hs x (.head _)
    have h1 : (m.erase x).length = m.length - 1 := by rw [List.length_erase_of_mem hx]
    have h2 := ih (m := m.erase x) hn.2 (fun c hc => by
      have hne : c ≠ x := fun e => hn.1 (e ▸ hc)
      exact (List.mem_erase_of_ne hne).mpr (hs c (.tail _ hc)))
    have h3 : 0 < m.length := List.length_pos_of_mem hx
    rw [List.length_cons]
    omega
section
variable {P : Program} {w : World} {K : PySem.W.Frag} {mg : Str → Option Value} {base : Heap} {C : Addr}
abbrev nTil : List Str := ["_law_pool", "_law_most_here", "_law_way", "_law_found", "_law_turn"]
theorem sc_tiles : FnScope nTil ["_law_pool", "_law_most_here"] (defScope (top 52)) := ⟨rfl, rfl, rfl, by decide +kernel, rfl, by decide +kernel, by decide +kernel⟩
/-- a set of cells that were drawn -/
structure Tile (cs : List Cel) : Prop where
  ne : cs ≠ []
  le : cs.length ≤ 5
  nd : cs.Nodup
  box : ∀ c ∈ cs, within 5 c
theorem tile_piece {t : Nat} {fs : List Cel} (h : Piece t fs) (ht : t ≤ 4) : Tile fs where
  ne := fun e => by
    have := h.len
    rw [e] at this
    cases this
  le := by rw [h.len]; omega
  nd := h.nd
  box := fun c hc => by
    have := h.box c hc
    unfold within at *
    omega
def sp_tiles : Sp := fun vs H Q _ => ∃ p : Addr, vs = [.ref p, .int 5] ∧ PoolAt H p ∧ ∀ l H' cs, SameX p H H' → PoolAt H' p → CellsL H' l cs → Tile cs → Q (.ref l) H'
theorem cal_tiles (B : Bi mg) (C1 : Cal P w K mg base 1 "_law_sip" ["_law_pool", "_law_size"] sp_sip) (C2 : Cal P w K mg base 3 "_law_grown" ["_law_pool", "_law_size"] sp_grown) (C3 : Cal P w K mg base 3 "_law_fit" ["_law_pool", "_law_grid_here"] sp_fit) (C4 : Cal P w K mg base 2 "_law_grid" ["_law_pool", "_law_most_here"] sp_grid)
    (D : Def K mg "_law_small_tiles" (top 52) ["_law_pool", "_law_most_here"]) : Cal P w K mg base 4 "_law_small_tiles" ["_law_pool", "_law_most_here"] sp_tiles := by
  refine D.cal sc_tiles (fun vs H Q E h => ?_) (fun f cdv A outer s H vs Q E hr h => ?_)
  · obtain ⟨p, rfl, _⟩ := h
    rfl
  · obtain ⟨p, rfl, hp, q⟩ := h
    refine ⟨_, pss_cons (ps_set (i := 2) sc_tiles.nd rfl (.inl rfl) (pe_callC (C1.mono (by decide)) hr (by rfl) (pa_cons (pv 0) (pa_cons pe_int pa_nil))))
      (pss_cons (ps_if (pt_cmp (pc_lt (pv 2) pe_int)) (pss_one (ps_ret (pe_callC C2 hr (by rfl) (pa_cons (pv 0) (pa_cons (pe_op op_add pe_int (pe_callC (C1.mono (by decide)) hr (by rfl) (pa_cons (pv 0) (pa_cons (pv 1) pa_nil)))) pa_nil))))) pss_nil)
      (pss_cons (ps_if (pt_cmpR op_eq (pv 2) pe_int (nomark _)) (pss_one (ps_ret (pe_callC C3 hr (by rfl) (pa_cons (pv 0) (pa_cons (pe_callC (C4.mono (by decide)) hr (by rfl) (pa_cons (pv 0) (pa_cons (pv 1) pa_nil))) pa_nil))))) pss_nil)
      (pss_cons (ps_setLc (i := 3) (own := [("_law_turn", 4)]) (g := gName 4) (tt := tYes) (by rfl) sc_tiles.nd rfl rfl (sw_true rfl rfl rfl (by decide +kernel)) (pi_range1 (by rfl) B.range (pa_cons (pv 1) pa_nil)) (blkOk_by (own := [("_law_turn", 4)]) (N := nTil) (sc := defScope (top 52)) (by decide +kernel))
        (fun _ _ _ _ _ => pg_name (i := 4) sc_tiles.nd rfl (.inl rfl)) (fun _ _ _ _ _ => pts_nil) (fun _ _ _ _ _ => pe_tup (pa_cons (pe_callC (C1.mono (by decide)) hr (by rfl) (pa_cons (pv 0) (pa_cons pe_int pa_nil))) (pa_cons (pe_callC (C1.mono (by decide)) hr (by rfl) (pa_cons (pv 0) (pa_cons pe_int pa_nil))) pa_nil))))
      (pss_one (ps_ret (pe_callB (cr_sortedT rfl) (by rfl) B.sorted bt_sorted (pa_cons (pe_callTy (cr_setOfT rfl hr.units) (by rfl) B.set bt_set (pa_cons (pv 3) pa_nil)) pa_nil))))))), ?_⟩
    refine ⟨_, rfl, p, 4, rfl, hp, by decide, by decide, fun way H1 hway s1 hp1 => ?_⟩
    refine ⟨_, rfl, _, _, rfl, rfl, ?_⟩
    by_cases hw2 : way < 2
    · refine ⟨true, congrArg V.bl (decide_eq_true (by omega)), iteT ?_⟩
      refine ⟨_, rfl, _, rfl, _, rfl, p, 5, rfl, hp1, by decide, by decide, fun a H2 ha s2 hp2 => ?_⟩
      refine ⟨_, _, rfl, rfl, p, 1 + a, by rw [Int.natCast_add]; rfl, hp2, by omega, by omega, fun l H3 fs s3 hp3 hl pc => ?_⟩
      exact q l H3 fs ((s1.trans s2).trans s3) hp3 hl (tile_piece pc (by omega))
    refine ⟨false, congrArg V.bl (decide_eq_false (by omega)), iteF ?_⟩
    refine ⟨_, rfl, rfl, ?_⟩
    by_cases hw3 : way = 2
    · refine ⟨true, congrArg V.bl (decide_eq_true (by rw [hw3]; rfl)), iteT ?_⟩
      refine ⟨_, rfl, _, rfl, _, rfl, p, rfl, hp1, fun g H2 gw gs gh w1 s5 h1 wh s2 hp2 hg => ?_⟩
      refine ⟨p, g, gw, gs, gh, rfl, hp2, hg, w1, s5, h1, wh, fun l H3 fs s3 hp3 hl pc => ?_⟩
      exact q l H3 fs ((s1.trans s2).trans s3) hp3 hl (tile_piece pc (by omega))
    refine ⟨false, congrArg V.bl (decide_eq_false fun z => by injection z with z; exact hw3 (by omega)), iteF ?_⟩
    refine ⟨_, rfl, 5, rfl, by decide, by decide, fun Dn nD => ?_⟩
    have nDp : Dn ≠ p := fun z => by
      obtain ⟨a, b', c, ep, _⟩ := hp1
      rw [z, ep] at nD
      cases nD
    refine lc_range (lo := 0) (n := 5) (fun i H' => SameX p H1 H' ∧ PoolAt H' p ∧ ∃ ws cs, H' Dn = some (.lst ws) ∧ CellVs H' ws cs ∧ cs.length = i ∧ ∀ c ∈ cs, (0 ≤ c.1 ∧ c.1 ≤ 3) ∧ (0 ≤ c.2 ∧ c.2 ≤ 2)) ⟨SameX.of (same_new nD), hp1.up (same_new nD), [], [], upd_same, .nil, rfl, fun c hc => absurd hc List.not_mem_nil⟩ ?_ ?_
    · rintro i H2 hi ⟨s2, hp2, ws, cs, eD, hws, hl, hb⟩
      refine ⟨rfl, _, rfl, p, 4, rfl, hp2, by decide, by decide, fun a H3 ha s3 hp3 => ?_⟩
      refine ⟨_, rfl, p, 3, rfl, hp3, by decide, by decide, fun b H4 hb4 s4 hp4 => ?_⟩
      refine ⟨by show 2 ≤ sizeLine; decide, fun pt np => ?_⟩
      have s5 : Same H4 (upd H4 pt (.tup [.int a, .int b])) := same_new np
      have e5 : upd H4 pt (.tup [.int a, .int b]) pt = some (.tup [.int a, .int b]) := upd_same
      have hp5 := hp4.up s5
      generalize upd H4 pt (.tup [.int a, .int b]) = H5 at s5 e5 hp5
      have s25 : SameX p H2 H5 := (s3.trans s4).trans (SameX.of s5)
      have eD5 := s25 _ _ nDp eD
      have hwl := paired_len hws
      have h6 : (100 : Nat) ≤ sizeLine := by decide
      refine ⟨ws, eD5, by omega, fun b' o nb e => ?_, ?_, ws ++ [.ref pt], cs ++ [((a : Int), (b : Int))], upd_same, ?_, by rw [List.length_append, hl]; rfl, fun c hc => ?_⟩
      · have : b' ≠ Dn := ne_of_none e nD
        rw [upd_ne this]
        exact s25 _ _ nb (s2 _ _ nb e)
      · obtain ⟨a', b', c', ep, r⟩ := hp5
        exact ⟨a', b', c', by rw [upd_ne nDp.symm]; exact ep, r⟩
      · have t6 : Tups H5 (upd H5 Dn (.lst (ws ++ [.ref pt]))) := tups_lst eD5
        exact Paired.snoc (CellVs.up ((pool_tups hp2 s25).trans t6) hws) ⟨pt, rfl, t6 _ _ e5⟩
      · rcases List.mem_append.mp hc with hc | hc
        · exact hb c hc
        · rw [List.mem_singleton] at hc
          subst hc
          dsimp only
          omega
    · rintro H2 ⟨s2, hp2, ws, cs, eD, hws, hl, hb⟩
      obtain ⟨ks, hk1, hk2, hk3⟩ := cells_ks hws
      have hkl : ks.length = 5 := by
        have := congrArg List.length hk2
        rwa [List.length_map, List.length_map, hl] at this
      refine ⟨_, rfl, Dn, ks, rfl, SqL.of (by rw [eD, hk1]), fun x hx => ?_, by omega, fun sa L nsa hL1 hL2 => ?_⟩
      · obtain ⟨c, hc, e1, e2⟩ := hk3 x hx
        rw [e1]
        exact SqT.of e2
      have s3 : Same H2 (upd H2 sa (SetTO P w sa L)) := same_new nsa
      have e3 : upd H2 sa (SetTO P w sa L) sa = some (SetTO P w sa L) := upd_same
      refine ⟨sa, L, 2, 64, rfl, e3, fun x hx => ?_, by decide, fun x hx => ?_, fun L' pl hpm hnd _ _ npl => ?_⟩
      · obtain ⟨c, hc, e1, e2⟩ := hk3 x (hL1 x hx)
        rw [e1]
        exact SqT.of (s3 _ _ e2)
      · obtain ⟨c, hc, e1, e2⟩ := hk3 x (hL1 x hx)
        rw [e1]
        have := hb c hc
        refine ⟨rfl, fun z hz => ?_⟩
        rcases List.mem_cons.mp hz with rfl | hz
        · omega
        · rw [List.mem_singleton] at hz
          subst hz
          omega
      have s4 : Same (upd H2 sa (SetTO P w sa L)) (upd (upd H2 sa (SetTO P w sa L)) pl (.lst (L'.map fun q => V.ref q.1))) := same_new npl
      have hin : ∀ x ∈ L', ∃ c ∈ cs, x.2 = two c ∧ H2 x.1 = some (.tup [.int c.1, .int c.2]) := fun x hx => hk3 x (hL1 x (hpm.mem_iff.mp hx))
      have hmem : ∀ c ∈ L'.map (fun x => one x.2), c ∈ cs := fun c hc => by
        obtain ⟨x, hx, rfl⟩ := List.mem_map.mp hc
        obtain ⟨c, hc, e1, _⟩ := hin x hx
        rw [e1, one_two]
        exact hc
      have hnd2 : (L'.map (fun x => one x.2)).Nodup := by
        refine nodup_of_map two ?_
        rw [List.map_map]
        have : L'.map (two ∘ fun x => one x.2) = L'.map (·.2) := List.map_congr_left fun x hx => by
          obtain ⟨c, _, e1, _⟩ := hin x hx
          show two (one x.2) = x.2
          rw [e1, one_two]
        rw [this]
        exact hnd
      refine q pl _ (L'.map fun x => one x.2) ((s1.trans s2).trans (SameX.of (s3.trans s4))) (hp2.up (s3.trans s4)) ⟨_, upd_same, ?_⟩ ⟨?_, ?_, hnd2, fun c hc => ?_⟩
      · have : ∀ M : List (Addr × List Int), (∀ x ∈ M, ∃ c ∈ cs, x.2 = two c ∧ H2 x.1 = some (.tup [.int c.1, .int c.2])) → CellVs (upd (upd H2 sa (SetTO P w sa L)) pl (.lst (L'.map fun q => V.ref q.1))) (M.map fun q => V.ref q.1) (M.map fun x => one x.2) := by
          intro M
          induction M with
          | nil => intro _; exact .nil
          | cons x r ih =>
            intro h
            obtain ⟨c, _, e1, e2⟩ := h x (.head _)
            have e5 : one x.2 = c := by rw [e1, one_two]
            refine .cons ⟨x.1, rfl, ?_⟩ (ih fun y hy => h y (.tail _ hy))
            show _ = some (HO.tup [V.int (one x.2).1, V.int (one x.2).2])
            rw [e5]
            exact s4 _ _ (s3 _ _ e2)
        exact this L' hin
      · intro e
        have h1 : L' = [] := List.map_eq_nil_iff.mp e
        obtain ⟨k, r, hk⟩ := List.exists_cons_of_ne_nil (l := ks) (fun z => by rw [z] at hkl; cases hkl)
        have h2 := hL2 k (by rw [hk]; exact .head _)
        rw [h1] at hpm
        rw [hpm.symm.eq_nil] at h2
        exact List.not_mem_nil h2
      · have := nodup_len hnd2 hmem
        omega
      · have := hb c (hmem c hc)
        unfold within
        omega
abbrev nMov : List Str := ["_law_some", "_law_sizes", "_law_push", "_law_x", "_law_y"]
theorem sc_moved : FnScope nMov ["_law_some", "_law_sizes", "_law_push"] (defScope (top 53)) := ⟨rfl, rfl, rfl, by decide +kernel, rfl, by decide +kernel, by decide +kernel⟩
def sp_moved : Sp := fun vs H Q _ => ∃ (v : V) (z u : Addr) (l : List Cel) (W Hh a b : Nat), vs = [v, .ref z, .ref u] ∧ FillV H v l ∧ H z = some (.tup [.int W, .int Hh]) ∧ H u = some (.tup [.int a, .int b]) ∧ 1 ≤ W ∧ 1 ≤ Hh ∧ l.length ≤ 36 ∧
  ∀ p H', Same H H' → CellsT H' p (sortC (l.map (bringM W Hh ((a : Int), (b : Int))))) → Q (.ref p) H'
theorem cal_moved (B : Bi mg) (D : Def K mg "_law_moved" (top 53) ["_law_some", "_law_sizes", "_law_push"]) : Cal P w K mg base 1 "_law_moved" ["_law_some", "_law_sizes", "_law_push"] sp_moved := by
  refine D.cal sc_moved (fun vs H Q E h => ?_) (fun f cdv A outer s H vs Q E hr h => ?_)
  · obtain ⟨v, z, u, l, W, Hh, a, b, rfl, _⟩ := h
    rfl
  · obtain ⟨v, z, u, l, W, Hh, a, b, rfl, ⟨pv0, rfl, vs, ev, hvs⟩, ez, eu, w1, h1, h36, q⟩ := h
    refine ⟨_, pss_one (ps_ret (pe_callTy call_tuple_of (by rfl) B.tuple bt_tuple (pa_cons (pe_callB (cr_sortedD (R := CellV) (enc := cD) hr.units) (by rfl) B.sorted bt_sorted (pa_cons
        (pe_lc (own := [("_law_x", 3), ("_law_y", 4)]) (g := gTup K 2 (gCons (gName 3) (gCons (gName 4) gNil))) (tt := tYes) (by rfl) sc_moved.nd (pi_tup (pv 0)) (blkOk_by (own := [("_law_x", 3), ("_law_y", 4)]) (N := nMov) (sc := defScope (top 53)) (by decide +kernel))
          (fun _ _ _ _ _ => pg_tup rfl (pgs_cons (pg_name (i := 3) sc_moved.nd rfl (.inl rfl)) (pgs_cons (pg_name (i := 4) sc_moved.nd rfl (.inl rfl)) pgs_nil))) (fun _ _ _ _ _ => pts_nil)
          (fun _ _ _ _ _ => pe_tup (pa_cons (pe_op op_mod (pe_callTy call_int1 (by rfl) B.int bt_int (pa_cons (pe_op op_add (pv 3) (pe_ix (r := rIxT K) ix_tup (pv 2) pe_int (fun _ _ => rfl))) pa_nil)) (pe_ix (r := rIxT K) ix_tup (pv 1) pe_int (fun _ _ => rfl)))
            (pa_cons (pe_op op_mod (pe_callTy call_int1 (by rfl) B.int bt_int (pa_cons (pe_op op_add (pv 4) (pe_ix (r := rIxT K) ix_tup (pv 2) pe_int (fun _ _ => rfl))) pa_nil)) (pe_ix (r := rIxT K) ix_tup (pv 1) pe_int (fun _ _ => rfl))) pa_nil)))) pa_nil)) pa_nil))), ?_⟩
    refine ⟨_, rfl, pv0, rfl, ⟨vs, SqT.of ev⟩, fun Dn nD => ?_⟩
    refine lc_wl (F := CellV) (wl_tup upCell ev hvs) nD upCell (fun _ => true) (bringM W Hh ((a : Int), (b : Int))) (Nat.le_trans h36 (by decide)) ?_ ?_
    · rintro y c H' N N0 hc sm ⟨p, rfl, ep⟩ hN _
      have ez' := sm _ _ ez
      have eu' := sm _ _ eu
      refine ⟨p, _, rfl, SqT.of ep, rfl, _, _, rfl, _, _, rfl, rfl, rfl, ?_⟩
      refine ⟨_, rfl, _, rfl, u, _, 0, _, rfl, rfl, SqT.of eu', atI_nat (j := 0) rfl, _, _, rfl, rfl, .inl ⟨_, rfl, _, rfl, z, _, 0, _, rfl, rfl, SqT.of ez', atI_nat (j := 0) rfl, _, _, rfl, rfl, by show (0 : Int) < (W : Int); omega, ?_⟩⟩
      refine ⟨_, rfl, _, rfl, u, _, 1, _, rfl, rfl, SqT.of eu', atI_nat (j := 1) rfl, _, _, rfl, rfl, .inl ⟨_, rfl, _, rfl, z, _, 1, _, rfl, rfl, SqT.of ez', atI_nat (j := 1) rfl, _, _, rfl, rfl, by show (0 : Int) < (Hh : Int); omega, ?_⟩⟩
      exact ⟨by show 2 ≤ sizeLine; decide, fun p1 n1 => hN _ _ rfl (same_new n1) ⟨p1, rfl, upd_same⟩⟩
    · intro H4 ws s4 e4 hws
      rw [filter_t] at hws
      refine ⟨Dn, ws, l.map (bringM W Hh ((a : Int), (b : Int))), rfl, SqL.of e4, hws, fun x b _ h => h.dp, PySem.W.AllAlike.of fun a b => cD_alike a b, .inl fun d hd => ?_, fun b _ => cD_depth b, fun us p hus np => ?_⟩
      · obtain ⟨c, _, rfl⟩ := List.mem_map.mp hd
        exact ⟨_, _, rfl⟩
      · rw [sortC_data] at hus
        have s5 : Same H4 (upd H4 p (.lst us)) := same_new np
        refine ⟨p, us, rfl, .inl ⟨SqL.of upd_same, fun p5 n5 => ?_⟩⟩
        have s6 : Same (upd H4 p (.lst us)) (upd (upd H4 p (.lst us)) p5 (.tup us)) := same_new n5
        exact q p5 _ ((s4.trans s5).trans s6) ⟨us, upd_same, CellVs.up ((Same.tups s5).trans (Same.tups s6)) hus⟩
end
end Sf

/-! The plain law: what fillings tells, in order; the counts. -/
namespace Sf
open PySem PySem.Spec PyProof.Rows L2
theorem dl_nil (d : PyData) (ds : List PyData) : PySem.W.rowLt [] (d :: ds) = true := by
  unfold PySem.W.rowLt
  rw [PySem.W.toks_all_cons]
  simp only [PySem.W.keyToksAll]
  rw [lex_diff (O := itemOrd) (by simp)]
  rfl
theorem dl_cons (x y : Cel) (xs ys : List PyData) : PySem.W.rowLt (cD x :: xs) (cD y :: ys) = if x = y then PySem.W.rowLt xs ys else PySem.W.dataLt (cD x) (cD y) := by
  unfold PySem.W.rowLt
  rw [PySem.W.dataLt_cons (cD_alike x y), eqv_cD]
  by_cases h : x = y
  · rw [if_pos h, if_pos (decide_eq_true h)]
  · rw [if_neg h, if_neg (by rw [decide_eq_false h]; decide)]
theorem dl_anti : ∀ xs ys : List Cel, PySem.W.rowLt (xs.map cD) (ys.map cD) = false → PySem.W.rowLt (ys.map cD) (xs.map cD) = false → xs = ys
  | [], [], _, _ => rfl
  | [], y :: ys, h, _ => by
    rw [List.map_nil, List.map_cons, dl_nil] at h
    cases h
  | x :: xs, [], _, h => by
    rw [List.map_nil, List.map_cons, dl_nil] at h
    cases h
  | x :: xs, y :: ys, h1, h2 => by
    rw [List.map_cons, List.map_cons, dl_cons] at h1 h2
    by_cases h : x = y
    · subst h
      rw [if_pos rfl] at h1 h2
      rw [dl_anti xs ys h1 h2]
    · rw [if_neg h] at h1
      rw [if_neg (Ne.symm h)] at h2
      have a1 : PySem.W.dataLt (cD x) (cD y) = decide (x.1 < y.1 ∨ (x.1 = y.1 ∧ x.2 < y.2)) := PySem.W.dataLt_ii x.1 x.2 y.1 y.2
      have a2 : PySem.W.dataLt (cD y) (cD x) = decide (y.1 < x.1 ∨ (y.1 = x.1 ∧ y.2 < x.2)) := PySem.W.dataLt_ii y.1 y.2 x.1 x.2
      rw [a1] at h1
      rw [a2] at h2
      have b1 := of_decide_eq_false h1
      have b2 := of_decide_eq_false h2
      exact absurd (Prod.ext (by omega) (by omega)) h
theorem leL_anti {a b : List Cel} (h1 : PySem.W.dataLe false lD a b = true) (h2 : PySem.W.dataLe false lD b a = true) : a = b := by
  have e1 : (!PySem.W.dataLt (lD b) (lD a)) = true := h1
  have e2 : (!PySem.W.dataLt (lD a) (lD b)) = true := h2
  unfold lD at e1 e2
  rw [PySem.W.dataLt_tuple, Bool.not_eq_true'] at e1 e2
  exact dl_anti a b e2 e1
theorem leL_tot : PySem.W.TotalLe (PySem.W.dataLe false lD) := PySem.W.sortLe_total _ _ _
theorem sortL_eq {a b : List (List Cel)} (p : a.Perm b) : a.mergeSort (PySem.W.dataLe false lD) = b.mergeSort (PySem.W.dataLe false lD) := by
  have tr := leL_tot.trans
  have to : ∀ x y, (PySem.W.dataLe false lD x y || PySem.W.dataLe false lD y x) = true := fun x y => (Bool.or_eq_true _ _).mpr (leL_tot.total x y)
  exact List.Perm.eq_of_pairwise (le := fun x y => PySem.W.dataLe false lD x y = true) (fun _ _ _ _ => leL_anti) (List.pairwise_mergeSort tr to a) (List.pairwise_mergeSort tr to b) ((List.mergeSort_perm a _).trans (p.trans (List.mergeSort_perm b _).symm))
section
variable {W Hh : Nat} {cs : List Cel}
theorem told_perm : (toldM W Hh cs).Perm ((allM W Hh cs).map sortC) := List.mergeSort_perm _ _
theorem told_len : (toldM W Hh cs).length = countM W Hh cs := by
  rw [told_perm.length_eq, List.length_map]
  rfl
theorem told_nodup : (toldM W Hh cs).Nodup := by
  refine told_perm.nodup_iff.mpr ?_
  unfold List.Nodup
  rw [List.pairwise_map]
  have h := fills_apart (ss := okM W Hh cs) (B := blkM W Hh cs) (W * Hh) (placesM W Hh) (places_nodup W Hh) (ok_nodup W Hh cs) (fun s hs => (mem_ok.mp hs).2)
  exact h.imp fun {a b} hab e => hab (perm_of_sortC e)
theorem told_sorted : (toldM W Hh cs).mergeSort (PySem.W.dataLe false lD) = toldM W Hh cs := sortL_eq told_perm
theorem told_moved (w1 : 1 ≤ W) (h1 : 1 ≤ Hh) (ne : cs ≠ []) (p q : Int) {l : List Cel} (h : l ∈ toldM W Hh cs) : sortC (l.map (bringM W Hh (p, q))) ∈ toldM W Hh cs := by
  obtain ⟨S, hS, rfl⟩ := List.mem_map.mp (told_perm.mem_iff.mp h)
  obtain ⟨S', hS', hp⟩ := fill_shoved w1 h1 ne p q hS
  refine told_perm.mem_iff.mpr (List.mem_map.mpr ⟨S', hS', sortC_eq ?_⟩)
  exact hp.trans ((sortC_perm S).symm.map _)
theorem told_ne (w1 : 1 ≤ W) (h1 : 1 ≤ Hh) {l : List Cel} (h : l ∈ toldM W Hh cs) : l ≠ [] ∧ l.length ≤ W * Hh := by
  obtain ⟨S, hS, rfl⟩ := List.mem_map.mp (told_perm.mem_iff.mp h)
  have h2 := fill_size hS
  have h3 := (sortC_perm S).length_eq
  have h4 : 0 < W * Hh := Nat.mul_pos w1 h1
  constructor
  · intro e
    rw [e] at h3
    have h5 : S.length = 0 := h3.symm
    rw [h5, Nat.zero_mul] at h2
    omega
  · rw [h3, h2]
    refine Nat.le_mul_of_pos_right _ (Nat.pos_of_ne_zero fun z => ?_)
    rw [z, Nat.mul_zero] at h2
    omega
end
theorem perm_back {f g : Cel → Cel} (hg : ∀ c, g (f c) = c) {a b : List Cel} (h : b.Perm (a.map f)) : a.Perm (b.map g) := by
  have h2 := h.map g
  rw [List.map_map] at h2
  have : a.map (g ∘ f) = a := by
    have : (g ∘ f) = id := funext hg
    rw [this, List.map_id]
  rw [this] at h2
  exact h2.symm
section
variable {W Hh : Nat} {cs ks : List Cel}
theorem kept_ne (h : Kept cs ks) (hne : cs ≠ []) : ks ≠ [] := kept_pos h hne
theorem count_turned (w1 : 0 < W) (h1 : 0 < Hh) (hne : cs ≠ []) (h : Kept (cs.map gturned) ks) : countM W Hh ks = countM W Hh cs := by
  obtain ⟨⟨x, y, hp⟩, _⟩ := id h
  have hk : ks ≠ [] := kept_pos h fun e => hne (List.map_eq_nil_iff.mp e)
  rw [List.map_map] at hp
  have hp1 : ks.Perm (cs.map fun c => (-1 * c.1 + x, -1 * c.2 + y)) := by
    have : ((shv x y) ∘ gturned) = fun c : Cel => (-1 * c.1 + x, -1 * c.2 + y) := funext fun c => Prod.ext (by show -c.1 + x = _; omega) (by show -c.2 + y = _; omega)
    rwa [this] at hp
  refine Nat.le_antisymm ?_ (count_flip w1 h1 hk (.inr rfl) (.inr rfl) hp1)
  refine count_flip w1 h1 hne (a := x) (b := y) (.inr rfl) (.inr rfl) (perm_back (fun c => Prod.ext ?_ ?_) hp1)
  · dsimp only; omega
  · dsimp only; omega
theorem count_flipped (w1 : 0 < W) (h1 : 0 < Hh) (hne : cs ≠ []) (h : Kept (cs.map gflipped) ks) : countM W Hh ks = countM W Hh cs := by
  obtain ⟨⟨x, y, hp⟩, _⟩ := id h
  have hk : ks ≠ [] := kept_pos h fun e => hne (List.map_eq_nil_iff.mp e)
  rw [List.map_map] at hp
  have hp1 : ks.Perm (cs.map fun c => (-1 * c.1 + x, 1 * c.2 + y)) := by
    have : ((shv x y) ∘ gflipped) = fun c : Cel => (-1 * c.1 + x, 1 * c.2 + y) := funext fun c => Prod.ext (by show -c.1 + x = _; omega) (by show c.2 + y = _; omega)
    rwa [this] at hp
  refine Nat.le_antisymm ?_ (count_flip w1 h1 hk (.inr rfl) (.inl rfl) hp1)
  refine count_flip w1 h1 hne (a := x) (b := -y) (.inr rfl) (.inl rfl) (perm_back (fun c => Prod.ext ?_ ?_) hp1)
  · dsimp only; omega
  · dsimp only; omega
theorem count_quarter (w1 : 0 < W) (h1 : 0 < Hh) (hne : cs ≠ []) (h : Kept (cs.map gquarter) ks) : countM Hh W ks = countM W Hh cs := by
  obtain ⟨⟨x, y, hp⟩, _⟩ := id h
  have hk : ks ≠ [] := kept_pos h fun e => hne (List.map_eq_nil_iff.mp e)
  rw [List.map_map] at hp
  have hp1 : ks.Perm (cs.map fun c => (-1 * c.2 + x, 1 * c.1 + y)) := by
    have : ((shv x y) ∘ gquarter) = fun c : Cel => (-1 * c.2 + x, 1 * c.1 + y) := funext fun c => Prod.ext (by show -c.2 + x = _; omega) (by show c.1 + y = _; omega)
    rwa [this] at hp
  refine Nat.le_antisymm ?_ (count_quart w1 h1 hk (.inr rfl) (.inl rfl) hp1)
  refine count_quart h1 w1 hne (a := -y) (b := x) (.inl rfl) (.inr rfl) (perm_back (fun c => Prod.ext ?_ ?_) hp1)
  · dsimp only; omega
  · dsimp only; omega
end
end Sf

/-! _law_right. -/
namespace Sf
open PySem PySem.Spec PyProof.Rows L2
theorem ls_lay : ∀ ls : List (List Cel), PyData.canLayAll0 (ls.map lD) = true
  | [] => rfl
  | l :: r => by
    show ((lD l).canLay0 && PyData.canLayAll0 (r.map lD)) = true
    rw [ls_lay r, Bool.and_true]
    exact cs_lay l
theorem ls_depth : ∀ ls : List (List Cel), PyData.depthAll (ls.map lD) ≤ 2
  | [] => Nat.zero_le _
  | x :: r => by
    have h := ls_depth r
    have h1 := lD_depth x
    show max (lD x).depth (PyData.depthAll (r.map lD)) ≤ 2
    omega
theorem llD_shaped (ls : List (List Cel)) : SeqAt.shaped (.list (ls.map lD)) = true := by
  unfold SeqAt.shaped
  rw [Bool.and_eq_true]
  refine ⟨ls_lay ls, decide_eq_true ?_⟩
  have h := ls_depth ls
  have e : (PyData.list (ls.map lD)).depth = PyData.depthAll (ls.map lD) + 1 := rfl
  omega
theorem ltD_shaped (ls : List (List Cel)) : SeqAt.shaped (.tuple (ls.map lD)) = true := by
  unfold SeqAt.shaped
  rw [Bool.and_eq_true]
  refine ⟨ls_lay ls, decide_eq_true ?_⟩
  have h := ls_depth ls
  have e : (PyData.tuple (ls.map lD)).depth = PyData.depthAll (ls.map lD) + 1 := rfl
  omega
theorem eqv_ll (ls : List (List Cel)) : PyData.eqv (.list (ls.map lD)) (.list (ls.map lD)) = true := PySem.SeqAt.eqv_refl _ (ls_lay ls)
theorem any_lD {m : List Cel} {ls : List (List Cel)} (h : m ∈ ls) : ((ls.map lD).any fun z => PyData.eqv z (lD m)) = true :=
  List.any_eq_true.mpr ⟨lD m, List.mem_map_of_mem h, PySem.SeqAt.eqv_refl _ (cs_lay m)⟩
theorem FillVs.dp {K : PySem.W.Frag} {H : Hp} : ∀ {vs : List V} {ls : List (List Cel)}, FillVs H vs ls → DpAll K H vs (ls.map lD)
  | _, _, .nil => .nil
  | _, _, .cons q t => .cons (FillV.dp q) (FillVs.dp t)
/-- t[:hi], any hi: a front part of t -/
def rSlP : V → Option Int → Option Int → Hp → VK → Prop := fun x lo hi H Q => ∃ a xs, x = .ref a ∧ lo = none ∧ H a = some (.tup xs) ∧ ∀ (ps : Addr) (H' : Hp) (n : Nat), Same H H' → H' ps = some (.tup (xs.take n)) → Q (.ref ps) H'
theorem sl_front {X : Cx} : SlR X rSlP := by
  intro pins s σ H x v vl vu lo hi sl Q I rx hs hl hu ⟨a, xs, e, elo, ea, k⟩
  refine sl_tupA pins s σ H x v vl vu lo hi sl Q I rx hs hl hu ⟨a, xs, e, SqT.of ea, fun _ => ?_, fun _ p np => ?_⟩
  · exact k a H xs.length (Same.refl H) (by rw [List.take_length]; exact ea)
  · refine k p _ (HT.sIx xs.length xs.length hi - HT.sIx xs.length 0 lo) (same_new np) ?_
    rw [upd_same, elo]
    unfold cutV
    rw [HT.sIx_none, List.drop_zero]
/-- the menu of sizes -/
def tMenu : List (Int × Int) → TA
  | [] => tNil
  | c :: r => tCons (tTup (tCons (tC (.int c.1)) (tCons (tC (.int c.2)) tNil))) (tMenu r)
theorem tMenu_ok : ∀ (l : List (Int × Int)) (σ : L2.St) (H : Hp) (Q : List V → Hp → Prop), (∀ vs H', Same H H' → CellVs H' vs l → Q vs H') → tMenu l σ H Q
  | [], σ, H, Q, h => h [] H (Same.refl H) .nil
  | c :: r, σ, H, Q, h => by
    refine ⟨by show 2 ≤ sizeLine; decide, fun p np => ?_⟩
    have s1 : Same H (upd H p (.tup [.int c.1, .int c.2])) := same_new np
    refine tMenu_ok r σ _ _ fun vs H' s hv => h _ H' (s1.trans s) (.cons ⟨p, rfl, s _ _ upd_same⟩ hv)
theorem tLst_menu {l : List (Int × Int)} {u : TA} {σ : L2.St} {H : Hp} {Q : List V → Hp → Prop} (hl : l.length ≤ sizeLine) (k : ∀ (vs : List V) (mp : Addr) (H1 H' : Hp), Same H H1 → H1 mp = none → CellVs H1 vs l → H' = upd H1 mp (.lst vs) → u σ H' fun ys H2 => Q (.ref mp :: ys) H2) : tCons (tLst (tMenu l)) u σ H Q :=
  tMenu_ok l σ H _ fun vs H' s hv => ⟨by rw [cells_len hv]; exact hl, fun mp n => k vs mp H' _ s n hv rfl⟩
def menu : List (Int × Int) := [(3, 3), (4, 4), (2, 6), (6, 2), (5, 3), (3, 5), (8, 2), (15, 1), (1, 10), (7, 2), (4, 3)]
theorem menu_ok : ∀ c ∈ menu, c = ((c.1.toNat : Int), (c.2.toNat : Int)) ∧ 1 ≤ c.1.toNat ∧ 1 ≤ c.2.toNat ∧ c.1.toNat * c.2.toNat ≤ 16 := by decide +kernel
theorem ShapeN.mono {n m : Nat} {C : Addr} {H : Hp} {x : Addr} {k : List Cel} (h : n ≤ m) (s : ShapeN n C H x k) : ShapeN m C H x k :=
  let ⟨dx, fs, t, e, l, r⟩ := s; ⟨dx, fs, t, e, Nat.le_trans l h, r⟩
theorem ShapeN.upX {n : Nat} {C p : Addr} {H H' : Hp} (hp : PoolAt H p) (s : SameX p H H') {x : Addr} {k : List Cel} (h : ShapeN n C H x k) : ShapeN n C H' x k := by
  obtain ⟨dx, fs, t, e, l, lk, ct, m⟩ := h
  refine ⟨dx, fs, t, s _ _ (fun z => ?_) e, l, lk, ct.up (pool_tups hp s), m⟩
  obtain ⟨a, b, c, ep, _⟩ := hp
  rw [z, ep] at e
  cases e
theorem pool_ne {H : Hp} {p b : Addr} (hp : PoolAt H p) (n : H b = none) : b ≠ p := fun z => by
  obtain ⟨a, b', c, ep, _⟩ := hp
  rw [z, ep] at n
  cases n
theorem tile_near {cs : List Cel} (h : Tile cs) : (∀ c ∈ cs, near 1000 c) ∧ tight 1000 cs := by
  refine ⟨fun c hc => ?_, fun c hc d hd => ?_⟩
  · have := h.box c hc
    unfold within at this
    unfold near
    omega
  · have h1 := h.box c hc
    have h2 := h.box d hd
    unfold within at h1 h2
    omega
section
variable {P : Program} {w : World} {K : PySem.W.Frag} {mg : Str → Option Value} {base : Heap} {C : Addr}
abbrev nRt : List Str := ["_law_pool", "_law_turn", "_law_mine", "_law_sizes", "_law_told", "_law_size", "_law_push", "_law_others", "_law_each"]
theorem sc_right : FnScope nRt ["_law_pool"] (defScope (top 54)) := ⟨rfl, rfl, rfl, by decide +kernel, rfl, by decide +kernel, by decide +kernel⟩
def sp_right : Sp := fun vs H Q _ => ∃ p : Addr, vs = [.ref p] ∧ PoolAt H p ∧ ∀ H', SameX p H H' → Q (.bl true) H'
theorem cal_right (B : Bi mg) (S : ShC K mg C) (hmk : PySem.W.makesIn K C = true) (hkp : PySem.W.keepIn K (.ref C) = true) (M0 : MCal P w K mg base 6 C "__init__" ["self", "cells"] (sp_init C))
    (Mt : MCal P w K mg base 9 C "turned" ["self"] (sp_turn C gturned)) (Mf : MCal P w K mg base 9 C "flipped" ["self"] (sp_turn C gflipped)) (Mq : MCal P w K mg base 9 C "quarter" ["self"] (sp_turn C gquarter)) (Ml : MCal P w K mg base 1 C "__len__" ["self"] (sp_len C))
    (Ct : Cal P w K mg base 4 "_law_small_tiles" ["_law_pool", "_law_most_here"] sp_tiles) (Cs : Cal P w K mg base 2 "_law_some_one" ["_law_pool", "_law_menu"] sp_some) (Cp : Cal P w K mg base 1 "_law_sip" ["_law_pool", "_law_size"] sp_sip) (Cm : Cal P w K mg base 1 "_law_moved" ["_law_some", "_law_sizes", "_law_push"] sp_moved)
    (Cf : Cal P w K mg base 41 "fillings" ["shape", "wide", "high"] (sp_fo C)) (Cc : Cal P w K mg base 41 "count_fillings" ["shape", "wide", "high"] (sp_many C)) (D : Def K mg "_law_right" (top 54) ["_law_pool"]) : Cal P w K mg base 42 "_law_right" ["_law_pool"] sp_right := by
  refine D.cal sc_right (fun vs H Q E h => ?_) (fun f cdv A outer s H vs Q E hr h => ?_)
  · obtain ⟨p, rfl, _⟩ := h
    rfl
  · obtain ⟨p, rfl, hp, q⟩ := h
    have h65 := room65 hr
    have h64 := hr.units
    obtain ⟨g0, gd0, F0, b0, m0⟩ := (M0.mono (by decide : 6 ≤ 40)).ex
    have M : Mk K C g0 := ⟨hmk, m0.at_, m0.fn, hkp⟩
    obtain ⟨gt, gdt, Ft, bt, mt⟩ := (Mt.mono (by decide : 9 ≤ 41)).ex
    obtain ⟨gf, gdf, Ff, bf, mf⟩ := (Mf.mono (by decide : 9 ≤ 41)).ex
    obtain ⟨gq, gdq, Fq, bq, mq⟩ := (Mq.mono (by decide : 9 ≤ 41)).ex
    obtain ⟨gl, gdl, Fl, bl, ml⟩ := (Ml.mono (by decide : 1 ≤ 40)).ex
    refine ⟨_, pss_cons (ps_for PassesOwn.never rfl (pi_range1 (by rfl) B.range (pa_cons pe_int pa_nil)) (pg_name (i := 1) sc_right.nd rfl (.inl rfl))
      (pss_cons (ps_set (i := 2) sc_right.nd rfl (.inl rfl) (pe_make M F0 hr (by rfl) S.name b0 .nil pass0 (pa_cons (pe_callTy call_tuple_of (by rfl) B.tuple bt_tuple (pa_cons (pe_callC (Ct.mono (by decide)) hr (by rfl) (pa_cons (pv 0) (pa_cons pe_int pa_nil))) pa_nil)) pa_nil)))
      (pss_cons (ps_set (i := 3) sc_right.nd rfl (.inr rfl) (pe_callC (Cs.mono (by decide)) hr (by rfl) (pa_cons (pv 0) (pa_cons (pe_lst (t := tMenu menu)
        (pa_cons (pe_tup (pa_cons pe_int (pa_cons pe_int pa_nil))) (pa_cons (pe_tup (pa_cons pe_int (pa_cons pe_int pa_nil))) (pa_cons (pe_tup (pa_cons pe_int (pa_cons pe_int pa_nil))) (pa_cons (pe_tup (pa_cons pe_int (pa_cons pe_int pa_nil)))
        (pa_cons (pe_tup (pa_cons pe_int (pa_cons pe_int pa_nil))) (pa_cons (pe_tup (pa_cons pe_int (pa_cons pe_int pa_nil))) (pa_cons (pe_tup (pa_cons pe_int (pa_cons pe_int pa_nil))) (pa_cons (pe_tup (pa_cons pe_int (pa_cons pe_int pa_nil)))
        (pa_cons (pe_tup (pa_cons pe_int (pa_cons pe_int pa_nil))) (pa_cons (pe_tup (pa_cons pe_int (pa_cons pe_int pa_nil))) (pa_cons (pe_tup (pa_cons pe_int (pa_cons pe_int pa_nil))) pa_nil)))))))))))) pa_nil))))
      (pss_cons (ps_asg (pe_tup (pa_cons (pe_callC Cf hr (by rfl) (pa_cons (pv 2) (pa_cons (pe_ix ix_tup (pv 3) pe_int (fun _ _ => rfl)) (pa_cons (pe_ix ix_tup (pv 3) pe_int (fun _ _ => rfl)) pa_nil)))) (pa_cons (pe_callC Cc hr (by rfl) (pa_cons (pv 2) (pa_cons (pe_ix ix_tup (pv 3) pe_int (fun _ _ => rfl)) (pa_cons (pe_ix ix_tup (pv 3) pe_int (fun _ _ => rfl)) pa_nil)))) pa_nil)))
          (pg_tup rfl (pgs_cons (pg_name (i := 4) sc_right.nd rfl (.inr rfl)) (pgs_cons (pg_name (i := 5) sc_right.nd rfl (.inl rfl)) pgs_nil))))
      (pss_cons (ps_if (PW.pt (pw_or (pt_cmpR op_ne (pe_callB call_len_seq (by rfl) B.len bt_len (pa_cons (pv 4) pa_nil)) (pv 5) (nomark _)) (pw_or1 (pt_cmpR (op_neD h64) (pe_callTy call_list_of (by rfl) B.list bt_list (pa_cons (pv 4) pa_nil))
          (pe_callB (cr_sortedN rfl h64) (by rfl) B.sorted bt_sorted (pa_cons (pe_callTy (cr_setN rfl h64) (by rfl) B.set bt_set (pa_cons (pv 4) pa_nil)) pa_nil)) (nomark _))))) (pss_one (ps_ret pe_bl)) pss_nil)
      (pss_cons (ps_set (i := 6) sc_right.nd rfl (.inr rfl) (pe_tup (pa_cons (pe_callC (Cp.mono (by decide)) hr (by rfl) (pa_cons (pv 0) (pa_cons (pe_ix ix_tup (pv 3) pe_int (fun _ _ => rfl)) pa_nil))) (pa_cons (pe_callC (Cp.mono (by decide)) hr (by rfl) (pa_cons (pv 0) (pa_cons (pe_ix ix_tup (pv 3) pe_int (fun _ _ => rfl)) pa_nil))) pa_nil))))
      (pss_cons (ps_if (pt_cmpR (op_neD h64) (pe_lc (own := [("_law_each", 8)]) (g := gName 8) (by rfl) sc_right.nd (pi_tup (pe_slice sl_front (pv 4) po_none (po_some pe_int))) (blkOk_by (own := [("_law_each", 8)]) (N := nRt) (sc := defScope (top 54)) (by decide +kernel))
          (fun _ _ _ _ _ => pg_name (i := 8) sc_right.nd rfl (.inl rfl)) (fun _ _ _ _ _ => pts_one (pt_cmpR (r := rNotInDT K) (op_notInDT h65) (pe_callC (Cm.mono (by decide)) hr (by rfl) (pa_cons (pv 8) (pa_cons (pv 3) (pa_cons (pv 6) pa_nil)))) (pv 4) (by rfl))) (fun _ _ _ _ _ => pv 8)) (pe_lst pa_nil) (nomark _)) (pss_one (ps_ret pe_bl)) pss_nil)
      (pss_cons (ps_set (i := 7) sc_right.nd rfl (.inl rfl) (pe_lst (pa_cons (pe_callC Cc hr (by rfl) (pa_cons (pe_meth0 (pv 2) S.cl mt Ft hr bt .nil pass0) (pa_cons (pe_ix ix_tup (pv 3) pe_int (fun _ _ => rfl)) (pa_cons (pe_ix ix_tup (pv 3) pe_int (fun _ _ => rfl)) pa_nil))))
          (pa_cons (pe_callC Cc hr (by rfl) (pa_cons (pe_meth0 (pv 2) S.cl mf Ff hr bf .nil pass0) (pa_cons (pe_ix ix_tup (pv 3) pe_int (fun _ _ => rfl)) (pa_cons (pe_ix ix_tup (pv 3) pe_int (fun _ _ => rfl)) pa_nil)))) pa_nil))))
      (pss_cons (ps_if (pt_cmpR (op_neD h64) (pe_op op_cat (pv 7) (pe_lst (pa_cons (pe_callC Cc hr (by rfl) (pa_cons (pe_meth0 (pv 2) S.cl mq Fq hr bq .nil pass0) (pa_cons (pe_ix ix_tup (pv 3) pe_int (fun _ _ => rfl)) (pa_cons (pe_ix ix_tup (pv 3) pe_int (fun _ _ => rfl)) pa_nil)))) pa_nil)))
          (pe_op op_rep (pe_lst (pa_cons (pv 5) pa_nil)) pe_int) (nomark _)) (pss_one (ps_ret pe_bl)) pss_nil)
      (pss_one (ps_if (PW.pt (pw_or (PW.pt (pw_and (pt_cmp (pc_gt (pv 5) pe_int)) (pw_and1 (pt_cmpR op_eq (pe_callC Cc hr (by rfl) (pa_cons (pv 2) (pa_cons (pe_op op_mul pe_int (pe_ix ix_tup (pv 3) pe_int (fun _ _ => rfl))) (pa_cons (pe_ix ix_tup (pv 3) pe_int (fun _ _ => rfl)) pa_nil)))) pe_int (nomark _)))))
          (pw_or1 (PW.pt (pw_and (pt_cmpR op_ne (pe_op op_mod (pe_callTy call_int1 (by rfl) B.int bt_int (pa_cons (pe_op op_mul (pe_ix ix_tup (pv 3) pe_int (fun _ _ => rfl)) (pe_ix ix_tup (pv 3) pe_int (fun _ _ => rfl))) pa_nil)) (pe_callB (call_lenI S.cl ml Fl hr bl pass0) (by rfl) B.len bt_len (pa_cons (pv 2) pa_nil))) pe_int (nomark _))
            (pw_and1 (pt_cmpR op_ne (pv 5) pe_int (nomark _)))))))) (pss_one (ps_ret pe_bl)) pss_nil)))))))))))
      (pss_one (ps_ret pe_bl)), ?_⟩
    refine ⟨4, rfl, by decide, by decide, ?_⟩
    refine for_it (walk_range (lo := 0) (n := (4 : Int).toNat)) (fun t σ H' => ∃ y1 y2 y3 y4 y5 y6 y7 : Option V, σ = [some (.ref p), y1, y2, y3, y4, y5, y6, y7, none] ∧ SameX p H H' ∧ PoolAt H' p) ⟨none, none, none, none, none, none, none, rfl, SameX.of (Same.refl _), hp⟩ (fun _ _ _ _ _ => trivial) ?_ ?_
    · rintro t x σ H1 H1' ht ⟨y1, y2, y3, y4, y5, y6, y7, rfl, sx, hp1⟩ ⟨rfl, rfl⟩
      -- mine
      refine ⟨_, rfl, p, rfl, hp1, fun l H2 cs s2 hp2 ⟨lvs, el, hlvs⟩ tl => ⟨l, lvs, rfl, .inl ⟨SqL.of el, fun t2 nt2 => ?_⟩⟩⟩
      have hnear := tile_near tl
      have s3 : Same H2 (upd H2 t2 (.tup lvs)) := same_new nt2
      have e3 : upd H2 t2 (.tup lvs) t2 = some (.tup lvs) := upd_same
      generalize upd H2 t2 (.tup lvs) = H3 at s3 e3
      intro mn dx nmn ndx hdx
      have s4 : Same H3 (upd (upd H3 dx (.own mn)) mn (.ins C dx [])) := fun b o e => by
        rw [upd_ne (ne_of_none e nmn), upd_ne (ne_of_none e ndx)]
        exact e
      have hlv3 := CellVs.up (Same.tups s3) hlvs
      refine ⟨mn, t2, dx, cs, rfl, upd_same, ⟨lvs, s4 _ _ e3, CellVs.up (Same.tups s4) hlv3⟩, tl.ne, Nat.le_trans tl.le (by decide), tl.nd, hnear.1, hnear.2, fun H5 ks sx5 sh5 hK => ⟨rfl, ?_⟩⟩
      have s35 : Same H3 H5 := SameX.own s4 nmn sx5
      have s25 := s3.trans s35
      have hp5 := hp2.up s25
      have sx05 : SameX p H H5 := (sx.trans s2).trans (SameX.of s25)
      have sh5' : ShapeAt C H5 mn ks := ShapeN.mono (by decide) sh5
      have kne := kept_pos hK tl.ne
      have kle : ks.length ≤ 5 := by rw [kept_len hK]; exact tl.le
      have ktt : tight 1000 ks := tight_shv hK hnear.2
      clear sx5 sh5 s35 s25 s3 e3 s4 hlv3 hp2 hp1 s2 el
      -- sizes
      refine ⟨_, rfl, ?_⟩
      show tCons (tLst (tMenu menu)) tNil _ _ _
      refine tLst_menu (by show 11 ≤ sizeLine; decide) fun mvs mp H6 H7 s6 nmp hmv hH7 => ?_
      have s7 : Same H6 H7 := by rw [hH7]; exact same_new nmp
      have e7 : H7 mp = some (.lst mvs) := by rw [hH7]; exact upd_same
      have hmp := pool_ne (hp5.up s6) nmp
      have hmv7 := CellVs.up (Same.tups s7) hmv
      have s57 := s6.trans s7
      have hp7 := hp5.up s57
      refine ⟨p, mp, mvs, rfl, hp7, e7, hmp, by rw [cells_len hmv]; decide, by rw [cells_len hmv]; decide, fun i zv H8 hzv sx8 hp8 => ?_⟩
      obtain ⟨sz, hsz, hzc⟩ := Paired.at hmv7 hzv
      obtain ⟨hsz0, w1, h1, h16⟩ := menu_ok sz (List.mem_of_getElem? hsz)
      obtain ⟨pz, rfl, ez⟩ := hzc.up (pool_tups hp7 sx8)
      rw [hsz0] at ez
      generalize sz.1.toNat = W at w1 h16 ez
      generalize sz.2.toNat = Hh at h1 h16 ez
      have sx58 : SameX p H5 H8 := (SameX.of s57).trans sx8
      have sh8 : ShapeAt C H8 mn ks := ShapeN.upX hp5 sx58 sh5'
      have sx08 : SameX p H H8 := sx05.trans sx58
      clear sx58 sx8 hp7 s57 hmv7 e7 s7 hmv s6 hp5 sh5' sx05
      have h256 := all_few kne kle h16
      have hW16 : W ≤ 16 := Nat.le_trans (Nat.le_mul_of_pos_right W h1) h16
      have hH16 : Hh ≤ 16 := Nat.le_trans (Nat.le_mul_of_pos_left Hh w1) h16
      -- told, size
      refine ⟨_, rfl, _, rfl, pz, _, 0, _, rfl, rfl, SqT.of ez, atI_nat (j := 0) rfl, _, rfl, pz, _, 1, _, rfl, rfl, SqT.of ez, atI_nat (j := 1) rfl, mn, ks, W, Hh, rfl, sh8, kne, Nat.le_trans kle (by decide), w1, h1, by omega, by omega, fun pt H9 s9 ⟨tvs, et, htv⟩ => ?_⟩
      have ez9 := s9 _ _ ez
      refine ⟨_, rfl, _, rfl, pz, _, 0, _, rfl, rfl, SqT.of ez9, atI_nat (j := 0) rfl, _, rfl, pz, _, 1, _, rfl, rfl, SqT.of ez9, atI_nat (j := 1) rfl, mn, ks, W, Hh, rfl, sh8.up s9, kne, kle, w1, h1, by omega, fun H10 s10 => ?_⟩
      refine ⟨by show 2 ≤ sizeLine; decide, fun T nT => ?_⟩
      have s11 : Same H10 (upd H10 T (.tup [.ref pt, .int (countM W Hh ks : Nat)])) := same_new nT
      have e11 : upd H10 T (.tup [.ref pt, .int (countM W Hh ks : Nat)]) T = some (.tup [.ref pt, .int (countM W Hh ks : Nat)]) := upd_same
      generalize upd H10 T (.tup [.ref pt, .int (countM W Hh ks : Nat)]) = H11 at s11 e11
      refine ⟨T, _, rfl, SqT.of e11, rfl, .ref pt, _, rfl, .int (countM W Hh ks : Nat), [], rfl, rfl, ?_⟩
      have s911 := s10.trans s11
      have s811 := s9.trans s911
      have et11 := s911 _ _ et
      have htv11 := FillVs.up (Same.tups s911) htv
      have ez11 := s811 _ _ ez
      have sh11 : ShapeAt C H11 mn ks := ShapeAt.up s811 sh8
      have hp11 := hp8.up s811
      have sx011 : SameX p H H11 := sx08.trans (SameX.of s811)
      clear s911 s811 s11 e11 s10 ez9 htv et s9 sh8 ez hp8 sx08
      have htl : tvs.length = countM W Hh ks := (paired_len htv11).trans told_len
      -- len(told) != size
      refine ⟨_, rfl, pt, tvs, rfl, .inr (SqT.of et11), _, rfl, rfl, false, congrArg V.bl (by rw [htl, decide_eq_true rfl]; rfl), iteF ?_⟩
      -- list(told) != sorted(set(told))
      refine ⟨_, rfl, pt, tvs, rfl, .inr (SqT.of et11), fun lt nlt => ?_⟩
      have s12 : Same H11 (upd H11 lt (.lst tvs)) := same_new nlt
      have e12 : upd H11 lt (.lst tvs) lt = some (.lst tvs) := upd_same
      generalize upd H11 lt (.lst tvs) = H12 at s12 e12
      have htv12 := FillVs.up (Same.tups s12) htv11
      have hcl : countM W Hh ks ≤ 256 := h256
      refine ⟨_, rfl, pt, tvs, toldM W Hh ks, rfl, SqT.of (s12 _ _ et11), htv12, told_nodup, by rw [told_len]; omega, fun sa L nsa hL hLp => ?_⟩
      have s13 : Same H12 (upd H12 sa (SetNO w sa L)) := same_new nsa
      refine ⟨sa, L, rfl, upd_same, fun x hx => ⟨(hL x hx).up (Same.tups s13), (told_ne w1 h1 (hLp.mem_iff.mp (List.mem_map_of_mem hx))).1⟩, fun bs ys pl hbs hys npl => ?_⟩
      have hbt : bs.mergeSort (PySem.W.dataLe false lD) = toldM W Hh ks := (sortL_eq (hbs.trans hLp)).trans told_sorted
      rw [hbt] at hys
      have s14 : Same (upd H12 sa (SetNO w sa L)) (upd (upd H12 sa (SetNO w sa L)) pl (.lst ys)) := same_new npl
      have e14 : upd (upd H12 sa (SetNO w sa L)) pl (.lst ys) pl = some (.lst ys) := upd_same
      have hys14 := FillVs.up (Same.tups s14) hys
      have s1214 := s13.trans s14
      refine ⟨.list ((toldM W Hh ks).map lD), .list ((toldM W Hh ks).map lD), .lst (SqL.of (s1214 _ _ e12)) (FillVs.dp (FillVs.up (Same.tups s1214) htv12)), .lst (SqL.of e14) (FillVs.dp hys14), llD_shaped _, llD_shaped _, false, congrArg V.bl (by rw [eqv_ll]; rfl), iteF ?_⟩
      have s1114 := s12.trans s1214
      clear hys14 hys e14 s14 s13
      have et14 := s1114 _ _ et11
      have htv14 := FillVs.up (Same.tups s1114) htv11
      have ez14 := s1114 _ _ ez11
      have sh14 : ShapeAt C _ mn ks := ShapeAt.up s1114 sh11
      have hp14 := hp11.up s1114
      have sx014 : SameX p H _ := sx011.trans (SameX.of s1114)
      -- push
      refine ⟨_, rfl, _, rfl, pz, _, 0, _, rfl, rfl, SqT.of ez14, atI_nat (j := 0) rfl, p, W, rfl, hp14, w1, by omega, fun a H15 ha sx15 hp15 => ?_⟩
      have ez15 := pool_tups hp14 sx15 _ _ ez14
      refine ⟨_, rfl, _, rfl, pz, _, 1, _, rfl, rfl, SqT.of ez15, atI_nat (j := 1) rfl, p, Hh, rfl, hp15, h1, by omega, fun b H16 hb sx16 hp16 => ?_⟩
      refine ⟨by show 2 ≤ sizeLine; decide, fun pu nu => ?_⟩
      have s17 : Same H16 (upd H16 pu (.tup [.int a, .int b])) := same_new nu
      have eu : upd H16 pu (.tup [.int a, .int b]) pu = some (.tup [.int a, .int b]) := upd_same
      have sx17 := (sx15.trans sx16).trans (SameX.of s17)
      have hp17 := hp16.up s17
      generalize upd H16 pu (.tup [.int a, .int b]) = H17 at s17 eu sx17 hp17
      have t17 := pool_tups hp14 sx17
      have et17 := t17 _ _ et14
      have ez17 := t17 _ _ ez14
      have htv17 := FillVs.up t17 htv14
      have sh17 : ShapeAt C H17 mn ks := ShapeN.upX hp14 sx17 sh14
      have sx017 : SameX p H H17 := sx014.trans sx17
      clear t17 sx17 s17 hp16 sx16 hp15 sx15 ez15 sx014 hp14 sh14 ez14 htv14 et14 s1114
      -- moved
      refine ⟨_, rfl, 60, rfl, pt, tvs, rfl, rfl, et17, fun ps H18 n s18 eps => ?_⟩
      have htv18 := FillVs.up (Same.tups s18) htv17
      have hz18 : ((toldM W Hh ks).take n).length ≤ sizeLine := by
        have h5 : 256 ≤ sizeLine := by decide
        have h6 := told_len (W := W) (Hh := Hh) (cs := ks)
        rw [List.length_take]
        omega
      refine ⟨ps, rfl, ⟨_, SqT.of eps⟩, fun Dn nD => ?_⟩
      refine lc_wl (F := FillV) (wl_tup upFill eps (paired_take n htv18)) nD upFill (fun _ => false) id hz18 ?_ ?_
      · rintro y l H19 N N0 hl s19 hy hN hN0
        have hlt := List.mem_of_mem_take hl
        have s1719 := s18.trans s19
        have hll := (told_ne w1 h1 hlt).2
        refine ⟨rfl, _, rfl, _, rfl, _, rfl, y, pz, pu, l, W, Hh, a, b, rfl, hy, s1719 _ _ ez17, s1719 _ _ eu, w1, h1, by omega, fun pm H20 s20 hm => ?_⟩
        have s1720 := s1719.trans s20
        refine ⟨_, rfl, lD (sortC (l.map (bringM W Hh ((a : Int), (b : Int))))), (toldM W Hh ks).map lD, FillV.dp ⟨pm, rfl, hm⟩, .tup (SqT.of (s1720 _ _ et17)) (FillVs.dp (FillVs.up (Same.tups s1720) htv17)), lD_shaped _, ltD_shaped _, false, ?_, iteF (hN0 _ rfl s20)⟩
        rw [any_lD (told_moved w1 h1 kne (a : Int) (b : Int) hlt)]
        rfl
      intro H19 ys s19 e19 hys
      have hys0 : ys = [] := by
        have := paired_len hys
        rw [List.length_map] at this
        have h2 : ((toldM W Hh ks).take n).filter (fun _ => false) = [] := List.filter_eq_nil_iff.mpr fun _ _ => by decide
        rw [h2] at this
        exact List.length_eq_zero_iff.mp this
      subst hys0
      refine ⟨Nat.zero_le _, fun pn npn => ?_⟩
      have s20 : Same H19 (upd H19 pn (.lst [])) := same_new npn
      have e20 : upd H19 pn (.lst []) pn = some (.lst []) := upd_same
      generalize upd H19 pn (.lst []) = H20 at s20 e20
      refine ⟨.list [], .list [], .lst (SqL.of (s20 _ _ e19)) .nil, .lst (SqL.of e20) .nil, rfl, rfl, false, rfl, iteF ?_⟩
      have s1720 := (s18.trans s19).trans s20
      have ez20 := s1720 _ _ ez17
      have sh20 : ShapeAt C H20 mn ks := ShapeAt.up s1720 sh17
      have hp20 := hp17.up s1720
      have sx020 : SameX p H H20 := sx017.trans (SameX.of s1720)
      clear e20 s20 e19 s1720 s19 s18 eps htv18 hz18 sx017 hp17 sh17 ez17 eu htv17 et17
      -- others
      obtain ⟨dxa, fsa, ta, ea, la, lka, cta, hma⟩ := id sh20
      refine ⟨_, rfl, mn, dxa, fsa, rfl, ea, hma _ (by decide +kernel), mn, ks, rfl, sh20, kne, Nat.le_trans kle (by decide), ktt, fun xt H21 kt s21 sht hKt => ?_⟩
      have ez21 := s21 _ _ ez20
      have knt := kept_pos hKt fun z => kne (List.map_eq_nil_iff.mp z)
      have klt : kt.length ≤ 5 := by rw [kept_len hKt, List.length_map]; exact kle
      refine ⟨_, rfl, pz, _, 0, _, rfl, rfl, SqT.of ez21, atI_nat (j := 0) rfl, _, rfl, pz, _, 1, _, rfl, rfl, SqT.of ez21, atI_nat (j := 1) rfl, xt, kt, W, Hh, rfl, sht, knt, klt, w1, h1, by omega, fun H22 s22 => ?_⟩
      rw [count_turned w1 h1 kne hKt]
      have s2022 := s21.trans s22
      have sh22 : ShapeAt C H22 mn ks := ShapeAt.up s2022 sh20
      obtain ⟨dxb, fsb, tb, eb, lb, lkb, ctb, hmb⟩ := id sh22
      refine ⟨_, rfl, mn, dxb, fsb, rfl, eb, hmb _ (by decide +kernel), mn, ks, rfl, sh22, kne, Nat.le_trans kle (by decide), ktt, fun xf H23 kf s23 shf hKf => ?_⟩
      have ez23 := s23 _ _ (s2022 _ _ ez20)
      have knf := kept_pos hKf fun z => kne (List.map_eq_nil_iff.mp z)
      have klf : kf.length ≤ 5 := by rw [kept_len hKf, List.length_map]; exact kle
      refine ⟨_, rfl, pz, _, 0, _, rfl, rfl, SqT.of ez23, atI_nat (j := 0) rfl, _, rfl, pz, _, 1, _, rfl, rfl, SqT.of ez23, atI_nat (j := 1) rfl, xf, kf, W, Hh, rfl, shf, knf, klf, w1, h1, by omega, fun H24 s24 => ?_⟩
      rw [count_flipped w1 h1 kne hKf]
      refine ⟨by show 2 ≤ sizeLine; decide, fun lo nlo => ?_⟩
      have s25 : Same H24 (upd H24 lo (.lst [.int (countM W Hh ks : Nat), .int (countM W Hh ks : Nat)])) := same_new nlo
      have e25 : upd H24 lo (.lst [.int (countM W Hh ks : Nat), .int (countM W Hh ks : Nat)]) lo = some (.lst [.int (countM W Hh ks : Nat), .int (countM W Hh ks : Nat)]) := upd_same
      generalize upd H24 lo (.lst [.int (countM W Hh ks : Nat), .int (countM W Hh ks : Nat)]) = H25 at s25 e25
      have s2025 := (s2022.trans s23).trans (s24.trans s25)
      have ez25 := s2025 _ _ ez20
      have sh25 : ShapeAt C H25 mn ks := ShapeAt.up s2025 sh20
      have hp25 := hp20.up s2025
      have sx025 : SameX p H H25 := sx020.trans (SameX.of s2025)
      clear s2025 s25 s24 ez23 s23 shf hKf knf klf eb lkb ctb hmb sh22 s2022 s22 ez21 s21 sht hKt knt klt ea lka cta hma sx020 hp20 sh20 ez20
      -- others + .. != ..
      obtain ⟨dxc, fsc, tc, ec, lc, lkc, ctc, hmc⟩ := id sh25
      refine ⟨_, rfl, _, rfl, mn, dxc, fsc, rfl, ec, hmc _ (by decide +kernel), mn, ks, rfl, sh25, kne, Nat.le_trans kle (by decide), ktt, fun xq H26 kq s26 shq hKq => ?_⟩
      have ez26 := s26 _ _ ez25
      have knq := kept_pos hKq fun z => kne (List.map_eq_nil_iff.mp z)
      have klq : kq.length ≤ 5 := by rw [kept_len hKq, List.length_map]; exact kle
      have hcm : Hh * W ≤ 32 := by rw [Nat.mul_comm]; omega
      refine ⟨_, rfl, pz, _, 1, _, rfl, rfl, SqT.of ez26, atI_nat (j := 1) rfl, _, rfl, pz, _, 0, _, rfl, rfl, SqT.of ez26, atI_nat (j := 0) rfl, xq, kq, Hh, W, rfl, shq, knq, klq, h1, w1, hcm, fun H27 s27 => ?_⟩
      rw [count_quarter w1 h1 kne hKq]
      generalize hcnt : countM W Hh ks = cnt at e25
      refine ⟨by show 1 ≤ sizeLine; decide, fun lq nlq => ?_⟩
      have s28 : Same H27 (upd H27 lq (.lst [.int (cnt : Nat)])) := same_new nlq
      have e28 : upd H27 lq (.lst [.int (cnt : Nat)]) lq = some (.lst [.int (cnt : Nat)]) := upd_same
      generalize upd H27 lq (.lst [.int (cnt : Nat)]) = H28 at s28 e28
      have s2528 := (s26.trans s27).trans s28
      refine ⟨lo, lq, _, _, rfl, rfl, s2528 _ _ e25, e28, by show 3 ≤ sizeLine; decide, fun lc nlc => ?_⟩
      have s29 : Same H28 (upd H28 lc (.lst ([.int (cnt : Nat), .int (cnt : Nat)] ++ [.int (cnt : Nat)]))) := same_new nlc
      have e29 : upd H28 lc (.lst ([.int (cnt : Nat), .int (cnt : Nat)] ++ [.int (cnt : Nat)])) lc = some (.lst ([.int (cnt : Nat), .int (cnt : Nat)] ++ [.int (cnt : Nat)])) := upd_same
      generalize upd H28 lc (.lst ([.int (cnt : Nat), .int (cnt : Nat)] ++ [.int (cnt : Nat)])) = H29 at s29 e29
      refine ⟨_, rfl, by show 1 ≤ sizeLine; decide, fun l1 nl1 => ?_⟩
      have s30 : Same H29 (upd H29 l1 (.lst [.int (cnt : Nat)])) := same_new nl1
      have e30 : upd H29 l1 (.lst [.int (cnt : Nat)]) l1 = some (.lst [.int (cnt : Nat)]) := upd_same
      generalize upd H29 l1 (.lst [.int (cnt : Nat)]) = H30 at s30 e30
      refine ⟨l1, 3, _, rfl, rfl, e30, by decide, by decide, by show 3 ≤ sizeLine; decide, fun l3 nl3 => ?_⟩
      have s31 : Same H30 (upd H30 l3 (.lst (List.replicate (3 : Int).toNat [V.int (cnt : Nat)]).flatten)) := same_new nl3
      have e31 : upd H30 l3 (.lst (List.replicate (3 : Int).toNat [V.int (cnt : Nat)]).flatten) l3 = some (.lst [.int (cnt : Nat), .int (cnt : Nat), .int (cnt : Nat)]) := upd_same
      have eqc : PyData.eqv (.list [.int (cnt : Nat), .int (cnt : Nat), .int (cnt : Nat)]) (.list [.int (cnt : Nat), .int (cnt : Nat), .int (cnt : Nat)]) = true := PySem.SeqAt.eqv_refl _ rfl
      refine ⟨.list [.int (cnt : Nat), .int (cnt : Nat), .int (cnt : Nat)], .list [.int (cnt : Nat), .int (cnt : Nat), .int (cnt : Nat)], .lst (SqL.of ((s30.trans s31) _ _ e29)) (.cons (.int _) (.cons (.int _) (.cons (.int _) .nil))), .lst (SqL.of e31) (.cons (.int _) (.cons (.int _) (.cons (.int _) .nil))), rfl, rfl, false, congrArg V.bl (by rw [eqc]; rfl), iteF ?_⟩
      have s2531 := ((s2528.trans s29).trans s30).trans s31
      have ez31 := s2531 _ _ ez25
      have sh31 : ShapeAt C _ mn ks := ShapeAt.up s2531 sh25
      have hp31 := hp25.up s2531
      have sx031 : SameX p H _ := sx025.trans (SameX.of s2531)
      generalize upd H30 l3 (.lst (List.replicate (3 : Int).toNat [V.int (cnt : Nat)]).flatten) = H31 at ez31 sh31 hp31 sx031
      clear s2531 eqc e31 s31 e30 s30 e29 s29 s2528 e28 s28 s27 ez26 s26 shq hKq knq klq ec lkc ctc hmc sx025 hp25 sh25 ez25
      -- the last
      have hkp : 0 < ks.length := List.length_pos_iff.mpr kne
      by_cases hpos : 0 < cnt
      · refine ⟨_, rfl, _, _, rfl, rfl, true, congrArg V.bl (decide_eq_true (by show ((cnt : Nat) : Int) > 0; omega)), iteT ?_⟩
        have hdb := count_double w1 h1 kne (by rw [hcnt]; exact hpos)
        refine ⟨_, rfl, _, rfl, pz, _, 0, _, rfl, rfl, SqT.of ez31, atI_nat (j := 0) rfl, _, _, rfl, rfl, mulL (by decide) (by decide), _, rfl, pz, _, 1, _, rfl, rfl, SqT.of ez31, atI_nat (j := 1) rfl, mn, ks, 2 * W, Hh, by rw [Int.natCast_mul]; rfl, sh31, kne, kle, by omega, h1, by rw [Nat.mul_assoc]; omega, fun H32 s32 => ?_⟩
        refine ⟨rfl, false, congrArg V.bl (decide_eq_false fun z => by injection z with z; omega), iteF ?_⟩
        have ez32 := s32 _ _ ez31
        have sh32 : ShapeAt C H32 mn ks := ShapeAt.up s32 sh31
        have hp32 := hp31.up s32
        have sx032 : SameX p H H32 := sx031.trans (SameX.of s32)
        obtain ⟨dxd, fsd, td, ed, ld, lkd, ctd, hmd⟩ := id sh32
        refine ⟨_, rfl, pz, _, 0, _, rfl, rfl, SqT.of ez32, atI_nat (j := 0) rfl, _, rfl, pz, _, 1, _, rfl, rfl, SqT.of ez32, atI_nat (j := 1) rfl, _, _, rfl, rfl, mulL (by omega) (by omega), .inl ⟨_, rfl, _, rfl, mn, dxd, fsd, rfl, ed, mn, ks, rfl, sh32, _, rfl, by omega, by omega, _, _, rfl, rfl, by show (0 : Int) < (ks.length : Nat); omega, ?_⟩⟩
        have hmod : ((W : Int) * (Hh : Int)) % ((ks.length : Nat) : Int) = ((W * Hh % ks.length : Nat) : Int) := by rw [Int.natCast_emod, Int.natCast_mul]
        by_cases hd : W * Hh % ks.length = 0
        · refine ⟨rfl, false, congrArg V.bl ?_, iteF (iteF ⟨_, _, _, _, _, _, _, rfl, sx032, hp32⟩)⟩
          show (!decide (V.int (((W : Int) * (Hh : Int)) % ((ks.length : Nat) : Int)) = V.int 0)) = false
          rw [hmod, hd]
          exact congrArg Bool.not (decide_eq_true rfl)
        · refine ⟨rfl, true, congrArg V.bl ?_, iteT ?_⟩
          · show (!decide (V.int (((W : Int) * (Hh : Int)) % ((ks.length : Nat) : Int)) = V.int 0)) = true
            rw [hmod, decide_eq_false fun z => by injection z with z; omega]
            rfl
          · have hc0 : cnt = 0 := hcnt.symm.trans (count_none hd)
            refine ⟨_, rfl, rfl, false, congrArg V.bl ?_, iteF ⟨_, _, _, _, _, _, _, rfl, sx032, hp32⟩⟩
            rw [hc0]
            exact congrArg Bool.not (decide_eq_true rfl)
      · refine ⟨_, rfl, _, _, rfl, rfl, false, congrArg V.bl (decide_eq_false (by show ¬ ((cnt : Nat) : Int) > 0; omega)), iteF (iteF ?_)⟩
        obtain ⟨dxd, fsd, td, ed, ld, lkd, ctd, hmd⟩ := id sh31
        refine ⟨_, rfl, pz, _, 0, _, rfl, rfl, SqT.of ez31, atI_nat (j := 0) rfl, _, rfl, pz, _, 1, _, rfl, rfl, SqT.of ez31, atI_nat (j := 1) rfl, _, _, rfl, rfl, mulL (by omega) (by omega), .inl ⟨_, rfl, _, rfl, mn, dxd, fsd, rfl, ed, mn, ks, rfl, sh31, _, rfl, by omega, by omega, _, _, rfl, rfl, by show (0 : Int) < (ks.length : Nat); omega, ?_⟩⟩
        have hmod : ((W : Int) * (Hh : Int)) % ((ks.length : Nat) : Int) = ((W * Hh % ks.length : Nat) : Int) := by rw [Int.natCast_emod, Int.natCast_mul]
        by_cases hd : W * Hh % ks.length = 0
        · refine ⟨rfl, false, congrArg V.bl ?_, iteF (iteF ⟨_, _, _, _, _, _, _, rfl, sx031, hp31⟩)⟩
          show (!decide (V.int (((W : Int) * (Hh : Int)) % ((ks.length : Nat) : Int)) = V.int 0)) = false
          rw [hmod, hd]
          exact congrArg Bool.not (decide_eq_true rfl)
        · refine ⟨rfl, true, congrArg V.bl ?_, iteT ?_⟩
          · show (!decide (V.int (((W : Int) * (Hh : Int)) % ((ks.length : Nat) : Int)) = V.int 0)) = true
            rw [hmod, decide_eq_false fun z => by injection z with z; omega]
            rfl
          · have hc0 : cnt = 0 := hcnt.symm.trans (count_none hd)
            refine ⟨_, rfl, rfl, false, congrArg V.bl ?_, iteF ⟨_, _, _, _, _, _, _, rfl, sx031, hp31⟩⟩
            rw [hc0]
            exact congrArg Bool.not (decide_eq_true rfl)
    · rintro σ H1 ⟨y1, y2, y3, y4, y5, y6, y7, rfl, sx, _⟩
      exact q H1 sx
end
end Sf

/-! law. -/
namespace Sf
open PySem PySem.Spec PyProof.Rows L2
section
variable {P : Program} {w : World} {K : PySem.W.Frag} {mg : Str → Option Value} {base : Heap} {C : Addr}
theorem sc_law : FnScope ["_law_script", "_law_turn"] ["_law_script"] (defScope (top 55)) := ⟨rfl, rfl, rfl, by decide +kernel, rfl, by decide +kernel, by decide +kernel⟩
def sp_law (K : PySem.W.Frag) : Sp := fun vs H Q _ => ∃ (a : Addr) (ns : List Int), vs = [.ref a] ∧ SqL K H a (ns.map V.int) ∧ (∀ n ∈ ns, Builtin.Int.intBits n ≤ 1048576) ∧ ∀ H', Q (.bl true) H'
theorem fn_law (B : Bi mg) (C1 : Cal P w K mg base 1 "_law_origin" ["_law_script", "_law_turn"] (sp_origin K)) (C2 : Cal P w K mg base 42 "_law_right" ["_law_pool"] sp_right) {f : Addr} {fd : FuncData} (F : Fun K "law" "law" (top 55) f fd) : FnOk P w K mg base CX0 43 f fd ["_law_script"] (sp_law K) := by
  refine F.ok sc_law (fun vs H Q E h => ?_) (fun cdv A outer s H vs Q E hr h => ?_)
  · obtain ⟨a, ns, rfl, _⟩ := h
    rfl
  · obtain ⟨a, ns, rfl, hs, hb, q⟩ := h
    refine ⟨_, pss_one (ps_ret (pe_callB (cr_all rfl) (by rfl) B.all bt_all (pa_cons (pe_lc (own := [("_law_turn", 1)]) (g := gName 1) (tt := tYes) (by rfl) sc_law.nd (pi_range1 (by rfl) B.range (pa_cons (pe_callB (call_max2 rfl) (by rfl) B.max bt_max (pa_cons pe_int (pa_cons (pe_callB (call_min2 rfl) (by rfl) B.min bt_min (pa_cons (pe_callB call_len_seq (by rfl) B.len bt_len (pa_cons (pv 0) pa_nil)) (pa_cons pe_int pa_nil))) pa_nil))) pa_nil)) (blkOk_by (own := [("_law_turn", 1)]) (N := ["_law_script", "_law_turn"]) (sc := defScope (top 55)) (by decide +kernel))
        (fun _ _ _ _ _ => pg_name (i := 1) sc_law.nd rfl (.inl rfl)) (fun _ _ _ _ _ => pts_nil) (fun _ _ _ _ _ => pe_callC C2 hr (by rfl) (pa_cons (pe_callC (C1.mono (by decide)) hr (by rfl) (pa_cons (pv 0) (pa_cons (pv 1) pa_nil))) pa_nil))) pa_nil))), ?_⟩
    refine ⟨_, rfl, a, _, rfl, .inl hs, _, _, rfl, _, _, rfl, _, rfl, ?_⟩
    generalize hj : (if (if (4 : Int) < ((ns.map V.int).length : Nat) then (4 : Int) else ((ns.map V.int).length : Nat)) > 2 then (if (4 : Int) < ((ns.map V.int).length : Nat) then (4 : Int) else ((ns.map V.int).length : Nat)) else 2) = j
    have hj4 : j ≤ 4 ∧ 0 ≤ j := by
      rw [← hj]
      constructor <;> (repeat' split) <;> omega
    refine ⟨by omega, by omega, fun D1 nD => ?_⟩
    refine lc_range (lo := 0) (n := j.toNat) (fun i H' => Same H H' ∧ H' D1 = some (.lst ((List.replicate i true).map V.bl))) ⟨same_new nD, upd_same⟩ ?_ ?_
    · rintro i H1 hi ⟨sm, eD⟩
      have hi4 : i < j.toNat := hi
      refine ⟨rfl, _, rfl, _, rfl, a, ns, i, by rw [Int.zero_add]; rfl, SqL.same sm hs, hb, by omega, fun p H2 s2 np hp => ?_⟩
      refine ⟨p, rfl, hp, fun H3 sx => ?_⟩
      have s3 : Same H1 H3 := SameX.own s2 np sx
      have eD3 := s3 _ _ eD
      have h6 : (100 : Nat) ≤ sizeLine := by decide
      refine ⟨_, eD3, by rw [List.length_map, List.length_replicate]; omega, same_own (sm.trans s3) nD, ?_⟩
      rw [upd_same, List.replicate_succ', List.map_append]
      rfl
    · rintro H1 ⟨sm, eD⟩
      refine ⟨D1, List.replicate j.toNat true, rfl, SqL.of eD, ?_⟩
      have : (List.replicate j.toNat true).all id = true := List.all_eq_true.mpr fun x hx => (List.mem_replicate.mp hx).2
      rw [this]
      exact q H1
end
end Sf

/-! What the top has written. -/
namespace Sf
open PySem PySem.Spec PyProof.Rows L2
abbrev sCells : Stmt := inClass (top 28) 3
theorem sc_cells : FnScope ["self"] ["self"] (defScope sCells) := ⟨rfl, rfl, rfl, by decide +kernel, rfl, by decide +kernel, by decide +kernel⟩
theorem kit_self {K : PySem.W.Frag} {C : Addr} : PySem.W.kitOne K (.ref C) (.ref C) = some true := by
  unfold PySem.W.kitOne
  have h : (Value.ref C == Value.ref C) = true := by simp
  rw [if_pos h]
theorem sqt_kept {K : PySem.W.Frag} {H : Hp} {a : Addr} {od : Option Addr} {its : Array Value} {n : Nat} {sl : Array (Option Value)} {xs : List V} (l : K.lookup a = some ⟨.type "tuple", od, .seq its n, sl⟩) (hz : its.size ≤ sizeLine) (h : Vals xs its.toList) : SqT K H a xs := .inr ⟨_, its, n, l, rfl, rfl, hz, h⟩
theorem all_mk {l : PySem.W.OpenLaw} {w : World} {K : PySem.W.Frag} {h : Heap} {mg : Str → Option Value} {fa C f11 f12 f13 f14 f20 f21 f23 f24 f25 f26 f29 f30 f32 f33 f34 f35 f36 f37 f38 f39 f40 f41 f42 f44 f45 f46 f47 f48 f49 f50 f51 f52 f53 f54 f55 f100 f101 f108 f109 f110 f113 pp f103 sd q0 q1 q2 q3 : Addr} (X : K.In h) (G : h.Ns mainGlobals mg) (hfa : mg "law" = some (.ref fa))
    {od11 an11 : Option Addr} {sl11 : Array (Option Value)} {oc11 kV11 dc11 pm11 cd11 ct11 : Value}
    {od12 an12 : Option Addr} {sl12 : Array (Option Value)} {oc12 kV12 dc12 pm12 cd12 ct12 : Value}
    {od13 an13 : Option Addr} {sl13 : Array (Option Value)} {oc13 kV13 dc13 pm13 cd13 ct13 : Value}
    {od14 an14 : Option Addr} {sl14 : Array (Option Value)} {oc14 kV14 dc14 pm14 cd14 ct14 : Value}
    {od20 an20 : Option Addr} {sl20 : Array (Option Value)} {oc20 kV20 dc20 pm20 cd20 ct20 : Value}
    {od21 an21 : Option Addr} {sl21 : Array (Option Value)} {oc21 kV21 dc21 pm21 cd21 ct21 : Value}
    {od23 an23 : Option Addr} {sl23 : Array (Option Value)} {oc23 kV23 dc23 pm23 cd23 ct23 : Value}
    {od24 an24 : Option Addr} {sl24 : Array (Option Value)} {oc24 kV24 dc24 pm24 cd24 ct24 : Value}
    {od25 an25 : Option Addr} {sl25 : Array (Option Value)} {oc25 kV25 dc25 pm25 cd25 ct25 : Value}
    {od26 an26 : Option Addr} {sl26 : Array (Option Value)} {oc26 kV26 dc26 pm26 cd26 ct26 : Value}
    {od29 an29 : Option Addr} {sl29 : Array (Option Value)} {oc29 kV29 dc29 pm29 cd29 ct29 : Value}
    {od30 an30 : Option Addr} {sl30 : Array (Option Value)} {oc30 kV30 dc30 pm30 cd30 ct30 : Value}
    {od32 an32 : Option Addr} {sl32 : Array (Option Value)} {oc32 kV32 dc32 pm32 cd32 ct32 : Value}
    {od33 an33 : Option Addr} {sl33 : Array (Option Value)} {oc33 kV33 dc33 pm33 cd33 ct33 : Value}
    {od34 an34 : Option Addr} {sl34 : Array (Option Value)} {oc34 kV34 dc34 pm34 cd34 ct34 : Value}
    {od35 an35 : Option Addr} {sl35 : Array (Option Value)} {oc35 kV35 dc35 pm35 cd35 ct35 : Value}
    {od36 an36 : Option Addr} {sl36 : Array (Option Value)} {oc36 kV36 dc36 pm36 cd36 ct36 : Value}
    {od37 an37 : Option Addr} {sl37 : Array (Option Value)} {oc37 kV37 dc37 pm37 cd37 ct37 : Value}
    {od38 an38 : Option Addr} {sl38 : Array (Option Value)} {oc38 kV38 dc38 pm38 cd38 ct38 : Value}
    {od39 an39 : Option Addr} {sl39 : Array (Option Value)} {oc39 kV39 dc39 pm39 cd39 ct39 : Value}
    {od40 an40 : Option Addr} {sl40 : Array (Option Value)} {oc40 kV40 dc40 pm40 cd40 ct40 : Value}
    {od41 an41 : Option Addr} {sl41 : Array (Option Value)} {oc41 kV41 dc41 pm41 cd41 ct41 : Value}
    {od42 an42 : Option Addr} {sl42 : Array (Option Value)} {oc42 kV42 dc42 pm42 cd42 ct42 : Value}
    {od44 an44 : Option Addr} {sl44 : Array (Option Value)} {oc44 kV44 dc44 pm44 cd44 ct44 : Value}
    {od45 an45 : Option Addr} {sl45 : Array (Option Value)} {oc45 kV45 dc45 pm45 cd45 ct45 : Value}
    {od46 an46 : Option Addr} {sl46 : Array (Option Value)} {oc46 kV46 dc46 pm46 cd46 ct46 : Value}
    {od47 an47 : Option Addr} {sl47 : Array (Option Value)} {oc47 kV47 dc47 pm47 cd47 ct47 : Value}
    {od48 an48 : Option Addr} {sl48 : Array (Option Value)} {oc48 kV48 dc48 pm48 cd48 ct48 : Value}
    {od49 an49 : Option Addr} {sl49 : Array (Option Value)} {oc49 kV49 dc49 pm49 cd49 ct49 : Value}
    {od50 an50 : Option Addr} {sl50 : Array (Option Value)} {oc50 kV50 dc50 pm50 cd50 ct50 : Value}
    {od51 an51 : Option Addr} {sl51 : Array (Option Value)} {oc51 kV51 dc51 pm51 cd51 ct51 : Value}
    {od52 an52 : Option Addr} {sl52 : Array (Option Value)} {oc52 kV52 dc52 pm52 cd52 ct52 : Value}
    {od53 an53 : Option Addr} {sl53 : Array (Option Value)} {oc53 kV53 dc53 pm53 cd53 ct53 : Value}
    {od54 an54 : Option Addr} {sl54 : Array (Option Value)} {oc54 kV54 dc54 pm54 cd54 ct54 : Value}
    {od55 an55 : Option Addr} {sl55 : Array (Option Value)} {oc55 kV55 dc55 pm55 cd55 ct55 : Value}
    {od100 an100 : Option Addr} {sl100 : Array (Option Value)} {oc100 kV100 dc100 pm100 cd100 ct100 : Value}
    {od101 an101 : Option Addr} {sl101 : Array (Option Value)} {oc101 kV101 dc101 pm101 cd101 ct101 : Value}
    {od108 an108 : Option Addr} {sl108 : Array (Option Value)} {oc108 kV108 dc108 pm108 cd108 ct108 : Value}
    {od109 an109 : Option Addr} {sl109 : Array (Option Value)} {oc109 kV109 dc109 pm109 cd109 ct109 : Value}
    {od110 an110 : Option Addr} {sl110 : Array (Option Value)} {oc110 kV110 dc110 pm110 cd110 ct110 : Value}
    {od113 an113 : Option Addr} {sl113 : Array (Option Value)} {oc113 kV113 dc113 pm113 cd113 ct113 : Value}
    {prest : List Value}
    {od103 an103 : Option Addr} {sl103 : Array (Option Value)} {oc103 kV103 dc103 pm103 cd103 ct103 : Value}
    {tm1 tm2 tm3 : Tok}
    {sod : Option Addr} {ssl : Array (Option Value)} {sn : Nat}
    {qod0 : Option Addr} {qsl0 : Array (Option Value)} {qn0 : Nat} {qx0 qy0 : Int} {qt0 qu0 : Tok}
    {qod1 : Option Addr} {qsl1 : Array (Option Value)} {qn1 : Nat} {qx1 qy1 : Int} {qt1 qu1 : Tok}
    {qod2 : Option Addr} {qsl2 : Array (Option Value)} {qn2 : Nat} {qx2 qy2 : Int} {qt2 qu2 : Tok}
    {qod3 : Option Addr} {qsl3 : Array (Option Value)} {qn3 : Nat} {qx3 qy3 : Int} {qt3 qu3 : Tok}
    (aC : PySem.W.nsIn K mainGlobals "Shape" = some (some (.ref C)))
    (a11 : PySem.W.nsIn K mainGlobals "is_integer" = some (some (.ref f11)))
    (l11 : K.lookup f11 = some ⟨oc11, od11, .func (PySem.W.fnOf "is_integer" "is_integer" (defArgs (top 11)) (defBody (top 11)) (defScope (top 11)) .none kV11 dc11 pm11 an11 cd11 ct11), sl11⟩)
    (c11 : PySem.W.codeIn K cd11 "is_integer" = true)
    (k11 : PySem.W.keepIn K (.ref f11) = true)
    (a12 : PySem.W.nsIn K mainGlobals "is_between" = some (some (.ref f12)))
    (l12 : K.lookup f12 = some ⟨oc12, od12, .func (PySem.W.fnOf "is_between" "is_between" (defArgs (top 12)) (defBody (top 12)) (defScope (top 12)) .none kV12 dc12 pm12 an12 cd12 ct12), sl12⟩)
    (c12 : PySem.W.codeIn K cd12 "is_between" = true)
    (k12 : PySem.W.keepIn K (.ref f12) = true)
    (a13 : PySem.W.nsIn K mainGlobals "is_pair" = some (some (.ref f13)))
    (l13 : K.lookup f13 = some ⟨oc13, od13, .func (PySem.W.fnOf "is_pair" "is_pair" (defArgs (top 13)) (defBody (top 13)) (defScope (top 13)) .none kV13 dc13 pm13 an13 cd13 ct13), sl13⟩)
    (c13 : PySem.W.codeIn K cd13 "is_pair" = true)
    (k13 : PySem.W.keepIn K (.ref f13) = true)
    (a14 : PySem.W.nsIn K mainGlobals "is_near" = some (some (.ref f14)))
    (l14 : K.lookup f14 = some ⟨oc14, od14, .func (PySem.W.fnOf "is_near" "is_near" (defArgs (top 14)) (defBody (top 14)) (defScope (top 14)) .none kV14 dc14 pm14 an14 cd14 ct14), sl14⟩)
    (c14 : PySem.W.codeIn K cd14 "is_near" = true)
    (k14 : PySem.W.keepIn K (.ref f14) = true)
    (a20 : PySem.W.nsIn K mainGlobals "wrong_until" = some (some (.ref f20)))
    (l20 : K.lookup f20 = some ⟨oc20, od20, .func (PySem.W.fnOf "wrong_until" "wrong_until" (defArgs (top 20)) (defBody (top 20)) (defScope (top 20)) .none kV20 dc20 pm20 an20 cd20 ct20), sl20⟩)
    (c20 : PySem.W.codeIn K cd20 "wrong_until" = true)
    (k20 : PySem.W.keepIn K (.ref f20) = true)
    (a21 : PySem.W.nsIn K mainGlobals "check_cells" = some (some (.ref f21)))
    (l21 : K.lookup f21 = some ⟨oc21, od21, .func (PySem.W.fnOf "check_cells" "check_cells" (defArgs (top 21)) (defBody (top 21)) (defScope (top 21)) .none kV21 dc21 pm21 an21 cd21 ct21), sl21⟩)
    (c21 : PySem.W.codeIn K cd21 "check_cells" = true)
    (k21 : PySem.W.keepIn K (.ref f21) = true)
    (a23 : PySem.W.nsIn K mainGlobals "brought" = some (some (.ref f23)))
    (l23 : K.lookup f23 = some ⟨oc23, od23, .func (PySem.W.fnOf "brought" "brought" (defArgs (top 23)) (defBody (top 23)) (defScope (top 23)) .none kV23 dc23 pm23 an23 cd23 ct23), sl23⟩)
    (c23 : PySem.W.codeIn K cd23 "brought" = true)
    (k23 : PySem.W.keepIn K (.ref f23) = true)
    (a24 : PySem.W.nsIn K mainGlobals "laid" = some (some (.ref f24)))
    (l24 : K.lookup f24 = some ⟨oc24, od24, .func (PySem.W.fnOf "laid" "laid" (defArgs (top 24)) (defBody (top 24)) (defScope (top 24)) .none kV24 dc24 pm24 an24 cd24 ct24), sl24⟩)
    (c24 : PySem.W.codeIn K cd24 "laid" = true)
    (k24 : PySem.W.keepIn K (.ref f24) = true)
    (a25 : PySem.W.nsIn K mainGlobals "is_one_piece" = some (some (.ref f25)))
    (l25 : K.lookup f25 = some ⟨oc25, od25, .func (PySem.W.fnOf "is_one_piece" "is_one_piece" (defArgs (top 25)) (defBody (top 25)) (defScope (top 25)) .none kV25 dc25 pm25 an25 cd25 ct25), sl25⟩)
    (c25 : PySem.W.codeIn K cd25 "is_one_piece" = true)
    (k25 : PySem.W.keepIn K (.ref f25) = true)
    (a26 : PySem.W.nsIn K mainGlobals "cells_around" = some (some (.ref f26)))
    (l26 : K.lookup f26 = some ⟨oc26, od26, .func (PySem.W.fnOf "cells_around" "cells_around" (defArgs (top 26)) (defBody (top 26)) (defScope (top 26)) .none kV26 dc26 pm26 an26 cd26 ct26), sl26⟩)
    (c26 : PySem.W.codeIn K cd26 "cells_around" = true)
    (k26 : PySem.W.keepIn K (.ref f26) = true)
    (a29 : PySem.W.nsIn K mainGlobals "shape_of_cells" = some (some (.ref f29)))
    (l29 : K.lookup f29 = some ⟨oc29, od29, .func (PySem.W.fnOf "shape_of_cells" "shape_of_cells" (defArgs (top 29)) (defBody (top 29)) (defScope (top 29)) .none kV29 dc29 pm29 an29 cd29 ct29), sl29⟩)
    (c29 : PySem.W.codeIn K cd29 "shape_of_cells" = true)
    (k29 : PySem.W.keepIn K (.ref f29) = true)
    (a30 : PySem.W.nsIn K mainGlobals "check_shape" = some (some (.ref f30)))
    (l30 : K.lookup f30 = some ⟨oc30, od30, .func (PySem.W.fnOf "check_shape" "check_shape" (defArgs (top 30)) (defBody (top 30)) (defScope (top 30)) .none kV30 dc30 pm30 an30 cd30 ct30), sl30⟩)
    (c30 : PySem.W.codeIn K cd30 "check_shape" = true)
    (k30 : PySem.W.keepIn K (.ref f30) = true)
    (a32 : PySem.W.nsIn K mainGlobals "check_sizes" = some (some (.ref f32)))
    (l32 : K.lookup f32 = some ⟨oc32, od32, .func (PySem.W.fnOf "check_sizes" "check_sizes" (defArgs (top 32)) (defBody (top 32)) (defScope (top 32)) .none kV32 dc32 pm32 an32 cd32 ct32), sl32⟩)
    (c32 : PySem.W.codeIn K cd32 "check_sizes" = true)
    (k32 : PySem.W.keepIn K (.ref f32) = true)
    (a33 : PySem.W.nsIn K mainGlobals "all_blocks" = some (some (.ref f33)))
    (l33 : K.lookup f33 = some ⟨oc33, od33, .func (PySem.W.fnOf "all_blocks" "all_blocks" (defArgs (top 33)) (defBody (top 33)) (defScope (top 33)) .none kV33 dc33 pm33 an33 cd33 ct33), sl33⟩)
    (c33 : PySem.W.codeIn K cd33 "all_blocks" = true)
    (k33 : PySem.W.keepIn K (.ref f33) = true)
    (a34 : PySem.W.nsIn K mainGlobals "moves_for" = some (some (.ref f34)))
    (l34 : K.lookup f34 = some ⟨oc34, od34, .func (PySem.W.fnOf "moves_for" "moves_for" (defArgs (top 34)) (defBody (top 34)) (defScope (top 34)) .none kV34 dc34 pm34 an34 cd34 ct34), sl34⟩)
    (c34 : PySem.W.codeIn K cd34 "moves_for" = true)
    (k34 : PySem.W.keepIn K (.ref f34) = true)
    (a35 : PySem.W.nsIn K mainGlobals "without" = some (some (.ref f35)))
    (l35 : K.lookup f35 = some ⟨oc35, od35, .func (PySem.W.fnOf "without" "without" (defArgs (top 35)) (defBody (top 35)) (defScope (top 35)) .none kV35 dc35 pm35 an35 cd35 ct35), sl35⟩)
    (c35 : PySem.W.codeIn K cd35 "without" = true)
    (k35 : PySem.W.keepIn K (.ref f35) = true)
    (a36 : PySem.W.nsIn K mainGlobals "all_fillings" = some (some (.ref f36)))
    (l36 : K.lookup f36 = some ⟨oc36, od36, .func (PySem.W.fnOf "all_fillings" "all_fillings" (defArgs (top 36)) (defBody (top 36)) (defScope (top 36)) .none kV36 dc36 pm36 an36 cd36 ct36), sl36⟩)
    (c36 : PySem.W.codeIn K cd36 "all_fillings" = true)
    (k36 : PySem.W.keepIn K (.ref f36) = true)
    (a37 : PySem.W.nsIn K mainGlobals "number_of" = some (some (.ref f37)))
    (l37 : K.lookup f37 = some ⟨oc37, od37, .func (PySem.W.fnOf "number_of" "number_of" (defArgs (top 37)) (defBody (top 37)) (defScope (top 37)) .none kV37 dc37 pm37 an37 cd37 ct37), sl37⟩)
    (c37 : PySem.W.codeIn K cd37 "number_of" = true)
    (k37 : PySem.W.keepIn K (.ref f37) = true)
    (a38 : PySem.W.nsIn K mainGlobals "all_places" = some (some (.ref f38)))
    (l38 : K.lookup f38 = some ⟨oc38, od38, .func (PySem.W.fnOf "all_places" "all_places" (defArgs (top 38)) (defBody (top 38)) (defScope (top 38)) .none kV38 dc38 pm38 an38 cd38 ct38), sl38⟩)
    (c38 : PySem.W.codeIn K cd38 "all_places" = true)
    (k38 : PySem.W.keepIn K (.ref f38) = true)
    (a39 : PySem.W.nsIn K mainGlobals "fillings_of" = some (some (.ref f39)))
    (l39 : K.lookup f39 = some ⟨oc39, od39, .func (PySem.W.fnOf "fillings_of" "fillings_of" (defArgs (top 39)) (defBody (top 39)) (defScope (top 39)) .none kV39 dc39 pm39 an39 cd39 ct39), sl39⟩)
    (c39 : PySem.W.codeIn K cd39 "fillings_of" = true)
    (k39 : PySem.W.keepIn K (.ref f39) = true)
    (a40 : PySem.W.nsIn K mainGlobals "fillings" = some (some (.ref f40)))
    (l40 : K.lookup f40 = some ⟨oc40, od40, .func (PySem.W.fnOf "fillings" "fillings" (defArgs (top 40)) (defBody (top 40)) (defScope (top 40)) .none kV40 dc40 pm40 an40 cd40 ct40), sl40⟩)
    (c40 : PySem.W.codeIn K cd40 "fillings" = true)
    (k40 : PySem.W.keepIn K (.ref f40) = true)
    (a41 : PySem.W.nsIn K mainGlobals "many_fillings" = some (some (.ref f41)))
    (l41 : K.lookup f41 = some ⟨oc41, od41, .func (PySem.W.fnOf "many_fillings" "many_fillings" (defArgs (top 41)) (defBody (top 41)) (defScope (top 41)) .none kV41 dc41 pm41 an41 cd41 ct41), sl41⟩)
    (c41 : PySem.W.codeIn K cd41 "many_fillings" = true)
    (k41 : PySem.W.keepIn K (.ref f41) = true)
    (a42 : PySem.W.nsIn K mainGlobals "count_fillings" = some (some (.ref f42)))
    (l42 : K.lookup f42 = some ⟨oc42, od42, .func (PySem.W.fnOf "count_fillings" "count_fillings" (defArgs (top 42)) (defBody (top 42)) (defScope (top 42)) .none kV42 dc42 pm42 an42 cd42 ct42), sl42⟩)
    (c42 : PySem.W.codeIn K cd42 "count_fillings" = true)
    (k42 : PySem.W.keepIn K (.ref f42) = true)
    (a44 : PySem.W.nsIn K mainGlobals "_law_origin" = some (some (.ref f44)))
    (l44 : K.lookup f44 = some ⟨oc44, od44, .func (PySem.W.fnOf "_law_origin" "_law_origin" (defArgs (top 44)) (defBody (top 44)) (defScope (top 44)) .none kV44 dc44 pm44 an44 cd44 ct44), sl44⟩)
    (c44 : PySem.W.codeIn K cd44 "_law_origin" = true)
    (k44 : PySem.W.keepIn K (.ref f44) = true)
    (a45 : PySem.W.nsIn K mainGlobals "_law_sip" = some (some (.ref f45)))
    (l45 : K.lookup f45 = some ⟨oc45, od45, .func (PySem.W.fnOf "_law_sip" "_law_sip" (defArgs (top 45)) (defBody (top 45)) (defScope (top 45)) .none kV45 dc45 pm45 an45 cd45 ct45), sl45⟩)
    (c45 : PySem.W.codeIn K cd45 "_law_sip" = true)
    (k45 : PySem.W.keepIn K (.ref f45) = true)
    (a46 : PySem.W.nsIn K mainGlobals "_law_some_one" = some (some (.ref f46)))
    (l46 : K.lookup f46 = some ⟨oc46, od46, .func (PySem.W.fnOf "_law_some_one" "_law_some_one" (defArgs (top 46)) (defBody (top 46)) (defScope (top 46)) .none kV46 dc46 pm46 an46 cd46 ct46), sl46⟩)
    (c46 : PySem.W.codeIn K cd46 "_law_some_one" = true)
    (k46 : PySem.W.keepIn K (.ref f46) = true)
    (a47 : PySem.W.nsIn K mainGlobals "_law_beside" = some (some (.ref f47)))
    (l47 : K.lookup f47 = some ⟨oc47, od47, .func (PySem.W.fnOf "_law_beside" "_law_beside" (defArgs (top 47)) (defBody (top 47)) (defScope (top 47)) .none kV47 dc47 pm47 an47 cd47 ct47), sl47⟩)
    (c47 : PySem.W.codeIn K cd47 "_law_beside" = true)
    (k47 : PySem.W.keepIn K (.ref f47) = true)
    (a48 : PySem.W.nsIn K mainGlobals "_law_remainder" = some (some (.ref f48)))
    (l48 : K.lookup f48 = some ⟨oc48, od48, .func (PySem.W.fnOf "_law_remainder" "_law_remainder" (defArgs (top 48)) (defBody (top 48)) (defScope (top 48)) .none kV48 dc48 pm48 an48 cd48 ct48), sl48⟩)
    (c48 : PySem.W.codeIn K cd48 "_law_remainder" = true)
    (k48 : PySem.W.keepIn K (.ref f48) = true)
    (a49 : PySem.W.nsIn K mainGlobals "_law_grid" = some (some (.ref f49)))
    (l49 : K.lookup f49 = some ⟨oc49, od49, .func (PySem.W.fnOf "_law_grid" "_law_grid" (defArgs (top 49)) (defBody (top 49)) (defScope (top 49)) .none kV49 dc49 pm49 an49 cd49 ct49), sl49⟩)
    (c49 : PySem.W.codeIn K cd49 "_law_grid" = true)
    (k49 : PySem.W.keepIn K (.ref f49) = true)
    (a50 : PySem.W.nsIn K mainGlobals "_law_fit" = some (some (.ref f50)))
    (l50 : K.lookup f50 = some ⟨oc50, od50, .func (PySem.W.fnOf "_law_fit" "_law_fit" (defArgs (top 50)) (defBody (top 50)) (defScope (top 50)) .none kV50 dc50 pm50 an50 cd50 ct50), sl50⟩)
    (c50 : PySem.W.codeIn K cd50 "_law_fit" = true)
    (k50 : PySem.W.keepIn K (.ref f50) = true)
    (a51 : PySem.W.nsIn K mainGlobals "_law_grown" = some (some (.ref f51)))
    (l51 : K.lookup f51 = some ⟨oc51, od51, .func (PySem.W.fnOf "_law_grown" "_law_grown" (defArgs (top 51)) (defBody (top 51)) (defScope (top 51)) .none kV51 dc51 pm51 an51 cd51 ct51), sl51⟩)
    (c51 : PySem.W.codeIn K cd51 "_law_grown" = true)
    (k51 : PySem.W.keepIn K (.ref f51) = true)
    (a52 : PySem.W.nsIn K mainGlobals "_law_small_tiles" = some (some (.ref f52)))
    (l52 : K.lookup f52 = some ⟨oc52, od52, .func (PySem.W.fnOf "_law_small_tiles" "_law_small_tiles" (defArgs (top 52)) (defBody (top 52)) (defScope (top 52)) .none kV52 dc52 pm52 an52 cd52 ct52), sl52⟩)
    (c52 : PySem.W.codeIn K cd52 "_law_small_tiles" = true)
    (k52 : PySem.W.keepIn K (.ref f52) = true)
    (a53 : PySem.W.nsIn K mainGlobals "_law_moved" = some (some (.ref f53)))
    (l53 : K.lookup f53 = some ⟨oc53, od53, .func (PySem.W.fnOf "_law_moved" "_law_moved" (defArgs (top 53)) (defBody (top 53)) (defScope (top 53)) .none kV53 dc53 pm53 an53 cd53 ct53), sl53⟩)
    (c53 : PySem.W.codeIn K cd53 "_law_moved" = true)
    (k53 : PySem.W.keepIn K (.ref f53) = true)
    (a54 : PySem.W.nsIn K mainGlobals "_law_right" = some (some (.ref f54)))
    (l54 : K.lookup f54 = some ⟨oc54, od54, .func (PySem.W.fnOf "_law_right" "_law_right" (defArgs (top 54)) (defBody (top 54)) (defScope (top 54)) .none kV54 dc54 pm54 an54 cd54 ct54), sl54⟩)
    (c54 : PySem.W.codeIn K cd54 "_law_right" = true)
    (k54 : PySem.W.keepIn K (.ref f54) = true)
    (a55 : PySem.W.nsIn K mainGlobals "law" = some (some (.ref f55)))
    (l55 : K.lookup f55 = some ⟨oc55, od55, .func (PySem.W.fnOf "law" "law" (defArgs (top 55)) (defBody (top 55)) (defScope (top 55)) .none kV55 dc55 pm55 an55 cd55 ct55), sl55⟩)
    (c55 : PySem.W.codeIn K cd55 "law" = true)
    (k55 : PySem.W.keepIn K (.ref f55) = true)
    (a100 : PySem.W.findIn K (.ref C) "__init__" = some (some (.ref f100)))
    (i100 : PySem.W.isFn K (.ref f100) = true)
    (l100 : K.lookup f100 = some ⟨oc100, od100, .func (PySem.W.fnOf "__init__" "Shape.__init__" (defArgs sInit) (defBody sInit) (defScope sInit) .none kV100 dc100 pm100 an100 cd100 ct100), sl100⟩)
    (c100 : PySem.W.codeIn K cd100 "Shape.__init__" = true)
    (k100 : PySem.W.keepIn K (.ref f100) = true)
    (a101 : PySem.W.findIn K (.ref C) "lay" = some (some (.ref f101)))
    (i101 : PySem.W.isFn K (.ref f101) = true)
    (l101 : K.lookup f101 = some ⟨oc101, od101, .func (PySem.W.fnOf "lay" "Shape.lay" (defArgs sLay) (defBody sLay) (defScope sLay) .none kV101 dc101 pm101 an101 cd101 ct101), sl101⟩)
    (c101 : PySem.W.codeIn K cd101 "Shape.lay" = true)
    (k101 : PySem.W.keepIn K (.ref f101) = true)
    (a108 : PySem.W.findIn K (.ref C) "turned" = some (some (.ref f108)))
    (i108 : PySem.W.isFn K (.ref f108) = true)
    (l108 : K.lookup f108 = some ⟨oc108, od108, .func (PySem.W.fnOf "turned" "Shape.turned" (defArgs sturned) (defBody sturned) (defScope sturned) .none kV108 dc108 pm108 an108 cd108 ct108), sl108⟩)
    (c108 : PySem.W.codeIn K cd108 "Shape.turned" = true)
    (k108 : PySem.W.keepIn K (.ref f108) = true)
    (a109 : PySem.W.findIn K (.ref C) "quarter" = some (some (.ref f109)))
    (i109 : PySem.W.isFn K (.ref f109) = true)
    (l109 : K.lookup f109 = some ⟨oc109, od109, .func (PySem.W.fnOf "quarter" "Shape.quarter" (defArgs squarter) (defBody squarter) (defScope squarter) .none kV109 dc109 pm109 an109 cd109 ct109), sl109⟩)
    (c109 : PySem.W.codeIn K cd109 "Shape.quarter" = true)
    (k109 : PySem.W.keepIn K (.ref f109) = true)
    (a110 : PySem.W.findIn K (.ref C) "flipped" = some (some (.ref f110)))
    (i110 : PySem.W.isFn K (.ref f110) = true)
    (l110 : K.lookup f110 = some ⟨oc110, od110, .func (PySem.W.fnOf "flipped" "Shape.flipped" (defArgs sflipped) (defBody sflipped) (defScope sflipped) .none kV110 dc110 pm110 an110 cd110 ct110), sl110⟩)
    (c110 : PySem.W.codeIn K cd110 "Shape.flipped" = true)
    (k110 : PySem.W.keepIn K (.ref f110) = true)
    (a113 : PySem.W.findIn K (.ref C) "__len__" = some (some (.ref f113)))
    (i113 : PySem.W.isFn K (.ref f113) = true)
    (l113 : K.lookup f113 = some ⟨oc113, od113, .func (PySem.W.fnOf "__len__" "Shape.__len__" (defArgs sLen) (defBody sLen) (defScope sLen) .none kV113 dc113 pm113 an113 cd113 ct113), sl113⟩)
    (c113 : PySem.W.codeIn K cd113 "Shape.__len__" = true)
    (k113 : PySem.W.keepIn K (.ref f113) = true)
    (pat : PySem.W.findIn K (.ref C) "cells" = some (some (.ref pp)))
    (pget : PySem.W.specialIn K (.ref pp) "__get__" = some (some (.builtin "property.__get__")))
    (ptak : PySem.W.takesIn K (.ref pp) = some true)
    (prec : PySem.W.recIn K pp "property" = some (.ref f103 :: prest))
    (l103 : K.lookup f103 = some ⟨oc103, od103, .func (PySem.W.fnOf "cells" "Shape.cells" (defArgs sCells) (defBody sCells) (defScope sCells) .none kV103 dc103 pm103 an103 cd103 ct103), sl103⟩)
    (c103 : PySem.W.codeIn K cd103 "Shape.cells" = true)
    (k103 : PySem.W.keepIn K (.ref f103) = true)
    (pg : PySem.W.plainGet K C Str.empty = true)
    (hd : PySem.W.hasDictIn K C = true)
    (po : PySem.W.plainOver K C = true)
    (sa : PySem.W.findIn K (.ref C) "__setattr__" = some (some (.builtin "object.__setattr__")))
    (mk : PySem.W.makesIn K C = true)
    (kc : PySem.W.keepIn K (.ref C) = true)
    (nK : PySem.W.findIn K (.ref C) "kept" = some none)
    (nS : PySem.W.findIn K (.ref C) "size" = some none)
    (nP : PySem.W.findIn K (.ref C) "in_piece" = some none)
    (nW : PySem.W.findIn K (.ref C) "in_whole" = some none)
    (ia : PySem.W.findIn K (.ref C) "__class__" = some (some (.builtin "object.__class__")))
    (ib : PySem.W.specialIn K (.builtin "object.__class__") "__get__" = some (some (.builtin "getset_descriptor.__get__")))
    (ic : PySem.W.takesIn K (.builtin "object.__class__") = some true)
    (id_ : PySem.W.mroIn K C (.type "object") = some true)
    (m1 : PySem.W.nsIn K mainGlobals "MOST_CELLS" = some (some (.int 24 tm1)))
    (m2 : PySem.W.nsIn K mainGlobals "MOST_PLACE" = some (some (.int 1000 tm2)))
    (m3 : PySem.W.nsIn K mainGlobals "MOST_ROLLED" = some (some (.int 36 tm3)))
    (sa0 : PySem.W.nsIn K mainGlobals "SIDES" = some (some (.ref sd)))
    (sl0 : K.lookup sd = some ⟨.type "tuple", sod, .seq #[.ref q0, .ref q1, .ref q2, .ref q3] sn, ssl⟩)
    (ql0 : K.lookup q0 = some ⟨.type "tuple", qod0, .seq #[.int qx0 qt0, .int qy0 qu0] qn0, qsl0⟩)
    (ql1 : K.lookup q1 = some ⟨.type "tuple", qod1, .seq #[.int qx1 qt1, .int qy1 qu1] qn1, qsl1⟩)
    (ql2 : K.lookup q2 = some ⟨.type "tuple", qod2, .seq #[.int qx2 qt2, .int qy2 qu2] qn2, qsl2⟩)
    (ql3 : K.lookup q3 = some ⟨.type "tuple", qod3, .seq #[.int qx3 qt3, .int qy3 qu3] qn3, qsl3⟩)
    (z_len : PySem.W.nsIn K mainGlobals "len" = some none)
    (z_isinstance : PySem.W.nsIn K mainGlobals "isinstance" = some none)
    (z_int : PySem.W.nsIn K mainGlobals "int" = some none)
    (z_bool : PySem.W.nsIn K mainGlobals "bool" = some none)
    (z_tuple : PySem.W.nsIn K mainGlobals "tuple" = some none)
    (z_list : PySem.W.nsIn K mainGlobals "list" = some none)
    (z_set : PySem.W.nsIn K mainGlobals "set" = some none)
    (z_all : PySem.W.nsIn K mainGlobals "all" = some none)
    (z_enumerate : PySem.W.nsIn K mainGlobals "enumerate" = some none)
    (z_min : PySem.W.nsIn K mainGlobals "min" = some none)
    (z_max : PySem.W.nsIn K mainGlobals "max" = some none)
    (z_sorted : PySem.W.nsIn K mainGlobals "sorted" = some none)
    (z_range : PySem.W.nsIn K mainGlobals "range" = some none)
    (z_sum : PySem.W.nsIn K mainGlobals "sum" = some none)
    (z_divmod : PySem.W.nsIn K mainGlobals "divmod" = some none)
    (z_abs : PySem.W.nsIn K mainGlobals "abs" = some none) :
    ∃ fd : FuncData, (∀ (s : Shared) (v : Value), BindsTo s fd ⟨[v], []⟩ [("_law_script", v)]) ∧ ∀ base : Heap, K.In base → base.Ns mainGlobals mg → FnOk l.prog w K mg base CX0 43 fa fd ["_law_script"] (sp_law K) := by
  have e := hfa.symm.trans (PySem.W.mg_of X G a55)
  cases e
  have B : Bi mg := ⟨PySem.W.mg_none_of X G z_len, PySem.W.mg_none_of X G z_isinstance, PySem.W.mg_none_of X G z_int, PySem.W.mg_none_of X G z_bool, PySem.W.mg_none_of X G z_tuple, PySem.W.mg_none_of X G z_list, PySem.W.mg_none_of X G z_set, PySem.W.mg_none_of X G z_all, PySem.W.mg_none_of X G z_enumerate, PySem.W.mg_none_of X G z_min, PySem.W.mg_none_of X G z_max, PySem.W.mg_none_of X G z_sorted, PySem.W.mg_none_of X G z_range, PySem.W.mg_none_of X G z_sum, PySem.W.mg_none_of X G z_divmod, PySem.W.mg_none_of X G z_abs⟩
  have N : Co mg := ⟨⟨_, PySem.W.mg_of X G m1⟩, ⟨_, PySem.W.mg_of X G m2⟩, ⟨_, PySem.W.mg_of X G m3⟩⟩
  have S : ShC K mg C := ⟨⟨pg, hd, po, sa⟩, nK, nS, nP, nW, PySem.W.mg_of X G aC⟩
  have SI : ShI K C := ⟨ia, ib, ic, id_, kit_self⟩
  have Sx : Sd K mg := by
    refine ⟨sd, [.ref q0, .ref q1, .ref q2, .ref q3], PySem.W.mg_of X G sa0, fun H => sqt_kept sl0 (by show 4 ≤ sizeLine; decide) (.cons rfl (.cons rfl (.cons rfl (.cons rfl .nil)))), fun v hv => ?_⟩
    rcases List.mem_cons.mp hv with rfl | hv
    · exact ⟨q0, (qx0, qy0), rfl, fun H => sqt_kept ql0 (by show 2 ≤ sizeLine; decide) (.cons ⟨_, rfl⟩ (.cons ⟨_, rfl⟩ .nil))⟩
    rcases List.mem_cons.mp hv with rfl | hv
    · exact ⟨q1, (qx1, qy1), rfl, fun H => sqt_kept ql1 (by show 2 ≤ sizeLine; decide) (.cons ⟨_, rfl⟩ (.cons ⟨_, rfl⟩ .nil))⟩
    rcases List.mem_cons.mp hv with rfl | hv
    · exact ⟨q2, (qx2, qy2), rfl, fun H => sqt_kept ql2 (by show 2 ≤ sizeLine; decide) (.cons ⟨_, rfl⟩ (.cons ⟨_, rfl⟩ .nil))⟩
    rcases List.mem_cons.mp hv with rfl | hv
    · exact ⟨q3, (qx3, qy3), rfl, fun H => sqt_kept ql3 (by show 2 ≤ sizeLine; decide) (.cons ⟨_, rfl⟩ (.cons ⟨_, rfl⟩ .nil))⟩
    exact absurd hv List.not_mem_nil
  have F11 := fun_mk (st := top 11) l11 c11 k11
  have D11 : Def K mg "is_integer" (top 11) ["value"] := ⟨_, _, F11, F11.binds (ps := ["value"]) (fun _ _ _ _ _ _ us hl => match us, hl with | [_], _ => rfl), PySem.W.mg_of X G a11⟩
  have F12 := fun_mk (st := top 12) l12 c12 k12
  have D12 : Def K mg "is_between" (top 12) ["value", "low", "high"] := ⟨_, _, F12, F12.binds (ps := ["value", "low", "high"]) (fun _ _ _ _ _ _ us hl => match us, hl with | [_, _, _], _ => rfl), PySem.W.mg_of X G a12⟩
  have F13 := fun_mk (st := top 13) l13 c13 k13
  have D13 : Def K mg "is_pair" (top 13) ["value"] := ⟨_, _, F13, F13.binds (ps := ["value"]) (fun _ _ _ _ _ _ us hl => match us, hl with | [_], _ => rfl), PySem.W.mg_of X G a13⟩
  have F14 := fun_mk (st := top 14) l14 c14 k14
  have D14 : Def K mg "is_near" (top 14) ["value", "most"] := ⟨_, _, F14, F14.binds (ps := ["value", "most"]) (fun _ _ _ _ _ _ us hl => match us, hl with | [_, _], _ => rfl), PySem.W.mg_of X G a14⟩
  have F20 := fun_mk (st := top 20) l20 c20 k20
  have D20 : Def K mg "wrong_until" (top 20) ["values", "most"] := ⟨_, _, F20, F20.binds (ps := ["values", "most"]) (fun _ _ _ _ _ _ us hl => match us, hl with | [_, _], _ => rfl), PySem.W.mg_of X G a20⟩
  have F21 := fun_mk (st := top 21) l21 c21 k21
  have D21 : Def K mg "check_cells" (top 21) ["values"] := ⟨_, _, F21, F21.binds (ps := ["values"]) (fun _ _ _ _ _ _ us hl => match us, hl with | [_], _ => rfl), PySem.W.mg_of X G a21⟩
  have F23 := fun_mk (st := top 23) l23 c23 k23
  have D23 : Def K mg "brought" (top 23) ["cell", "shove"] := ⟨_, _, F23, F23.binds (ps := ["cell", "shove"]) (fun _ _ _ _ _ _ us hl => match us, hl with | [_, _], _ => rfl), PySem.W.mg_of X G a23⟩
  have F24 := fun_mk (st := top 24) l24 c24 k24
  have D24 : Def K mg "laid" (top 24) ["cells"] := ⟨_, _, F24, F24.binds (ps := ["cells"]) (fun _ _ _ _ _ _ us hl => match us, hl with | [_], _ => rfl), PySem.W.mg_of X G a24⟩
  have F25 := fun_mk (st := top 25) l25 c25 k25
  have D25 : Def K mg "is_one_piece" (top 25) ["cells"] := ⟨_, _, F25, F25.binds (ps := ["cells"]) (fun _ _ _ _ _ _ us hl => match us, hl with | [_], _ => rfl), PySem.W.mg_of X G a25⟩
  have F26 := fun_mk (st := top 26) l26 c26 k26
  have D26 : Def K mg "cells_around" (top 26) ["cells", "wide", "high"] := ⟨_, _, F26, F26.binds (ps := ["cells", "wide", "high"]) (fun _ _ _ _ _ _ us hl => match us, hl with | [_, _, _], _ => rfl), PySem.W.mg_of X G a26⟩
  have F29 := fun_mk (st := top 29) l29 c29 k29
  have D29 : Def K mg "shape_of_cells" (top 29) ["cells"] := ⟨_, _, F29, F29.binds (ps := ["cells"]) (fun _ _ _ _ _ _ us hl => match us, hl with | [_], _ => rfl), PySem.W.mg_of X G a29⟩
  have F30 := fun_mk (st := top 30) l30 c30 k30
  have D30 : Def K mg "check_shape" (top 30) ["value"] := ⟨_, _, F30, F30.binds (ps := ["value"]) (fun _ _ _ _ _ _ us hl => match us, hl with | [_], _ => rfl), PySem.W.mg_of X G a30⟩
  have F32 := fun_mk (st := top 32) l32 c32 k32
  have D32 : Def K mg "check_sizes" (top 32) ["wide", "high"] := ⟨_, _, F32, F32.binds (ps := ["wide", "high"]) (fun _ _ _ _ _ _ us hl => match us, hl with | [_, _], _ => rfl), PySem.W.mg_of X G a32⟩
  have F33 := fun_mk (st := top 33) l33 c33 k33
  have D33 : Def K mg "all_blocks" (top 33) ["shape", "wide", "high"] := ⟨_, _, F33, F33.binds (ps := ["shape", "wide", "high"]) (fun _ _ _ _ _ _ us hl => match us, hl with | [_, _, _], _ => rfl), PySem.W.mg_of X G a33⟩
  have F34 := fun_mk (st := top 34) l34 c34 k34
  have D34 : Def K mg "moves_for" (top 34) ["blocks", "left"] := ⟨_, _, F34, F34.binds (ps := ["blocks", "left"]) (fun _ _ _ _ _ _ us hl => match us, hl with | [_, _], _ => rfl), PySem.W.mg_of X G a34⟩
  have F35 := fun_mk (st := top 35) l35 c35 k35
  have D35 : Def K mg "without" (top 35) ["left", "block"] := ⟨_, _, F35, F35.binds (ps := ["left", "block"]) (fun _ _ _ _ _ _ us hl => match us, hl with | [_, _], _ => rfl), PySem.W.mg_of X G a35⟩
  have F36 := fun_mk (st := top 36) l36 c36 k36
  have D36 : Def K mg "all_fillings" (top 36) ["blocks", "left"] := ⟨_, _, F36, F36.binds (ps := ["blocks", "left"]) (fun _ _ _ _ _ _ us hl => match us, hl with | [_, _], _ => rfl), PySem.W.mg_of X G a36⟩
  have F37 := fun_mk (st := top 37) l37 c37 k37
  have D37 : Def K mg "number_of" (top 37) ["blocks", "left", "known"] := ⟨_, _, F37, F37.binds (ps := ["blocks", "left", "known"]) (fun _ _ _ _ _ _ us hl => match us, hl with | [_, _, _], _ => rfl), PySem.W.mg_of X G a37⟩
  have F38 := fun_mk (st := top 38) l38 c38 k38
  have D38 : Def K mg "all_places" (top 38) ["wide", "high"] := ⟨_, _, F38, F38.binds (ps := ["wide", "high"]) (fun _ _ _ _ _ _ us hl => match us, hl with | [_, _], _ => rfl), PySem.W.mg_of X G a38⟩
  have F39 := fun_mk (st := top 39) l39 c39 k39
  have D39 : Def K mg "fillings_of" (top 39) ["shape", "wide", "high"] := ⟨_, _, F39, F39.binds (ps := ["shape", "wide", "high"]) (fun _ _ _ _ _ _ us hl => match us, hl with | [_, _, _], _ => rfl), PySem.W.mg_of X G a39⟩
  have F40 := fun_mk (st := top 40) l40 c40 k40
  have D40 : Def K mg "fillings" (top 40) ["shape", "wide", "high"] := ⟨_, _, F40, F40.binds (ps := ["shape", "wide", "high"]) (fun _ _ _ _ _ _ us hl => match us, hl with | [_, _, _], _ => rfl), PySem.W.mg_of X G a40⟩
  have F41 := fun_mk (st := top 41) l41 c41 k41
  have D41 : Def K mg "many_fillings" (top 41) ["shape", "wide", "high"] := ⟨_, _, F41, F41.binds (ps := ["shape", "wide", "high"]) (fun _ _ _ _ _ _ us hl => match us, hl with | [_, _, _], _ => rfl), PySem.W.mg_of X G a41⟩
  have F42 := fun_mk (st := top 42) l42 c42 k42
  have D42 : Def K mg "count_fillings" (top 42) ["shape", "wide", "high"] := ⟨_, _, F42, F42.binds (ps := ["shape", "wide", "high"]) (fun _ _ _ _ _ _ us hl => match us, hl with | [_, _, _], _ => rfl), PySem.W.mg_of X G a42⟩
  have F44 := fun_mk (st := top 44) l44 c44 k44
  have D44 : Def K mg "_law_origin" (top 44) ["_law_script", "_law_turn"] := ⟨_, _, F44, F44.binds (ps := ["_law_script", "_law_turn"]) (fun _ _ _ _ _ _ us hl => match us, hl with | [_, _], _ => rfl), PySem.W.mg_of X G a44⟩
  have F45 := fun_mk (st := top 45) l45 c45 k45
  have D45 : Def K mg "_law_sip" (top 45) ["_law_pool", "_law_size"] := ⟨_, _, F45, F45.binds (ps := ["_law_pool", "_law_size"]) (fun _ _ _ _ _ _ us hl => match us, hl with | [_, _], _ => rfl), PySem.W.mg_of X G a45⟩
  have F46 := fun_mk (st := top 46) l46 c46 k46
  have D46 : Def K mg "_law_some_one" (top 46) ["_law_pool", "_law_menu"] := ⟨_, _, F46, F46.binds (ps := ["_law_pool", "_law_menu"]) (fun _ _ _ _ _ _ us hl => match us, hl with | [_, _], _ => rfl), PySem.W.mg_of X G a46⟩
  have F47 := fun_mk (st := top 47) l47 c47 k47
  have D47 : Def K mg "_law_beside" (top 47) ["_law_spot"] := ⟨_, _, F47, F47.binds (ps := ["_law_spot"]) (fun _ _ _ _ _ _ us hl => match us, hl with | [_], _ => rfl), PySem.W.mg_of X G a47⟩
  have F48 := fun_mk (st := top 48) l48 c48 k48
  have D48 : Def K mg "_law_remainder" (top 48) ["_law_grid_here", "_law_spot"] := ⟨_, _, F48, F48.binds (ps := ["_law_grid_here", "_law_spot"]) (fun _ _ _ _ _ _ us hl => match us, hl with | [_, _], _ => rfl), PySem.W.mg_of X G a48⟩
  have F49 := fun_mk (st := top 49) l49 c49 k49
  have D49 : Def K mg "_law_grid" (top 49) ["_law_pool", "_law_most_here"] := ⟨_, _, F49, F49.binds (ps := ["_law_pool", "_law_most_here"]) (fun _ _ _ _ _ _ us hl => match us, hl with | [_, _], _ => rfl), PySem.W.mg_of X G a49⟩
  have F50 := fun_mk (st := top 50) l50 c50 k50
  have D50 : Def K mg "_law_fit" (top 50) ["_law_pool", "_law_grid_here"] := ⟨_, _, F50, F50.binds (ps := ["_law_pool", "_law_grid_here"]) (fun _ _ _ _ _ _ us hl => match us, hl with | [_, _], _ => rfl), PySem.W.mg_of X G a50⟩
  have F51 := fun_mk (st := top 51) l51 c51 k51
  have D51 : Def K mg "_law_grown" (top 51) ["_law_pool", "_law_size"] := ⟨_, _, F51, F51.binds (ps := ["_law_pool", "_law_size"]) (fun _ _ _ _ _ _ us hl => match us, hl with | [_, _], _ => rfl), PySem.W.mg_of X G a51⟩
  have F52 := fun_mk (st := top 52) l52 c52 k52
  have D52 : Def K mg "_law_small_tiles" (top 52) ["_law_pool", "_law_most_here"] := ⟨_, _, F52, F52.binds (ps := ["_law_pool", "_law_most_here"]) (fun _ _ _ _ _ _ us hl => match us, hl with | [_, _], _ => rfl), PySem.W.mg_of X G a52⟩
  have F53 := fun_mk (st := top 53) l53 c53 k53
  have D53 : Def K mg "_law_moved" (top 53) ["_law_some", "_law_sizes", "_law_push"] := ⟨_, _, F53, F53.binds (ps := ["_law_some", "_law_sizes", "_law_push"]) (fun _ _ _ _ _ _ us hl => match us, hl with | [_, _, _], _ => rfl), PySem.W.mg_of X G a53⟩
  have F54 := fun_mk (st := top 54) l54 c54 k54
  have D54 : Def K mg "_law_right" (top 54) ["_law_pool"] := ⟨_, _, F54, F54.binds (ps := ["_law_pool"]) (fun _ _ _ _ _ _ us hl => match us, hl with | [_], _ => rfl), PySem.W.mg_of X G a54⟩
  have F55 := fun_mk (st := top 55) l55 c55 k55
  have F100 := fun_mk (st := sInit) l100 c100 k100
  have D100 : MDef K C "__init__" "Shape.__init__" sInit ["self", "cells"] := ⟨_, _, F100, F100.binds (ps := ["self", "cells"]) (fun _ _ _ _ _ _ us hl => match us, hl with | [_, _], _ => rfl), ⟨a100, i100, k100⟩⟩
  have F101 := fun_mk (st := sLay) l101 c101 k101
  have D101 : MDef K C "lay" "Shape.lay" sLay ["self", "cells"] := ⟨_, _, F101, F101.binds (ps := ["self", "cells"]) (fun _ _ _ _ _ _ us hl => match us, hl with | [_, _], _ => rfl), ⟨a101, i101, k101⟩⟩
  have F108 := fun_mk (st := sturned) l108 c108 k108
  have D108 : MDef K C "turned" "Shape.turned" sturned ["self"] := ⟨_, _, F108, F108.binds (ps := ["self"]) (fun _ _ _ _ _ _ us hl => match us, hl with | [_], _ => rfl), ⟨a108, i108, k108⟩⟩
  have F109 := fun_mk (st := squarter) l109 c109 k109
  have D109 : MDef K C "quarter" "Shape.quarter" squarter ["self"] := ⟨_, _, F109, F109.binds (ps := ["self"]) (fun _ _ _ _ _ _ us hl => match us, hl with | [_], _ => rfl), ⟨a109, i109, k109⟩⟩
  have F110 := fun_mk (st := sflipped) l110 c110 k110
  have D110 : MDef K C "flipped" "Shape.flipped" sflipped ["self"] := ⟨_, _, F110, F110.binds (ps := ["self"]) (fun _ _ _ _ _ _ us hl => match us, hl with | [_], _ => rfl), ⟨a110, i110, k110⟩⟩
  have F113 := fun_mk (st := sLen) l113 c113 k113
  have D113 : MDef K C "__len__" "Shape.__len__" sLen ["self"] := ⟨_, _, F113, F113.binds (ps := ["self"]) (fun _ _ _ _ _ _ us hl => match us, hl with | [_], _ => rfl), ⟨a113, i113, k113⟩⟩
  have F103 := fun_mk (st := sCells) l103 c103 k103
  refine ⟨PySem.W.fnOf "law" "law" (defArgs (top 55)) (defBody (top 55)) (defScope (top 55)) .none kV55 dc55 pm55 an55 cd55 ct55, fun s v => .of_eq rfl, fun base _ _ => ?_⟩
  have Pr : PrC l.prog w K mg base C := ⟨pp, f103, _, ⟨pat, pget, ptak, ⟨prest, prec⟩⟩, fn_getter l103 c103 sc_cells rfl rfl S.cl S.kept, F103.binds (ps := ["self"]) (fun _ _ _ _ _ _ us hl => match us, hl with | [_], _ => rfl)⟩
  have c_int := cal_is_integer (P := l.prog) (w := w) (base := base) B D11
  have c_bet := cal_is_between B c_int D12
  have c_pair := cal_is_pair B c_int D13
  have c_near := cal_is_near B c_pair D14
  have c_wu := cal_wrong_until B N c_near D20
  have c_cc := cal_check_cells B N c_wu D21
  have c_br := cal_brought (P := l.prog) (w := w) (base := base) D23
  have c_laid := cal_laid B c_br D24
  have c_iop := cal_iop B Sx c_br D25
  have c_ar := cal_around (P := l.prog) (w := w) (base := base) B D26
  have m_lay := mcal_lay B S c_laid c_iop c_ar D101
  have m_init := mcal_init B S c_cc m_lay D100
  have c_soc := cal_soc S mk kc m_init m_lay D29
  have m_t := mcal_turned S c_soc D108
  have m_q := mcal_quarter S c_soc D109
  have m_f := mcal_flipped S c_soc D110
  have m_len := mcal_len (P := l.prog) (w := w) (base := base) B S D113
  have c_chs := cal_chs (P := l.prog) (w := w) (base := base) B S SI D30
  have c_chz := cal_chz B N c_bet D32
  have c_bl := cal_blocks B S Pr m_len D33
  have c_mv := cal_moves (P := l.prog) (w := w) (base := base) B D34
  have c_wo := cal_without (P := l.prog) (w := w) (base := base) B D35
  have c_fill := cal_fill c_mv c_wo D36
  have c_num := cal_num B c_mv c_wo D37
  have c_pl := cal_places (P := l.prog) (w := w) (base := base) B D38
  have c_fo := cal_fo B c_bl c_pl c_fill D39
  have c_fi := cal_fi c_chs c_chz c_fo D40
  have c_many := cal_many c_bl c_pl c_num D41
  have c_count := cal_count c_chs c_chz c_many D42
  have c_or := cal_origin (P := l.prog) (w := w) (base := base) B D44
  have c_sip := cal_sip (P := l.prog) (w := w) (base := base) B D45
  have c_some := cal_some B c_sip D46
  have c_bes := cal_bes (P := l.prog) (w := w) (base := base) D47
  have c_rem := cal_rem (P := l.prog) (w := w) (base := base) B D48
  have c_grid := cal_grid c_sip D49
  have c_fit := cal_fit B c_bes c_some c_rem D50
  have c_gr := cal_grown B c_bes c_some D51
  have c_ti := cal_tiles B c_sip c_gr c_fit c_grid D52
  have c_mo := cal_moved (P := l.prog) (w := w) (base := base) B D53
  have c_ri := cal_right B S mk kc m_init m_t m_f m_q m_len c_ti c_some c_sip c_mo c_fi c_count D54
  exact fn_law B c_or c_ri F55
theorem walk {l : PySem.W.OpenLaw} {n : Nat} {q : Program} {loose : List Str} {XP : (Str → Option Value) → Heap → Prop} {YP : World → Heap → Prop} {d : DefRec} {K : Params → PySem.W.Frag} (hn : l.most = some n) (hn2 : n ≤ sizeLine) (hdf : d.params.defaults = [])
    (hY : ∀ (w : World) (h : Heap), YP w h → (K w.params).In h)
    (F : ∀ (w : World) (mg : Str → Option Value) (fa : Addr) (h : Heap), (K w.params).In h → h.Ns mainGlobals mg → mg d.name = some (.ref fa) →
      ∃ fd : FuncData, (∀ (s : Shared) (u : Value), BindsTo s fd ⟨[u], []⟩ [("_law_script", u)]) ∧ ∀ base : Heap, (K w.params).In base → base.Ns mainGlobals mg → FnOk l.prog w (K w.params) mg base CX0 43 fa fd ["_law_script"] (sp_law (K w.params))) :
    PySem.W.WalkO q loose XP YP l.row.toRowW d [] (fun f vs => PySem.call f vs) :=
  L2.walk_ofB (n := n) (k := 43) (x := "_law_script") (CX := fun _ => CX0) (sp := fun w => sp_law (K w.params)) hn hn2 hdf ⟨rfl, by decide, by decide⟩ hY F (fun _ _ a ns _ hb _ hS => ⟨a, ns, rfl, hS, hb, fun _ => rfl⟩) fun _ _ _ _ _ z => z
end Sf

open PySem PySem.W PyProof.Rows in
set_option maxHeartbeats 0 in
theorem PySem.Challenge.cw_shovefloors_k44_whole_fillings_moved_and_holds : PySem.Challenge.rw_shovefloors_k44_whole_fillings_moved_and.Holds := by
  w_on; o_law; k_head; (case hw => w_witness2)
  k_fill
  refine Sf.walk (l := PySem.Challenge.rw_shovefloors_k44_whole_fillings_moved_and) rfl (by decide) rfl (fun w h Y => PySem.W.kIn_of Y) ?F
  case F =>
    intro w mg fa h KX G hmg
    refine' Sf.all_mk KX G hmg ?aC ?a11 ?l11 ?c11 ?k11 ?a12 ?l12 ?c12 ?k12 ?a13 ?l13 ?c13 ?k13 ?a14 ?l14 ?c14 ?k14 ?a20 ?l20 ?c20 ?k20 ?a21 ?l21 ?c21 ?k21 ?a23 ?l23 ?c23 ?k23 ?a24 ?l24 ?c24 ?k24 ?a25 ?l25 ?c25 ?k25 ?a26 ?l26 ?c26 ?k26 ?a29 ?l29 ?c29 ?k29 ?a30 ?l30 ?c30 ?k30 ?a32 ?l32 ?c32 ?k32 ?a33 ?l33 ?c33 ?k33 ?a34 ?l34 ?c34 ?k34 ?a35 ?l35 ?c35 ?k35 ?a36 ?l36 ?c36 ?k36 ?a37 ?l37 ?c37 ?k37 ?a38 ?l38 ?c38 ?k38 ?a39 ?l39 ?c39 ?k39 ?a40 ?l40 ?c40 ?k40 ?a41 ?l41 ?c41 ?k41 ?a42 ?l42 ?c42 ?k42 ?a44 ?l44 ?c44 ?k44 ?a45 ?l45 ?c45 ?k45 ?a46 ?l46 ?c46 ?k46 ?a47 ?l47 ?c47 ?k47 ?a48 ?l48 ?c48 ?k48 ?a49 ?l49 ?c49 ?k49 ?a50 ?l50 ?c50 ?k50 ?a51 ?l51 ?c51 ?k51 ?a52 ?l52 ?c52 ?k52 ?a53 ?l53 ?c53 ?k53 ?a54 ?l54 ?c54 ?k54 ?a55 ?l55 ?c55 ?k55 ?a100 ?i100 ?l100 ?c100 ?k100 ?a101 ?i101 ?l101 ?c101 ?k101 ?a108 ?i108 ?l108 ?c108 ?k108 ?a109 ?i109 ?l109 ?c109 ?k109 ?a110 ?i110 ?l110 ?c110 ?k110 ?a113 ?i113 ?l113 ?c113 ?k113 ?pat ?pget ?ptak ?prec ?l103 ?c103 ?k103 ?pg ?hd ?po ?sa ?mk ?kc ?nK ?nS ?nP ?nW ?ia ?ib ?ic ?id_ ?m1 ?m2 ?m3 ?sa0 ?sl0 ?ql0 ?ql1 ?ql2 ?ql3 ?z_len ?z_isinstance ?z_int ?z_bool ?z_tuple ?z_list ?z_set ?z_all ?z_enumerate ?z_min ?z_max ?z_sorted ?z_range ?z_sum ?z_divmod ?z_abs
    (case aC => k_is)
    (case a11 => k_is)
    (case l11 => k_is)
    (case c11 => k_is)
    (case k11 => k_is)
    (case a12 => k_is)
    (case l12 => k_is)
    (case c12 => k_is)
    (case k12 => k_is)
    (case a13 => k_is)
    (case l13 => k_is)
    (case c13 => k_is)
    (case k13 => k_is)
    (case a14 => k_is)
    (case l14 => k_is)
    (case c14 => k_is)
    (case k14 => k_is)
    (case a20 => k_is)
    (case l20 => k_is)
    (case c20 => k_is)
    (case k20 => k_is)
    (case a21 => k_is)
    (case l21 => k_is)
    (case c21 => k_is)
    (case k21 => k_is)
    (case a23 => k_is)
    (case l23 => k_is)
    (case c23 => k_is)
    (case k23 => k_is)
    (case a24 => k_is)
    (case l24 => k_is)
    (case c24 => k_is)
    (case k24 => k_is)
    (case a25 => k_is)
    (case l25 => k_is)
    (case c25 => k_is)
    (case k25 => k_is)
    (case a26 => k_is)
    (case l26 => k_is)
    (case c26 => k_is)
    (case k26 => k_is)
    (case a29 => k_is)
    (case l29 => k_is)
    (case c29 => k_is)
    (case k29 => k_is)
    (case a30 => k_is)
    (case l30 => k_is)
    (case c30 => k_is)
    (case k30 => k_is)
    (case a32 => k_is)
    (case l32 => k_is)
    (case c32 => k_is)
    (case k32 => k_is)
    (case a33 => k_is)
    (case l33 => k_is)
    (case c33 => k_is)
    (case k33 => k_is)
    (case a34 => k_is)
    (case l34 => k_is)
    (case c34 => k_is)
    (case k34 => k_is)
    (case a35 => k_is)
    (case l35 => k_is)
    (case c35 => k_is)
    (case k35 => k_is)
    (case a36 => k_is)
    (case l36 => k_is)
    (case c36 => k_is)
    (case k36 => k_is)
    (case a37 => k_is)
    (case l37 => k_is)
    (case c37 => k_is)
    (case k37 => k_is)
    (case a38 => k_is)
    (case l38 => k_is)
    (case c38 => k_is)
    (case k38 => k_is)
    (case a39 => k_is)
    (case l39 => k_is)
    (case c39 => k_is)
    (case k39 => k_is)
    (case a40 => k_is)
    (case l40 => k_is)
    (case c40 => k_is)
    (case k40 => k_is)
    (case a41 => k_is)
    (case l41 => k_is)
    (case c41 => k_is)
    (case k41 => k_is)
    (case a42 => k_is)
    (case l42 => k_is)
    (case c42 => k_is)
    (case k42 => k_is)
    (case a44 => k_is)
    (case l44 => k_is)
    (case c44 => k_is)
    (case k44 => k_is)
    (case a45 => k_is)
    (case l45 => k_is)
    (case c45 => k_is)
    (case k45 => k_is)
    (case a46 => k_is)
    (case l46 => k_is)
    (case c46 => k_is)
    (case k46 => k_is)
    (case a47 => k_is)
    (case l47 => k_is)
    (case c47 => k_is)
    (case k47 => k_is)
    (case a48 => k_is)
    (case l48 => k_is)
    (case c48 => k_is)
    (case k48 => k_is)
    (case a49 => k_is)
    (case l49 => k_is)
    (case c49 => k_is)
    (case k49 => k_is)
    (case a50 => k_is)
    (case l50 => k_is)
    (case c50 => k_is)
    (case k50 => k_is)
    (case a51 => k_is)
    (case l51 => k_is)
    (case c51 => k_is)
    (case k51 => k_is)
    (case a52 => k_is)
    (case l52 => k_is)
    (case c52 => k_is)
    (case k52 => k_is)
    (case a53 => k_is)
    (case l53 => k_is)
    (case c53 => k_is)
    (case k53 => k_is)
    (case a54 => k_is)
    (case l54 => k_is)
    (case c54 => k_is)
    (case k54 => k_is)
    (case a55 => k_is)
    (case l55 => k_is)
    (case c55 => k_is)
    (case k55 => k_is)
    (case a100 => k_is)
    (case i100 => k_is)
    (case l100 => k_is)
    (case c100 => k_is)
    (case k100 => k_is)
    (case a101 => k_is)
    (case i101 => k_is)
    (case l101 => k_is)
    (case c101 => k_is)
    (case k101 => k_is)
    (case a108 => k_is)
    (case i108 => k_is)
    (case l108 => k_is)
    (case c108 => k_is)
    (case k108 => k_is)
    (case a109 => k_is)
    (case i109 => k_is)
    (case l109 => k_is)
    (case c109 => k_is)
    (case k109 => k_is)
    (case a110 => k_is)
    (case i110 => k_is)
    (case l110 => k_is)
    (case c110 => k_is)
    (case k110 => k_is)
    (case a113 => k_is)
    (case i113 => k_is)
    (case l113 => k_is)
    (case c113 => k_is)
    (case k113 => k_is)
    (case pat => k_is)
    (case pget => k_is)
    (case ptak => k_is)
    (case prec => k_is)
    (case l103 => k_is)
    (case c103 => k_is)
    (case k103 => k_is)
    (case pg => k_is)
    (case hd => k_is)
    (case po => k_is)
    (case sa => k_is)
    (case mk => k_is)
    (case kc => k_is)
    (case nK => k_is)
    (case nS => k_is)
    (case nP => k_is)
    (case nW => k_is)
    (case ia => k_is)
    (case ib => k_is)
    (case ic => k_is)
    (case id_ => k_is)
    (case m1 => k_is)
    (case m2 => k_is)
    (case m3 => k_is)
    (case sa0 => k_is)
    (case sl0 => k_is)
    (case ql0 => k_is)
    (case ql1 => k_is)
    (case ql2 => k_is)
    (case ql3 => k_is)
    (case z_len => k_is)
    (case z_isinstance => k_is)
    (case z_int => k_is)
    (case z_bool => k_is)
    (case z_tuple => k_is)
    (case z_list => k_is)
    (case z_set => k_is)
    (case z_all => k_is)
    (case z_enumerate => k_is)
    (case z_min => k_is)
    (case z_max => k_is)
    (case z_sorted => k_is)
    (case z_range => k_is)
    (case z_sum => k_is)
    (case z_divmod => k_is)
    (case z_abs => k_is)

