/-
  The words of our own walk: the state of memory as a list of owned blocks ('St'), and one law for each way of control.
-/
import Derived.WalkKit
import Derived.OrdersHeld
import Derived.Shelf.Abstract
namespace Go.Er
open Go

/-! ### The state of memory -/

/-- Memory 'w', come from 'w0': blocks that were there are as they were, but for those of 'X'; each block of 'L' (new ones, or of 'X') holds what L says. -/
structure St (w0 : World) (X : List Nat) (w : World) (L : List (Nat × Obj)) : Prop where
  os : w.os = w0.os
  tape : w.tape = w0.tape
  output : w.output = w0.output
  size : w0.heap.size ≤ w.heap.size
  drawn : w0.drawn ≤ w.drawn
  old : ∀ b, b < w0.heap.size → b ∉ X → w.heap[b]? = w0.heap[b]?
  own : ∀ p ∈ L, w.heap[p.1]? = some p.2
  nodup : (L.map (·.1)).Nodup
  fresh : ∀ p ∈ L, w0.heap.size ≤ p.1 ∨ p.1 ∈ X

theorem lt_of_heap {w : World} {b : Nat} {o : Obj} (h : w.heap[b]? = some o) : b < w.heap.size := by
  rcases Nat.lt_or_ge b w.heap.size with h' | h'
  · exact h'
  · rw [Array.getElem?_eq_none h'] at h; cases h

theorem St.refl (w : World) : St w [] w [] :=
  ⟨rfl, rfl, rfl, Nat.le_refl _, Nat.le_refl _, fun _ _ _ => rfl, fun _ h => (nomatch h), List.nodup_nil, fun _ h => (nomatch h)⟩

theorem St.start {w : World} {L : List (Nat × Obj)} (h : ∀ p ∈ L, w.heap[p.1]? = some p.2) (hn : (L.map (·.1)).Nodup) : St w (L.map (·.1)) w L :=
  ⟨rfl, rfl, rfl, Nat.le_refl _, Nat.le_refl _, fun _ _ _ => rfl, h, hn, fun _ hp => .inr (List.mem_map_of_mem hp)⟩

theorem St.drew {w0 w : World} {X : List Nat} {L : List (Nat × Obj)} (h : St w0 X w L) {n : Nat} (hn : w.drawn ≤ n) : St w0 X { w with drawn := n } L :=
  ⟨h.os, h.tape, h.output, h.size, Nat.le_trans h.drawn hn, h.old, h.own, h.nodup, h.fresh⟩

theorem St.lt {w0 w : World} {X : List Nat} {L : List (Nat × Obj)} (h : St w0 X w L) {p : Nat × Obj} (hp : p ∈ L) : p.1 < w.heap.size :=
  lt_of_heap (h.own p hp)

/-- A block that is read, and was there, and is none of X. -/
theorem St.rd {w0 w : World} {X : List Nat} {L : List (Nat × Obj)} (h : St w0 X w L) {b : Nat} {o : Obj} (hb : w0.heap[b]? = some o) (hX : b ∉ X) : w.heap[b]? = some o :=
  (h.old b (lt_of_heap hb) hX).trans hb

theorem St.rd0 {w0 w : World} {L : List (Nat × Obj)} (h : St w0 [] w L) {b : Nat} {o : Obj} (hb : w0.heap[b]? = some o) : w.heap[b]? = some o :=
  h.rd hb (by simp)

/-- Block number k of the list. -/
theorem St.at {w0 w : World} {X : List Nat} {L : List (Nat × Obj)} (h : St w0 X w L) (k : Nat) {b : Nat} {o : Obj} (hk : L[k]? = some (b, o)) : w.heap[b]? = some o :=
  h.own (b, o) (List.mem_of_getElem? hk)

theorem St.alloc {w0 w : World} {X : List Nat} {L : List (Nat × Obj)} (h : St w0 X w L) (o : Obj) : St w0 X { w with heap := w.heap.push o } ((w.heap.size, o) :: L) := by
  refine ⟨h.os, h.tape, h.output, ?_, h.drawn, ?_, ?_, ?_, ?_⟩
  · simp only [Array.size_push]; have := h.size; omega
  · intro b hb hX
    have := h.size
    simp only [Array.getElem?_push]
    rw [if_neg (by omega)]
    exact h.old b hb hX
  · intro p hp
    simp only [Array.getElem?_push]
    rcases List.mem_cons.1 hp with rfl | hp
    · simp
    · have := h.lt hp
      rw [if_neg (by omega)]
      exact h.own p hp
  · simp only [List.map_cons, List.nodup_cons]
    refine ⟨?_, h.nodup⟩
    intro hm
    obtain ⟨p, hp, he⟩ := List.mem_map.1 hm
    have := h.lt hp
    omega
  · intro p hp
    rcases List.mem_cons.1 hp with rfl | hp
    · exact .inl h.size
    · exact h.fresh p hp

/-- Block number k holds another thing, of the same kind or not: a law on heaps. -/
theorem St.put {w0 w w' : World} {X : List Nat} {L : List (Nat × Obj)} (h : St w0 X w L) (k : Nat) {b : Nat} {o o' : Obj} (hk : L[k]? = some (b, o))
    (ho : w'.os = w.os) (ht : w'.tape = w.tape) (hu : w'.output = w.output) (hdr : w'.drawn = w.drawn) (hs : w'.heap.size = w.heap.size) (hb : w'.heap[b]? = some o') (hr : ∀ c, c ≠ b → w'.heap[c]? = w.heap[c]?) : St w0 X w' (L.set k (b, o')) := by
  have hkl : k < L.length := by
    rcases Nat.lt_or_ge k L.length with h' | h'
    · exact h'
    · rw [List.getElem?_eq_none h'] at hk; cases hk
  have hmem : (b, o) ∈ L := List.mem_of_getElem? hk
  have hkeys : (L.set k (b, o')).map (·.1) = L.map (·.1) := by
    rw [List.map_set]
    apply List.ext_getElem?
    intro i
    rw [List.getElem?_set]
    split
    · rename_i e; subst e
      split
      · simp [hk]
      · rename_i h2; simp at h2; simp [List.getElem?_eq_none h2]
    · rfl
  refine ⟨ho.trans h.os, ht.trans h.tape, hu.trans h.output, by rw [hs]; exact h.size, by rw [hdr]; exact h.drawn, ?_, ?_, by rw [hkeys]; exact h.nodup, ?_⟩
  · intro c hc hX
    rw [hr c ?_]
    · exact h.old c hc hX
    · rintro rfl
      rcases h.fresh _ hmem with h1 | h1
      · simp at h1; omega
      · exact hX h1
  · intro p hp
    rcases List.mem_or_eq_of_mem_set hp with hp' | rfl
    · by_cases e : p.1 = b
      · -- the same key: it is the new one
        obtain ⟨i, hi⟩ := List.mem_iff_getElem?.1 hp
        rw [List.getElem?_set] at hi
        by_cases hik : k = i
        · subst hik
          rw [if_pos rfl, if_pos hkl] at hi
          cases hi
          exact hb
        · rw [if_neg hik] at hi
          exfalso
          have hn := h.nodup
          have hi' : i < L.length := by
            rcases Nat.lt_or_ge i L.length with h' | h'
            · exact h'
            · rw [List.getElem?_eq_none h'] at hi; cases hi
          have h1 : (L.map (·.1))[k]? = some b := by simp [hk]
          have h2 : (L.map (·.1))[i]? = some b := by simp [hi, e]
          exact hik ((List.getElem?_inj (by simpa using hkl) hn).1 (h1.trans h2.symm))
      · rw [hr _ e]; exact h.own p hp'
    · exact hb
  · intro p hp
    rcases List.mem_or_eq_of_mem_set hp with hp' | rfl
    · exact h.fresh p hp'
    · exact h.fresh (b, o) hmem

theorem heap_setCell_size (w : World) (a : Addr) (v : Value) : (w.setCell a v).heap.size = w.heap.size := by simp [World.setCell]

theorem heap_setCell_self {w : World} {b i : Nat} {cs : Array Value} {T : TypeId} {fz : Nat × Nat} (v : Value) (h : w.heap[b]? = some (.cells cs T fz)) :
    (w.setCell ⟨b, i, none⟩ v).heap[b]? = some (.cells (cs.setIfInBounds i v) T fz) := by
  simp [World.setCell, Array.getElem?_modify, h]

theorem St.setCell {w0 w : World} {X : List Nat} {L : List (Nat × Obj)} (h : St w0 X w L) (k : Nat) {b i : Nat} {cs : Array Value} {T : TypeId} {fz : Nat × Nat} (v : Value)
    (hk : L[k]? = some (b, .cells cs T fz)) : St w0 X (w.setCell ⟨b, i, none⟩ v) (L.set k (b, .cells (cs.setIfInBounds i v) T fz)) :=
  h.put k hk rfl rfl rfl rfl (heap_setCell_size _ _ _) (heap_setCell_self v (h.at k hk)) (fun _ hc => RowKit.Below.heap_setCell _ _ _ _ hc)

theorem St.sub {w0 w : World} {X : List Nat} {L L' : List (Nat × Obj)} (h : St w0 X w L) (hs : L'.Sublist L) : St w0 X w L' :=
  ⟨h.os, h.tape, h.output, h.size, h.drawn, h.old, fun p hp => h.own p (hs.subset hp), (hs.map _).nodup h.nodup, fun p hp => h.fresh p (hs.subset hp)⟩

theorem St.perm {w0 w : World} {X : List Nat} {L L' : List (Nat × Obj)} (h : St w0 X w L) (hs : L'.Perm L) : St w0 X w L' :=
  ⟨h.os, h.tape, h.output, h.size, h.drawn, h.old, fun p hp => h.own p (hs.subset hp), (hs.map _).nodup_iff.2 h.nodup, fun p hp => h.fresh p (hs.subset hp)⟩

def swp {α : Type} : Nat → List α → List α
  | 0, a :: b :: l => b :: a :: l
  | k + 1, a :: l => a :: swp k l
  | _, l => l
theorem swp_perm {α : Type} : ∀ (k : Nat) (l : List α), (swp k l).Perm l
  | 0, [] => .refl _
  | 0, [_] => .refl _
  | 0, a :: b :: l => .swap a b l
  | _ + 1, [] => .refl _
  | k + 1, a :: l => .cons a (swp_perm k l)
theorem St.swp {w0 w : World} {X : List Nat} {L L' : List (Nat × Obj)} (h : St w0 X w L) (k : Nat) (hL : swp k L = L') : St w0 X w L' := by
  subst hL; exact h.perm (swp_perm k L)

/-- Behind a call: it was handed the blocks F, and nothing else of L was touched. -/
theorem St.call {w0 w w' : World} {X : List Nat} {F L N : List (Nat × Obj)} (h : St w0 X w (F ++ L)) (hc : St w (F.map (·.1)) w' N) : St w0 X w' (N ++ L) := by
  have hn := h.nodup
  rw [List.map_append, List.nodup_append] at hn
  obtain ⟨_, hnL, hdis⟩ := hn
  have hlt : ∀ p ∈ L, p.1 < w.heap.size := fun p hp => h.lt (List.mem_append_right _ hp)
  have hkeep : ∀ p ∈ L, p.1 ∉ F.map (·.1) := fun p hp hm => hdis _ hm _ (List.mem_map_of_mem hp) rfl
  refine ⟨hc.os.trans h.os, hc.tape.trans h.tape, hc.output.trans h.output, Nat.le_trans h.size hc.size, Nat.le_trans h.drawn hc.drawn, ?_, ?_, ?_, ?_⟩
  · intro b hb hX
    rw [hc.old b (Nat.lt_of_lt_of_le hb h.size) ?_]
    · exact h.old b hb hX
    · intro hm
      obtain ⟨p, hp, rfl⟩ := List.mem_map.1 hm
      rcases h.fresh p (List.mem_append_left _ hp) with h1 | h1
      · omega
      · exact hX h1
  · intro p hp
    rcases List.mem_append.1 hp with hp | hp
    · exact hc.own p hp
    · rw [hc.old _ (hlt p hp) (hkeep p hp)]; exact h.own p (List.mem_append_right _ hp)
  · rw [List.map_append, List.nodup_append]
    refine ⟨hc.nodup, hnL, ?_⟩
    intro a ha b hb hab
    subst hab
    obtain ⟨p, hp, rfl⟩ := List.mem_map.1 ha
    obtain ⟨q, hq, he⟩ := List.mem_map.1 hb
    have := hlt q hq
    rcases hc.fresh p hp with h1 | h1
    · omega
    · rw [← he] at h1; exact hkeep q hq h1
  · intro p hp
    rcases List.mem_append.1 hp with hp | hp
    · rcases hc.fresh p hp with h1 | h1
      · exact .inl (Nat.le_trans h.size h1)
      · obtain ⟨q, hq, he⟩ := List.mem_map.1 h1
        rw [← he]
        exact h.fresh q (List.mem_append_left _ hq)
    · exact h.fresh p (List.mem_append_right _ hp)

/-- Behind a call that was handed no block to write. -/
theorem St.call0 {w0 w w' : World} {X : List Nat} {L N : List (Nat × Obj)} (h : St w0 X w L) (hc : St w [] w' N) : St w0 X w' (N ++ L) :=
  St.call (F := []) h hc

/-- What w holds in the blocks of N. -/
structure Own (w : World) (N : List (Nat × Obj)) : Prop where
  own : ∀ p ∈ N, w.heap[p.1]? = some p.2
  nodup : (N.map (·.1)).Nodup
theorem Own.st {w : World} {N : List (Nat × Obj)} (h : Own w N) : St w (N.map (·.1)) w N := St.start h.own h.nodup
theorem St.owns {w0 w : World} {X : List Nat} {L N : List (Nat × Obj)} (h : St w0 X w (L ++ N)) : Own w N :=
  ⟨fun p hp => h.own p (List.mem_append_right _ hp), by have := h.nodup; rw [List.map_append, List.nodup_append] at this; exact this.2.1⟩
/-- the same, the blocks handed over standing behind -/
theorem St.callr {w0 w w' : World} {X : List Nat} {F L N : List (Nat × Obj)} (h : St w0 X w (L ++ F)) (hc : St w (F.map (·.1)) w' N) : St w0 X w' (L ++ N) :=
  (St.call (h.perm List.perm_append_comm) hc).perm List.perm_append_comm
theorem St.ownNil {w : World} : Own w [] := ⟨fun _ h => (nomatch h), List.nodup_nil⟩

theorem St.quiet {w0 w w' : World} {X : List Nat} {L : List (Nat × Obj)} (h : St w0 X w L) (hc : St w [] w' []) : St w0 X w' L := by
  have := h.call0 hc
  simpa using this

theorem St.below {w0 w : World} {L : List (Nat × Obj)} (h : St w0 [] w L) : RowKit.Below w0.heap.size w0 w :=
  ⟨h.os, h.tape, h.output, h.size, fun k hk => h.old k hk (by simp)⟩

/-! ### Frames -/

/-- A frame within a list of operations: what has been written since, and what stood at its head. -/
structure Fr where
  a : List (Nat × Value)
  b : List Value
  n : Nat
  h : b.length = n ∧ Nat.ble n 1000 = true

def lka : List (Nat × Value) → Nat → Option Value
  | [], _ => none
  | (d, v) :: r, t => match Nat.beq d t with
    | true => some v
    | false => lka r t
def lk : List (Nat × Value) → List Value → Nat → Option Value
  | [], l, t => l[t]?
  | (d, v) :: r, l, t => match Nat.beq d t with
    | true => some v
    | false => lk r l t

/-- the slots' numbers, written out: so that each is a numeral when it is compared -/
def ix : List Nat := [0, 1, 2, 3, 4, 5, 6, 7, 8, 9, 10, 11, 12, 13, 14, 15, 16, 17, 18, 19, 20, 21, 22, 23, 24, 25, 26, 27, 28, 29, 30, 31, 32, 33, 34, 35, 36, 37, 38, 39, 40, 41, 42, 43, 44, 45, 46, 47, 48, 49, 50, 51, 52, 53, 54, 55, 56, 57, 58, 59, 60, 61, 62, 63, 64, 65, 66, 67, 68, 69, 70, 71, 72, 73, 74, 75, 76, 77, 78, 79, 80, 81, 82, 83, 84, 85, 86, 87, 88, 89, 90, 91, 92, 93, 94, 95, 96,
  97, 98, 99, 100, 101, 102, 103, 104, 105, 106, 107, 108, 109, 110, 111, 112, 113, 114, 115, 116, 117, 118, 119, 120, 121, 122, 123, 124, 125, 126, 127, 128, 129, 130, 131, 132, 133, 134, 135, 136, 137, 138, 139, 140, 141, 142, 143, 144, 145, 146, 147, 148, 149, 150, 151, 152, 153, 154, 155, 156, 157, 158, 159, 160, 161, 162, 163, 164, 165, 166, 167, 168, 169, 170, 171, 172, 173, 174, 175, 176,
  177, 178, 179, 180, 181, 182, 183, 184, 185, 186, 187, 188, 189, 190, 191, 192, 193, 194, 195, 196, 197, 198, 199, 200, 201, 202, 203, 204, 205, 206, 207, 208, 209, 210, 211, 212, 213, 214, 215, 216, 217, 218, 219, 220, 221, 222, 223, 224, 225, 226, 227, 228, 229, 230, 231, 232, 233, 234, 235, 236, 237, 238, 239, 240, 241, 242, 243, 244, 245, 246, 247, 248, 249, 250, 251, 252, 253, 254, 255,
  256, 257, 258, 259, 260, 261, 262, 263, 264, 265, 266, 267, 268, 269, 270, 271, 272, 273, 274, 275, 276, 277, 278, 279, 280, 281, 282, 283, 284, 285, 286, 287, 288, 289, 290, 291, 292, 293, 294, 295, 296, 297, 298, 299, 300, 301, 302, 303, 304, 305, 306, 307, 308, 309, 310, 311, 312, 313, 314, 315, 316, 317, 318, 319, 320, 321, 322, 323, 324, 325, 326, 327, 328, 329, 330, 331, 332, 333, 334,
  335, 336, 337, 338, 339, 340, 341, 342, 343, 344, 345, 346, 347, 348, 349, 350, 351, 352, 353, 354, 355, 356, 357, 358, 359, 360, 361, 362, 363, 364, 365, 366, 367, 368, 369, 370, 371, 372, 373, 374, 375, 376, 377, 378, 379, 380, 381, 382, 383, 384, 385, 386, 387, 388, 389, 390, 391, 392, 393, 394, 395, 396, 397, 398, 399, 400, 401, 402, 403, 404, 405, 406, 407, 408, 409, 410, 411, 412, 413,
  414, 415, 416, 417, 418, 419, 420, 421, 422, 423, 424, 425, 426, 427, 428, 429, 430, 431, 432, 433, 434, 435, 436, 437, 438, 439, 440, 441, 442, 443, 444, 445, 446, 447, 448, 449, 450, 451, 452, 453, 454, 455, 456, 457, 458, 459, 460, 461, 462, 463, 464, 465, 466, 467, 468, 469, 470, 471, 472, 473, 474, 475, 476, 477, 478, 479, 480, 481, 482, 483, 484, 485, 486, 487, 488, 489, 490, 491, 492,
  493, 494, 495, 496, 497, 498, 499, 500, 501, 502, 503, 504, 505, 506, 507, 508, 509, 510, 511, 512, 513, 514, 515, 516, 517, 518, 519, 520, 521, 522, 523, 524, 525, 526, 527, 528, 529, 530, 531, 532, 533, 534, 535, 536, 537, 538, 539, 540, 541, 542, 543, 544, 545, 546, 547, 548, 549, 550, 551, 552, 553, 554, 555, 556, 557, 558, 559, 560, 561, 562, 563, 564, 565, 566, 567, 568, 569, 570, 571,
  572, 573, 574, 575, 576, 577, 578, 579, 580, 581, 582, 583, 584, 585, 586, 587, 588, 589, 590, 591, 592, 593, 594, 595, 596, 597, 598, 599, 600, 601, 602, 603, 604, 605, 606, 607, 608, 609, 610, 611, 612, 613, 614, 615, 616, 617, 618, 619, 620, 621, 622, 623, 624, 625, 626, 627, 628, 629, 630, 631, 632, 633, 634, 635, 636, 637, 638, 639, 640, 641, 642, 643, 644, 645, 646, 647, 648, 649, 650,
  651, 652, 653, 654, 655, 656, 657, 658, 659, 660, 661, 662, 663, 664, 665, 666, 667, 668, 669, 670, 671, 672, 673, 674, 675, 676, 677, 678, 679, 680, 681, 682, 683, 684, 685, 686, 687, 688, 689, 690, 691, 692, 693, 694, 695, 696, 697, 698, 699, 700, 701, 702, 703, 704, 705, 706, 707, 708, 709, 710, 711, 712, 713, 714, 715, 716, 717, 718, 719, 720, 721, 722, 723, 724, 725, 726, 727, 728, 729,
  730, 731, 732, 733, 734, 735, 736, 737, 738, 739, 740, 741, 742, 743, 744, 745, 746, 747, 748, 749, 750, 751, 752, 753, 754, 755, 756, 757, 758, 759, 760, 761, 762, 763, 764, 765, 766, 767, 768, 769, 770, 771, 772, 773, 774, 775, 776, 777, 778, 779, 780, 781, 782, 783, 784, 785, 786, 787, 788, 789, 790, 791, 792, 793, 794, 795, 796, 797, 798, 799, 800, 801, 802, 803, 804, 805, 806, 807, 808,
  809, 810, 811, 812, 813, 814, 815, 816, 817, 818, 819, 820, 821, 822, 823, 824, 825, 826, 827, 828, 829, 830, 831, 832, 833, 834, 835, 836, 837, 838, 839, 840, 841, 842, 843, 844, 845, 846, 847, 848, 849, 850, 851, 852, 853, 854, 855, 856, 857, 858, 859, 860, 861, 862, 863, 864, 865, 866, 867, 868, 869, 870, 871, 872, 873, 874, 875, 876, 877, 878, 879, 880, 881, 882, 883, 884, 885, 886, 887,
  888, 889, 890, 891, 892, 893, 894, 895, 896, 897, 898, 899, 900, 901, 902, 903, 904, 905, 906, 907, 908, 909, 910, 911, 912, 913, 914, 915, 916, 917, 918, 919, 920, 921, 922, 923, 924, 925, 926, 927, 928, 929, 930, 931, 932, 933, 934, 935, 936, 937, 938, 939, 940, 941, 942, 943, 944, 945, 946, 947, 948, 949, 950, 951, 952, 953, 954, 955, 956, 957, 958, 959, 960, 961, 962, 963, 964, 965, 966,
  967, 968, 969, 970, 971, 972, 973, 974, 975, 976, 977, 978, 979, 980, 981, 982, 983, 984, 985, 986, 987, 988, 989, 990, 991, 992, 993, 994, 995, 996, 997, 998, 999]

def fl (a : List (Nat × Value)) : List Nat → List Value → List Value
  | i :: is, x :: xs => match lka a i with
    | some v => v :: fl a is xs
    | none => x :: fl a is xs
  | _, xs => xs
/-- the frame, laid out -/
def Fr.all (F : Fr) : List Value := fl F.a ix F.b

theorem fl_get' (a : List (Nat × Value)) (l : List Value) : ∀ (is : List Nat) (t : Nat), (fl a is l)[t]? = (l[t]?).map fun x => match is[t]? with | some i => (lka a i).getD x | none => x := by
  induction l with
  | nil => intro is t; cases is <;> simp [fl]
  | cons x xs ih =>
    intro is t
    cases is with
    | nil => simp [fl]
    | cons i is =>
      unfold fl
      cases t with
      | zero => cases h : lka a i <;> simp [h]
      | succ t =>
        have := ih is t
        cases h : lka a i <;> simpa using this

theorem fl_len (a : List (Nat × Value)) (l : List Value) : ∀ is, (fl a is l).length = l.length := by
  induction l with
  | nil => intro is; cases is <;> rfl
  | cons x xs ih =>
    intro is
    cases is with
    | nil => rfl
    | cons i is =>
      unfold fl
      cases lka a i <;> simp [ih]

theorem ix_eq : ix = List.range 1000 := by decide +kernel
theorem fl_get (a : List (Nat × Value)) (l : List Value) (hl : l.length ≤ 1000) (t : Nat) : (fl a ix l)[t]? = (l[t]?).map fun x => (lka a t).getD x := by
  rw [fl_get']
  by_cases ht : t < l.length
  · have : ix[t]? = some t := by rw [ix_eq, List.getElem?_range (by omega)]
    rw [this]
  · rw [List.getElem?_eq_none (Nat.le_of_not_lt ht)]; rfl

theorem Fr.le (F : Fr) : F.b.length ≤ 1000 := by
  rw [F.h.1]; exact Nat.le_of_ble_eq_true F.h.2

theorem Fr.all_nil (l : List Value) (n : Nat) (h : l.length = n ∧ Nat.ble n 1000 = true) : (⟨[], l, n, h⟩ : Fr).all = l := by
  apply List.ext_getElem?
  intro i
  unfold Fr.all
  rw [fl_get _ _ (Fr.le ⟨[], l, n, h⟩)]
  simp [lka]

/-- An operand's value, so that it is reckoned when it is asked for. -/
def evo (F : Fr) : Operand → Option Value
  | .tmp t => match Nat.blt t F.n with
    | true => lk F.a F.b t
    | false => none
  | .const v => some v
  | .global g => some (.pointer (some ⟨g, 0, none⟩))
  | .func f => some (.func (.func f) #[] #[])

def evl (F : Fr) : Operand → Value
  | .tmp t => F.all.getD t undef
  | .const v => v
  | .global g => .pointer (some ⟨g, 0, none⟩)
  | .func f => .func (.func f) #[] #[]

theorem lk_eq (a : List (Nat × Value)) (l : List Value) (t : Nat) : lk a l t = match lka a t with | some v => some v | none => l[t]? := by
  induction a with
  | nil => rfl
  | cons p a ih =>
    obtain ⟨d, v⟩ := p
    unfold lk lka
    cases h : Nat.beq d t
    · exact ih
    · rfl

theorem evl_of {F : Fr} {x : Operand} {v : Value} (h : evo F x = some v) : evl F x = v := by
  cases x with
  | tmp t =>
    simp only [evo] at h
    split at h
    · rename_i hlt
      have ht : t < F.b.length := by rw [F.h.1]; exact (Nat.blt_eq ▸ hlt)
      rw [lk_eq] at h
      simp only [evl, Fr.all, List.getD_eq_getElem?_getD]
      rw [fl_get _ _ F.le, List.getElem?_eq_getElem ht]
      cases h2 : lka F.a t with
      | some u => rw [h2] at h; simp at h; simp [h]
      | none => rw [h2] at h; simp only [List.getElem?_eq_getElem ht, Option.some.injEq] at h; simp [h]
    · cases h
  | _ => simp only [evo, Option.some.injEq] at h; subst h; rfl

def Evs (F : Fr) : List Operand → List Value → Prop
  | [], [] => True
  | x :: xs, v :: vs => evo F x = some v ∧ Evs F xs vs
  | _, _ => False

theorem en {F : Fr} : Evs F [] [] := trivial
theorem ec {F : Fr} {x : Operand} {xs : List Operand} {v : Value} {vs : List Value} (h : evo F x = some v) (t : Evs F xs vs) : Evs F (x :: xs) (v :: vs) := ⟨h, t⟩

theorem Evs.map {F : Fr} : ∀ {xs : List Operand} {vs : List Value}, Evs F xs vs → xs.map (evl F) = vs
  | [], [], _ => rfl
  | _ :: _, _ :: _, ⟨h, hs⟩ => by rw [List.map_cons, evl_of h, hs.map]
  | [], _ :: _, h => h.elim
  | _ :: _, [], h => h.elim

theorem eval_evl (F : Fr) : Act.eval ⟨F.all.toArray, []⟩ = evl F := by
  funext x
  cases x with
  | tmp t => simp [Act.eval, evl, List.getD_eq_getElem?_getD]
  | _ => rfl

/-- a frame, some slots of which hold something else -/
def ovr : List Value → List (Option Value) → List Value
  | x :: xs, none :: ps => x :: ovr xs ps
  | _ :: xs, some v :: ps => v :: ovr xs ps
  | xs, _ => xs
abbrev N_ : Option Value := none
abbrev Y_ (v : Value) : Option Value := some v

def putl (F : Fr) : Option Tmp → Value → Fr
  | some d, v => ⟨(d, v) :: F.a, F.b, F.n, F.h⟩
  | none, _ => F

theorem put_putl (F : Fr) (d : Option Tmp) (v : Value) : Act.put ⟨F.all.toArray, []⟩ d v = ⟨(putl F d v).all.toArray, []⟩ := by
  cases d with
  | none => rfl
  | some d =>
    simp only [Act.put, putl, List.setIfInBounds_toArray, Act.mk.injEq, and_true]
    congr 1
    apply List.ext_getElem?
    intro t
    unfold Fr.all
    rw [List.getElem?_set, fl_get _ _ F.le, fl_get _ _ F.le, fl_len]
    simp only [lka]
    by_cases h : d = t
    · subst h
      rw [if_pos rfl, show Nat.beq d d = true from Nat.beq_refl d]
      by_cases hlt : d < F.b.length
      · rw [if_pos hlt, List.getElem?_eq_getElem hlt]; rfl
      · rw [if_neg hlt, List.getElem?_eq_none (Nat.le_of_not_lt hlt)]; rfl
    · rw [if_neg h]
      have : Nat.beq d t = false := by
        cases hb : Nat.beq d t
        · rfl
        · exact absurd (Nat.eq_of_beq_eq_true hb) h
      rw [this]

/-! ### Control -/

section
variable {P : Program} {Q : Exit → Act → World → Prop} {l l' : List Value} {F : Fr} {w w' : World}

theorem c_enter {f : FuncId} {fn : Func} {c : Code} {args : List Value} {R : Ending → World → Prop} {n : Nat} (hf : P.funcs[f]? = some fn) (hn : fn.ntmps = n) (hb : fn.body = some c)
    (hl : args ++ List.replicate (n - args.length) undef = l) (h : c.wp P (bodyPost P fn R) ⟨l.toArray, []⟩ w) : Calls P f args.toArray w R := by
  refine calls_of_wp hf hb ?_
  subst hl hn
  have e : args.toArray ++ Array.replicate (fn.ntmps - args.toArray.size) undef = (args ++ List.replicate (fn.ntmps - args.length) undef).toArray := by simp
  rw [e]
  exact h

/-- a list of operations, at a frame -/
@[irreducible] def WL (P : Program) (ops : Array Oper) (Q : Exit → Act → World → Prop) (rest : List Oper) (F : Fr) (w : World) : Prop := wpList P ops Q rest ⟨F.all.toArray, []⟩ w

theorem c_region {id n : Nat} {ops : List Oper} (hn : l.length = n ∧ Nat.ble n 1000 = true) (h : WL P ops.toArray Q ops ⟨[], l, n, hn⟩ w) : (Code.region id ops.toArray false).wp P Q ⟨l.toArray, []⟩ w := by
  unfold WL at h
  rw [Fr.all_nil] at h
  exact wp_region_lit h

/-- A region, then what is behind it. -/
theorem c_rseq {id n : Nat} {ops : List Oper} {y : Code} (hn : l.length = n ∧ Nat.ble n 1000 = true) (h : WL P ops.toArray (Exit.then (y.wp P Q) Q) ops ⟨[], l, n, hn⟩ w) : (Code.seq (Code.region id ops.toArray false) y).wp P Q ⟨l.toArray, []⟩ w :=
  wp_seq (c_region hn h)

theorem c_seq {x y : Code} (h : x.wp P (Exit.then (y.wp P Q) Q) ⟨l.toArray, []⟩ w) : (Code.seq x y).wp P Q ⟨l.toArray, []⟩ w := wp_seq h

/-- A list of operations is at its end; what is behind it. -/
theorem c_nil {ops : Array Oper} {y : Code} (hl : F.all = l') (h : y.wp P Q ⟨l'.toArray, []⟩ w) : WL P ops (Exit.then (y.wp P Q) Q) [] F w := by subst hl; unfold WL; exact h

theorem c_nil0 {ops : Array Oper} (hl : F.all = l') (h : Q .normal ⟨l'.toArray, []⟩ w) : WL P ops Q [] F w := by subst hl; unfold WL; exact h

/-- an operand's value, at a jump -/
def evj (l : List Value) : Operand → Option Value
  | .tmp t => l[t]?
  | .const v => some v
  | .global g => some (.pointer (some ⟨g, 0, none⟩))
  | .func f => some (.func (.func f) #[] #[])
theorem evj_of {c : Operand} {v : Value} (h : evj l c = some v) : Act.eval ⟨l.toArray, []⟩ c = v := by
  cases c with
  | tmp t => simp only [evj] at h; simp [Act.eval, h]
  | _ => simp only [evj, Option.some.injEq] at h; subst h; rfl

theorem c_if {c : Operand} {x y : Code} {p : Prop} [Decidable p] (hc : evj l c = some (.bool (decide p))) (ht : p → x.wp P Q ⟨l.toArray, []⟩ w) (hf : ¬ p → y.wp P Q ⟨l.toArray, []⟩ w) : (Code.cond c x y).wp P Q ⟨l.toArray, []⟩ w := by
  refine wp_cond_split (t := decide p) (evj_of hc) (fun h => ht (of_decide_eq_true h)) (fun h => hf (of_decide_eq_false h))

theorem c_ifb {c : Operand} {x y : Code} {b : Bool} (hc : evj l c = some (.bool b)) (ht : b = true → x.wp P Q ⟨l.toArray, []⟩ w) (hf : b = false → y.wp P Q ⟨l.toArray, []⟩ w) : (Code.cond c x y).wp P Q ⟨l.toArray, []⟩ w :=
  wp_cond_split (evj_of hc) ht hf

theorem c_ift {c : Operand} {x y : Code} (hc : evj l c = some (.bool true)) (h : x.wp P Q ⟨l.toArray, []⟩ w) : (Code.cond c x y).wp P Q ⟨l.toArray, []⟩ w :=
  wp_cond_true (evj_of hc) h

theorem c_iff {c : Operand} {x y : Code} (hc : evj l c = some (.bool false)) (h : y.wp P Q ⟨l.toArray, []⟩ w) : (Code.cond c x y).wp P Q ⟨l.toArray, []⟩ w :=
  wp_cond_false (evj_of hc) h

/-- The ways through x meet in M. -/
theorem c_cut {x y : Code} (M : List Value → List Value → World → Prop) (hx : x.wp P (Exit.then (fun a w' => ∃ l', a = ⟨l'.toArray, []⟩ ∧ M l l' w') Q) ⟨l.toArray, []⟩ w)
    (hy : ∀ l' w', M l l' w' → y.wp P Q ⟨l'.toArray, []⟩ w') : (Code.seq x y).wp P Q ⟨l.toArray, []⟩ w := by
  refine wp_seq (wp_mono hx fun e a w' h => ?_)
  cases e with
  | normal => obtain ⟨l', rfl, hM⟩ := h; exact hy l' w' hM
  | _ => exact h

theorem c_loop {c : Code} {τ : Type} (I : List Value → τ → List Value → World → Prop) (μ : τ → Nat) (t0 : τ) (h0 : I l t0 l w)
    (round : ∀ t l' w', I l t l' w' → c.wp P (Exit.then (fun a w'' => ∃ t' l'', a = ⟨l''.toArray, []⟩ ∧ I l t' l'' w'' ∧ μ t' < μ t) Q) ⟨l'.toArray, []⟩ w') :
    (Code.loop c).wp P Q ⟨l.toArray, []⟩ w := by
  intro b k cs
  have key : ∀ n t l' w', μ t = n → I l t l' w' →
      ∃ e a' w'', Q e a' w'' ∧ Arrives P (lone (b.at ⟨l'.toArray, []⟩ (.code c :: .inLoop c :: k)) cs w') b k cs e a' w'' := by
    intro n
    induction n using Nat.strongRecOn with
    | _ n ih =>
      intro t l' w' hn hI
      obtain ⟨e, a₁, w₁, hq, harr⟩ := round t l' w' hI b (.inLoop c :: k) cs
      cases e with
      | normal =>
        obtain ⟨t', l'', rfl, hI₁, hlt⟩ := hq
        obtain ⟨e₂, a₂, w₂, hq₂, harr₂⟩ := ih (μ t') (hn ▸ hlt) t' l'' w₁ rfl hI₁
        exact ⟨e₂, a₂, w₂, hq₂, .of_steps (Steps.trans harr (.one step_inLoop)) harr₂⟩
      | exit id => exact ⟨_, a₁, w₁, hq, .pass (x := .inLoop c) rfl (fun _ _ => .inl (by simp)) harr⟩
      | goto l => exact ⟨_, a₁, w₁, hq, .pass (x := .inLoop c) rfl (fun _ _ => .inl (by simp)) harr⟩
      | ret => exact ⟨_, a₁, w₁, hq, .pass (x := .inLoop c) rfl (fun _ _ => .inl (by simp)) harr⟩
      | panic ch => exact ⟨_, a₁, w₁, hq, .pass (x := .inLoop c) rfl (fun _ _ => .inl (by simp)) harr⟩
      | outgrown => exact ⟨_, a₁, w₁, hq, .pass (x := .inLoop c) rfl (fun _ _ => .inl (by simp)) harr⟩
  obtain ⟨e, a', w'', hq, harr⟩ := key _ t0 l w rfl h0
  exact ⟨e, a', w'', hq, .of_steps (.one step_loop) harr⟩

/-! where a way out goes -/
theorem x_then {K : Act → World → Prop} {e : Exit} {a : Act} (he : e ≠ .normal) (h : Q e a w) : Exit.then K Q e a w := by cases e <;> first | exact h | exact absurd rfl he
theorem x_thenExit {K : Act → World → Prop} {id : Nat} {a : Act} (h : Q (.exit id) a w) : Exit.then K Q (.exit id) a w := h
theorem x_thenRet {K : Act → World → Prop} {a : Act} (h : Q .ret a w) : Exit.then K Q .ret a w := h
theorem x_thenNormal {K : Act → World → Prop} {a : Act} (h : K a w) : Exit.then K Q .normal a w := h
theorem x_blockHit {id : Nat} {a : Act} (h : Q .normal a w) : Exit.inBlock id Q (.exit id) a w := by simp only [Exit.inBlock, if_true]; exact h
theorem x_blockMiss {id id' : Nat} {a : Act} (hn : id' ≠ id) (h : Q (.exit id') a w) : Exit.inBlock id Q (.exit id') a w := by simp only [Exit.inBlock, if_neg hn]; exact h
theorem x_blockRet {id : Nat} {a : Act} (h : Q .ret a w) : Exit.inBlock id Q .ret a w := h
theorem x_blockNormal {id : Nat} {a : Act} (h : Q .normal a w) : Exit.inBlock id Q .normal a w := h

/-! the end of a body -/
theorem e_ret {fn : Func} {R : Ending → World → Prop} {v : Value} (hr : (results fn l.toArray).run P w = .ok v w) (h : R (.returned v) w) : bodyPost P fn R .ret ⟨l.toArray, []⟩ w := ⟨rfl, v, hr, h⟩
theorem e_end {fn : Func} {R : Ending → World → Prop} {v : Value} (hr : (results fn l.toArray).run P w = .ok v w) (h : R (.returned v) w) : bodyPost P fn R .normal ⟨l.toArray, []⟩ w := ⟨rfl, v, hr, h⟩

theorem res0 {fn : Func} (h : fn.results = #[]) : (results fn l.toArray).run P w = .ok (.tuple #[]) w := by simp [results, h]
theorem res1 {fn : Func} {t : Tmp} {v : Value} (h : fn.results = #[.tmp t]) (hv : l[t]? = some v) : (results fn l.toArray).run P w = .ok v w := by
  simp [results, h, hv]
theorem res2 {fn : Func} {t u : Tmp} {v1 v2 : Value} (h : fn.results = #[.tmp t, .tmp u]) (h1 : l[t]? = some v1) (h2 : l[u]? = some v2) : (results fn l.toArray).run P w = .ok (.tuple #[v1, v2]) w := by
  simp [results, h, h1, h2]

/-! ### One operation -/

variable {ops : Array Oper} {rest : List Oper} {op : Op} {ty : TypeId} {pos : String} {after : Array Edge}

theorem evl_guardOk {g : Nat} {t : Tmp} {b : Bool} (ht : (ops[g]?).bind (·.dst) = some t) (hb : evo F (.tmp t) = some (.bool b)) :
    yielded ops F.all.toArray g = some b := by
  have hb := evl_of hb
  unfold yielded
  rw [ht]
  simp only [Option.bind_some, List.getElem?_toArray]
  simp only [evl] at hb
  rw [List.getD_eq_getElem?_getD] at hb
  cases h : F.all[t]? with
  | none => rw [h] at hb; simp [undef] at hb
  | some v => rw [h] at hb; simp at hb; subst hb; rfl
theorem evl_guardU {g : Nat} {t : Tmp} (ht : (ops[g]?).bind (·.dst) = some t) (hb : evo F (.tmp t) = some undef) :
    yielded ops F.all.toArray g = none := by
  have hb := evl_of hb
  unfold yielded
  rw [ht]
  simp only [Option.bind_some, List.getElem?_toArray]
  simp only [evl] at hb
  rw [List.getD_eq_getElem?_getD] at hb
  cases h : F.all[t]? with
  | none => rfl
  | some v => rw [h] at hb; simp at hb; subst hb; rfl

/-- A value. -/
theorem s_val {d : Option Tmp} {v : Value} (hr : (execOp (evl F) ⟨d, op, ty, pos, after, none⟩).run P w = .ok (.value v) w') (k : WL P ops Q rest (putl F d v) w') :
    WL P ops Q (⟨d, op, ty, pos, after, none⟩ :: rest) F w := by
  unfold WL at k ⊢
  unfold wpList
  rw [if_pos (by simp [Region.wanted])]
  refine .inl ?_
  unfold Oper.wp
  rw [eval_evl, hr, Oper.upon_value, put_putl]
  exact k

theorem s_skip {d : Option Tmp} (hr : (execOp (evl F) ⟨d, op, ty, pos, after, none⟩).run P w = .ok .skip w') (k : WL P ops Q rest (putl F d undef) w') :
    WL P ops Q (⟨d, op, ty, pos, after, none⟩ :: rest) F w := by
  unfold WL at k ⊢
  unfold wpList
  rw [if_pos (by simp [Region.wanted])]
  refine .inl ?_
  unfold Oper.wp
  rw [eval_evl, hr, Oper.upon_skip, put_putl]
  exact k

/-- A test that is asked for again, by a guard or a jump: the ways part here. -/
theorem s_test {d : Option Tmp} {p : Prop} [Decidable p] (hr : (execOp (evl F) ⟨d, op, ty, pos, after, none⟩).run P w = .ok (.value (.bool (decide p))) w)
    (kt : p → WL P ops Q rest (putl F d (.bool true)) w) (kf : ¬ p → WL P ops Q rest (putl F d (.bool false)) w) :
    WL P ops Q (⟨d, op, ty, pos, after, none⟩ :: rest) F w := by
  refine s_val hr ?_
  by_cases h : p
  · rw [decide_eq_true h]; exact kt h
  · rw [decide_eq_false h]; exact kf h

theorem s_testb {d : Option Tmp} {b : Bool} (hr : (execOp (evl F) ⟨d, op, ty, pos, after, none⟩).run P w = .ok (.value (.bool b)) w)
    (kt : b = true → WL P ops Q rest (putl F d (.bool true)) w) (kf : b = false → WL P ops Q rest (putl F d (.bool false)) w) :
    WL P ops Q (⟨d, op, ty, pos, after, none⟩ :: rest) F w := by
  refine s_val hr ?_
  cases b
  · exact kf rfl
  · exact kt rfl

/-- The guard says no. -/
theorem g_no {d : Option Tmp} {g : Nat} {want b : Bool} {t : Tmp} (ht : (ops[g]?).bind (·.dst) = some t) (hb : evo F (.tmp t) = some (.bool b)) (hne : b ≠ want) (k : WL P ops Q rest (putl F d undef) w) :
    WL P ops Q (⟨d, op, ty, pos, after, some (g, want)⟩ :: rest) F w := by
  unfold WL at k ⊢
  unfold wpList
  rw [if_neg (by simp only [Region.wanted]; rw [evl_guardOk ht hb]; simpa using hne)]
  rw [put_putl]
  exact k

/-- The guard, in turn, was passed over. -/
theorem g_undef {d : Option Tmp} {g : Nat} {want : Bool} {t : Tmp} (ht : (ops[g]?).bind (·.dst) = some t) (hb : evo F (.tmp t) = some undef) (k : WL P ops Q rest (putl F d undef) w) :
    WL P ops Q (⟨d, op, ty, pos, after, some (g, want)⟩ :: rest) F w := by
  have hy : yielded ops F.all.toArray g = none := evl_guardU ht hb
  unfold WL at k ⊢
  unfold wpList
  rw [if_neg (by simp only [Region.wanted]; rw [hy]; simp)]
  rw [put_putl]
  exact k

/-- The guard says yes: as if there were none. -/
theorem g_yes {d : Option Tmp} {g : Nat} {want : Bool} {t : Tmp} (ht : (ops[g]?).bind (·.dst) = some t) (hb : evo F (.tmp t) = some (.bool want)) (k : WL P ops Q (⟨d, op, ty, pos, after, none⟩ :: rest) F w) :
    WL P ops Q (⟨d, op, ty, pos, after, some (g, want)⟩ :: rest) F w := by
  unfold WL wpList at k ⊢
  rw [if_pos (by simp [Region.wanted])] at k
  rw [if_pos (by simp only [Region.wanted]; rw [evl_guardOk ht hb]; simp)]
  exact k

/-- A call of a Go function. -/
theorem s_call {d : Option Tmp} {f : FuncId} {args : Array Value} {R : Value → World → Prop} (hr : (execOp (evl F) ⟨d, op, ty, pos, after, none⟩).run P w = .ok (.enter f args) w)
    (hc : Calls P f args w fun e w' => ∃ v, e = .returned v ∧ R v w') (k : ∀ v w', R v w' → WL P ops Q rest (putl F d v) w') :
    WL P ops Q (⟨d, op, ty, pos, after, none⟩ :: rest) F w := by
  unfold WL wpList
  rw [if_pos (by simp [Region.wanted])]
  refine .inl ?_
  unfold Oper.wp
  rw [eval_evl, hr, Oper.upon_enter]
  refine hc.mono fun e w' h => ?_
  obtain ⟨v, rfl, hR⟩ := h
  simp only []
  rw [put_putl]
  have k := k v w' hR
  unfold WL at k
  exact k

end
end Go.Er
