import Derived.WalkKit
import Derived.OrdersHeld
import Derived.Shelf.Abstract
import Derived.Laws.BytesString
import Derived.Laws.MakeOwn
import Derived.RangeFuncBox
import Derived.Laws.StructEq
import Derived.Stop.BytesEq
import Derived.RangeFuncIn
import Derived.RangeFuncRecord
import Derived.RangeFuncCalls
import Derived.RangeFuncLeaves
import Derived.Lib.TrailingZeros
import Derived.Laws.Externs
import Derived.Lib.Overlaps
import Derived.Maps.RangeRun
/-
  The words of our own walk: the state of memory as a list of owned blocks ('St'), and one law for each way of control.
-/
namespace Go.Er
open Go

/-! ### The state of memory -/

/-- Memory 'w', come from 'w0': blocks that were there are as they were, but for those of 'X'; each block of 'L' (new ones, or of 'X') holds what L says. -/
structure St (w0 : World) (X : List Nat) (w : World) (L : List (Nat × Obj)) : Prop where
  os : w.os = w0.os
  tape : w.tape = w0.tape
  output : w.output = w0.output
  size : w0.heap.size ≤ w.heap.size
  drawn : w0.drawn ≤ w.drawn
  old : ∀ b, b < w0.heap.size → b ∉ X → w.heap[b]? = w0.heap[b]?
  own : ∀ p ∈ L, w.heap[p.1]? = some p.2
  nodup : (L.map (·.1)).Nodup
  fresh : ∀ p ∈ L, w0.heap.size ≤ p.1 ∨ p.1 ∈ X

theorem lt_of_heap {w : World} {b : Nat} {o : Obj} (h : w.heap[b]? = some o) : b < w.heap.size := by
  rcases Nat.lt_or_ge b w.heap.size with h' | h'
  · exact h'
  · rw [Array.getElem?_eq_none h'] at h; cases h

theorem St.refl (w : World) : St w [] w [] :=
  ⟨rfl, rfl, rfl, Nat.le_refl _, Nat.le_refl _, fun _ _ _ => rfl, fun _ h => (nomatch h), List.nodup_nil, fun _ h => (nomatch h)⟩

theorem St.start {w : World} {L : List (Nat × Obj)} (h : ∀ p ∈ L, w.heap[p.1]? = some p.2) (hn : (L.map (·.1)).Nodup) : St w (L.map (·.1)) w L :=
  ⟨rfl, rfl, rfl, Nat.le_refl _, Nat.le_refl _, fun _ _ _ => rfl, h, hn, fun _ hp => .inr (List.mem_map_of_mem hp)⟩

theorem St.drew {w0 w : World} {X : List Nat} {L : List (Nat × Obj)} (h : St w0 X w L) {n : Nat} (hn : w.drawn ≤ n) : St w0 X { w with drawn := n } L :=
  ⟨h.os, h.tape, h.output, h.size, Nat.le_trans h.drawn hn, h.old, h.own, h.nodup, h.fresh⟩

theorem St.lt {w0 w : World} {X : List Nat} {L : List (Nat × Obj)} (h : St w0 X w L) {p : Nat × Obj} (hp : p ∈ L) : p.1 < w.heap.size :=
  lt_of_heap (h.own p hp)

/-- A block that is read, and was there, and is none of X. -/
theorem St.rd {w0 w : World} {X : List Nat} {L : List (Nat × Obj)} (h : St w0 X w L) {b : Nat} {o : Obj} (hb : w0.heap[b]? = some o) (hX : b ∉ X) : w.heap[b]? = some o :=
  (h.old b (lt_of_heap hb) hX).trans hb

theorem St.rd0 {w0 w : World} {L : List (Nat × Obj)} (h : St w0 [] w L) {b : Nat} {o : Obj} (hb : w0.heap[b]? = some o) : w.heap[b]? = some o :=
  h.rd hb (by simp)

/-- Block number k of the list. -/
theorem St.at {w0 w : World} {X : List Nat} {L : List (Nat × Obj)} (h : St w0 X w L) (k : Nat) {b : Nat} {o : Obj} (hk : L[k]? = some (b, o)) : w.heap[b]? = some o :=
  h.own (b, o) (List.mem_of_getElem? hk)

theorem St.alloc {w0 w : World} {X : List Nat} {L : List (Nat × Obj)} (h : St w0 X w L) (o : Obj) : St w0 X { w with heap := w.heap.push o } ((w.heap.size, o) :: L) := by
  refine ⟨h.os, h.tape, h.output, ?_, h.drawn, ?_, ?_, ?_, ?_⟩
  · simp only [Array.size_push]; have := h.size; omega
  · intro b hb hX
    have := h.size
    simp only [Array.getElem?_push]
    rw [if_neg (by omega)]
    exact h.old b hb hX
  · intro p hp
    simp only [Array.getElem?_push]
    rcases List.mem_cons.1 hp with rfl | hp
    · simp
    · have := h.lt hp
      rw [if_neg (by omega)]
      exact h.own p hp
  · simp only [List.map_cons, List.nodup_cons]
    refine ⟨?_, h.nodup⟩
    intro hm
    obtain ⟨p, hp, he⟩ := List.mem_map.1 hm
    have := h.lt hp
    omega
  · intro p hp
    rcases List.mem_cons.1 hp with rfl | hp
    · exact .inl h.size
    · exact h.fresh p hp

/-- Block number k holds another thing, of the same kind or not: a law on heaps. -/
theorem St.put {w0 w w' : World} {X : List Nat} {L : List (Nat × Obj)} (h : St w0 X w L) (k : Nat) {b : Nat} {o o' : Obj} (hk : L[k]? = some (b, o))
    (ho : w'.os = w.os) (ht : w'.tape = w.tape) (hu : w'.output = w.output) (hdr : w'.drawn = w.drawn) (hs : w'.heap.size = w.heap.size) (hb : w'.heap[b]? = some o') (hr : ∀ c, c ≠ b → w'.heap[c]? = w.heap[c]?) : St w0 X w' (L.set k (b, o')) := by
  have hkl : k < L.length := by
    rcases Nat.lt_or_ge k L.length with h' | h'
    · exact h'
    · rw [List.getElem?_eq_none h'] at hk; cases hk
  have hmem : (b, o) ∈ L := List.mem_of_getElem? hk
  have hkeys : (L.set k (b, o')).map (·.1) = L.map (·.1) := by
    rw [List.map_set]
    apply List.ext_getElem?
    intro i
    rw [List.getElem?_set]
    split
    · rename_i e; subst e
      split
      · simp [hk]
      · rename_i h2; simp at h2; simp [List.getElem?_eq_none h2]
    · rfl
  refine ⟨ho.trans h.os, ht.trans h.tape, hu.trans h.output, by rw [hs]; exact h.size, by rw [hdr]; exact h.drawn, ?_, ?_, by rw [hkeys]; exact h.nodup, ?_⟩
  · intro c hc hX
    rw [hr c ?_]
    · exact h.old c hc hX
    · rintro rfl
      rcases h.fresh _ hmem with h1 | h1
      · simp at h1; omega
      · exact hX h1
  · intro p hp
    rcases List.mem_or_eq_of_mem_set hp with hp' | rfl
    · by_cases e : p.1 = b
      · -- the same key: it is the new one
        obtain ⟨i, hi⟩ := List.mem_iff_getElem?.1 hp
        rw [List.getElem?_set] at hi
        by_cases hik : k = i
        · subst hik
          rw [if_pos rfl, if_pos hkl] at hi
          cases hi
          exact hb
        · rw [if_neg hik] at hi
          exfalso
          have hn := h.nodup
          have hi' : i < L.length := by
            rcases Nat.lt_or_ge i L.length with h' | h'
            · exact h'
            · rw [List.getElem?_eq_none h'] at hi; cases hi
          have h1 : (L.map (·.1))[k]? = some b := by simp [hk]
          have h2 : (L.map (·.1))[i]? = some b := by simp [hi, e]
          exact hik ((List.getElem?_inj (by simpa using hkl) hn).1 (h1.trans h2.symm))
      · rw [hr _ e]; exact h.own p hp'
    · exact hb
  · intro p hp
    rcases List.mem_or_eq_of_mem_set hp with hp' | rfl
    · exact h.fresh p hp'
    · exact h.fresh (b, o) hmem

theorem St.sub {w0 w : World} {X : List Nat} {L L' : List (Nat × Obj)} (h : St w0 X w L) (hs : L'.Sublist L) : St w0 X w L' :=
  ⟨h.os, h.tape, h.output, h.size, h.drawn, h.old, fun p hp => h.own p (hs.subset hp), (hs.map _).nodup h.nodup, fun p hp => h.fresh p (hs.subset hp)⟩

theorem St.perm {w0 w : World} {X : List Nat} {L L' : List (Nat × Obj)} (h : St w0 X w L) (hs : L'.Perm L) : St w0 X w L' :=
  ⟨h.os, h.tape, h.output, h.size, h.drawn, h.old, fun p hp => h.own p (hs.subset hp), (hs.map _).nodup_iff.2 h.nodup, fun p hp => h.fresh p (hs.subset hp)⟩

def swp {α : Type} : Nat → List α → List α
  | 0, a :: b :: l => b :: a :: l
  | k + 1, a :: l => a :: swp k l
  | _, l => l
theorem swp_perm {α : Type} : ∀ (k : Nat) (l : List α), (swp k l).Perm l
  | 0, [] => .refl _
  | 0, [_] => .refl _
  | 0, a :: b :: l => .swap a b l
  | _ + 1, [] => .refl _
  | k + 1, a :: l => .cons a (swp_perm k l)
theorem St.swp {w0 w : World} {X : List Nat} {L L' : List (Nat × Obj)} (h : St w0 X w L) (k : Nat) (hL : swp k L = L') : St w0 X w L' := by
  subst hL; exact h.perm (swp_perm k L)

/-- Behind a call: it was handed the blocks F, and nothing else of L was touched. -/
theorem St.call {w0 w w' : World} {X : List Nat} {F L N : List (Nat × Obj)} (h : St w0 X w (F ++ L)) (hc : St w (F.map (·.1)) w' N) : St w0 X w' (N ++ L) := by
  have hn := h.nodup
  rw [List.map_append, List.nodup_append] at hn
  obtain ⟨_, hnL, hdis⟩ := hn
  have hlt : ∀ p ∈ L, p.1 < w.heap.size := fun p hp => h.lt (List.mem_append_right _ hp)
  have hkeep : ∀ p ∈ L, p.1 ∉ F.map (·.1) := fun p hp hm => hdis _ hm _ (List.mem_map_of_mem hp) rfl
  refine ⟨hc.os.trans h.os, hc.tape.trans h.tape, hc.output.trans h.output, Nat.le_trans h.size hc.size, Nat.le_trans h.drawn hc.drawn, ?_, ?_, ?_, ?_⟩
  · intro b hb hX
    rw [hc.old b (Nat.lt_of_lt_of_le hb h.size) ?_]
    · exact h.old b hb hX
    · intro hm
      obtain ⟨p, hp, rfl⟩ := List.mem_map.1 hm
      rcases h.fresh p (List.mem_append_left _ hp) with h1 | h1
      · omega
      · exact hX h1
  · intro p hp
    rcases List.mem_append.1 hp with hp | hp
    · exact hc.own p hp
    · rw [hc.old _ (hlt p hp) (hkeep p hp)]; exact h.own p (List.mem_append_right _ hp)
  · rw [List.map_append, List.nodup_append]
    refine ⟨hc.nodup, hnL, ?_⟩
    intro a ha b hb hab
    subst hab
    obtain ⟨p, hp, rfl⟩ := List.mem_map.1 ha
    obtain ⟨q, hq, he⟩ := List.mem_map.1 hb
    have := hlt q hq
    rcases hc.fresh p hp with h1 | h1
    · omega
    · rw [← he] at h1; exact hkeep q hq h1
  · intro p hp
    rcases List.mem_append.1 hp with hp | hp
    · rcases hc.fresh p hp with h1 | h1
      · exact .inl (Nat.le_trans h.size h1)
      · obtain ⟨q, hq, he⟩ := List.mem_map.1 h1
        rw [← he]
        exact h.fresh q (List.mem_append_left _ hq)
    · exact h.fresh p (List.mem_append_right _ hp)

/-- Behind a call that was handed no block to write. -/
theorem St.call0 {w0 w w' : World} {X : List Nat} {L N : List (Nat × Obj)} (h : St w0 X w L) (hc : St w [] w' N) : St w0 X w' (N ++ L) :=
  St.call (F := []) h hc

/-- What w holds in the blocks of N. -/
structure Own (w : World) (N : List (Nat × Obj)) : Prop where
  own : ∀ p ∈ N, w.heap[p.1]? = some p.2
  nodup : (N.map (·.1)).Nodup
theorem Own.st {w : World} {N : List (Nat × Obj)} (h : Own w N) : St w (N.map (·.1)) w N := St.start h.own h.nodup
theorem St.owns {w0 w : World} {X : List Nat} {L N : List (Nat × Obj)} (h : St w0 X w (L ++ N)) : Own w N :=
  ⟨fun p hp => h.own p (List.mem_append_right _ hp), by have := h.nodup; rw [List.map_append, List.nodup_append] at this; exact this.2.1⟩
/-- the same, the blocks handed over standing behind -/
theorem St.callr {w0 w w' : World} {X : List Nat} {F L N : List (Nat × Obj)} (h : St w0 X w (L ++ F)) (hc : St w (F.map (·.1)) w' N) : St w0 X w' (L ++ N) :=
  (St.call (h.perm List.perm_append_comm) hc).perm List.perm_append_comm
theorem St.ownNil {w : World} : Own w [] := ⟨fun _ h => (nomatch h), List.nodup_nil⟩

theorem St.quiet {w0 w w' : World} {X : List Nat} {L : List (Nat × Obj)} (h : St w0 X w L) (hc : St w [] w' []) : St w0 X w' L := by
  have := h.call0 hc
  simpa using this

theorem St.below {w0 w : World} {L : List (Nat × Obj)} (h : St w0 [] w L) : RowKit.Below w0.heap.size w0 w :=
  ⟨h.os, h.tape, h.output, h.size, fun k hk => h.old k hk (by simp)⟩

/-! ### Frames -/

/-- A frame within a list of operations: what has been written since, and what stood at its head. -/
structure Fr where
  a : List (Nat × Value)
  b : List Value
  n : Nat
  h : b.length = n ∧ Nat.ble n 1000 = true

def lka : List (Nat × Value) → Nat → Option Value
  | [], _ => none
  | (d, v) :: r, t => match Nat.beq d t with
    | true => some v
    | false => lka r t
def lk : List (Nat × Value) → List Value → Nat → Option Value
  | [], l, t => l[t]?
  | (d, v) :: r, l, t => match Nat.beq d t with
    | true => some v
    | false => lk r l t

/-- the slots' numbers, written out: so that each is a numeral when it is compared -/
def ix : List Nat := [0, 1, 2, 3, 4, 5, 6, 7, 8, 9, 10, 11, 12, 13, 14, 15, 16, 17, 18, 19, 20, 21, 22, 23, 24, 25, 26, 27, 28, 29, 30, 31, 32, 33, 34, 35, 36, 37, 38, 39, 40, 41, 42, 43, 44, 45, 46, 47, 48, 49, 50, 51, 52, 53, 54, 55, 56, 57, 58, 59, 60, 61, 62, 63, 64, 65, 66, 67, 68, 69, 70, 71, 72, 73, 74, 75, 76, 77, 78, 79, 80, 81, 82, 83, 84, 85, 86, 87, 88, 89, 90, 91, 92, 93, 94, 95, 96,
  97, 98, 99, 100, 101, 102, 103, 104, 105, 106, 107, 108, 109, 110, 111, 112, 113, 114, 115, 116, 117, 118, 119, 120, 121, 122, 123, 124, 125, 126, 127, 128, 129, 130, 131, 132, 133, 134, 135, 136, 137, 138, 139, 140, 141, 142, 143, 144, 145, 146, 147, 148, 149, 150, 151, 152, 153, 154, 155, 156, 157, 158, 159, 160, 161, 162, 163, 164, 165, 166, 167, 168, 169, 170, 171, 172, 173, 174, 175, 176,
  177, 178, 179, 180, 181, 182, 183, 184, 185, 186, 187, 188, 189, 190, 191, 192, 193, 194, 195, 196, 197, 198, 199, 200, 201, 202, 203, 204, 205, 206, 207, 208, 209, 210, 211, 212, 213, 214, 215, 216, 217, 218, 219, 220, 221, 222, 223, 224, 225, 226, 227, 228, 229, 230, 231, 232, 233, 234, 235, 236, 237, 238, 239, 240, 241, 242, 243, 244, 245, 246, 247, 248, 249, 250, 251, 252, 253, 254, 255,
  256, 257, 258, 259, 260, 261, 262, 263, 264, 265, 266, 267, 268, 269, 270, 271, 272, 273, 274, 275, 276, 277, 278, 279, 280, 281, 282, 283, 284, 285, 286, 287, 288, 289, 290, 291, 292, 293, 294, 295, 296, 297, 298, 299, 300, 301, 302, 303, 304, 305, 306, 307, 308, 309, 310, 311, 312, 313, 314, 315, 316, 317, 318, 319, 320, 321, 322, 323, 324, 325, 326, 327, 328, 329, 330, 331, 332, 333, 334,
  335, 336, 337, 338, 339, 340, 341, 342, 343, 344, 345, 346, 347, 348, 349, 350, 351, 352, 353, 354, 355, 356, 357, 358, 359, 360, 361, 362, 363, 364, 365, 366, 367, 368, 369, 370, 371, 372, 373, 374, 375, 376, 377, 378, 379, 380, 381, 382, 383, 384, 385, 386, 387, 388, 389, 390, 391, 392, 393, 394, 395, 396, 397, 398, 399, 400, 401, 402, 403, 404, 405, 406, 407, 408, 409, 410, 411, 412, 413,
  414, 415, 416, 417, 418, 419, 420, 421, 422, 423, 424, 425, 426, 427, 428, 429, 430, 431, 432, 433, 434, 435, 436, 437, 438, 439, 440, 441, 442, 443, 444, 445, 446, 447, 448, 449, 450, 451, 452, 453, 454, 455, 456, 457, 458, 459, 460, 461, 462, 463, 464, 465, 466, 467, 468, 469, 470, 471, 472, 473, 474, 475, 476, 477, 478, 479, 480, 481, 482, 483, 484, 485, 486, 487, 488, 489, 490, 491, 492,
  493, 494, 495, 496, 497, 498, 499, 500, 501, 502, 503, 504, 505, 506, 507, 508, 509, 510, 511, 512, 513, 514, 515, 516, 517, 518, 519, 520, 521, 522, 523, 524, 525, 526, 527, 528, 529, 530, 531, 532, 533, 534, 535, 536, 537, 538, 539, 540, 541, 542, 543, 544, 545, 546, 547, 548, 549, 550, 551, 552, 553, 554, 555, 556, 557, 558, 559, 560, 561, 562, 563, 564, 565, 566, 567, 568, 569, 570, 571,
  572, 573, 574, 575, 576, 577, 578, 579, 580, 581, 582, 583, 584, 585, 586, 587, 588, 589, 590, 591, 592, 593, 594, 595, 596, 597, 598, 599, 600, 601, 602, 603, 604, 605, 606, 607, 608, 609, 610, 611, 612, 613, 614, 615, 616, 617, 618, 619, 620, 621, 622, 623, 624, 625, 626, 627, 628, 629, 630, 631, 632, 633, 634, 635, 636, 637, 638, 639, 640, 641, 642, 643, 644, 645, 646, 647, 648, 649, 650,
  651, 652, 653, 654, 655, 656, 657, 658, 659, 660, 661, 662, 663, 664, 665, 666, 667, 668, 669, 670, 671, 672, 673, 674, 675, 676, 677, 678, 679, 680, 681, 682, 683, 684, 685, 686, 687, 688, 689, 690, 691, 692, 693, 694, 695, 696, 697, 698, 699, 700, 701, 702, 703, 704, 705, 706, 707, 708, 709, 710, 711, 712, 713, 714, 715, 716, 717, 718, 719, 720, 721, 722, 723, 724, 725, 726, 727, 728, 729,
  730, 731, 732, 733, 734, 735, 736, 737, 738, 739, 740, 741, 742, 743, 744, 745, 746, 747, 748, 749, 750, 751, 752, 753, 754, 755, 756, 757, 758, 759, 760, 761, 762, 763, 764, 765, 766, 767, 768, 769, 770, 771, 772, 773, 774, 775, 776, 777, 778, 779, 780, 781, 782, 783, 784, 785, 786, 787, 788, 789, 790, 791, 792, 793, 794, 795, 796, 797, 798, 799, 800, 801, 802, 803, 804, 805, 806, 807, 808,
  809, 810, 811, 812, 813, 814, 815, 816, 817, 818, 819, 820, 821, 822, 823, 824, 825, 826, 827, 828, 829, 830, 831, 832, 833, 834, 835, 836, 837, 838, 839, 840, 841, 842, 843, 844, 845, 846, 847, 848, 849, 850, 851, 852, 853, 854, 855, 856, 857, 858, 859, 860, 861, 862, 863, 864, 865, 866, 867, 868, 869, 870, 871, 872, 873, 874, 875, 876, 877, 878, 879, 880, 881, 882, 883, 884, 885, 886, 887,
  888, 889, 890, 891, 892, 893, 894, 895, 896, 897, 898, 899, 900, 901, 902, 903, 904, 905, 906, 907, 908, 909, 910, 911, 912, 913, 914, 915, 916, 917, 918, 919, 920, 921, 922, 923, 924, 925, 926, 927, 928, 929, 930, 931, 932, 933, 934, 935, 936, 937, 938, 939, 940, 941, 942, 943, 944, 945, 946, 947, 948, 949, 950, 951, 952, 953, 954, 955, 956, 957, 958, 959, 960, 961, 962, 963, 964, 965, 966,
  967, 968, 969, 970, 971, 972, 973, 974, 975, 976, 977, 978, 979, 980, 981, 982, 983, 984, 985, 986, 987, 988, 989, 990, 991, 992, 993, 994, 995, 996, 997, 998, 999]

def fl (a : List (Nat × Value)) : List Nat → List Value → List Value
  | i :: is, x :: xs => match lka a i with
    | some v => v :: fl a is xs
    | none => x :: fl a is xs
  | _, xs => xs
/-- the frame, laid out -/
def Fr.all (F : Fr) : List Value := fl F.a ix F.b

theorem fl_get' (a : List (Nat × Value)) (l : List Value) : ∀ (is : List Nat) (t : Nat), (fl a is l)[t]? = (l[t]?).map fun x => match is[t]? with | some i => (lka a i).getD x | none => x := by
  induction l with
  | nil => intro is t; cases is <;> simp [fl]
  | cons x xs ih =>
    intro is t
    cases is with
    | nil => simp [fl]
    | cons i is =>
      unfold fl
      cases t with
      | zero => cases h : lka a i <;> simp [h]
      | succ t =>
        have := ih is t
        cases h : lka a i <;> simpa using this

theorem fl_len (a : List (Nat × Value)) (l : List Value) : ∀ is, (fl a is l).length = l.length := by
  induction l with
  | nil => intro is; cases is <;> rfl
  | cons x xs ih =>
    intro is
    cases is with
    | nil => rfl
    | cons i is =>
      unfold fl
      cases lka a i <;> simp [ih]

theorem ix_eq : ix = List.range 1000 := by decide +kernel
theorem fl_get (a : List (Nat × Value)) (l : List Value) (hl : l.length ≤ 1000) (t : Nat) : (fl a ix l)[t]? = (l[t]?).map fun x => (lka a t).getD x := by
  rw [fl_get']
  by_cases ht : t < l.length
  · have : ix[t]? = some t := by rw [ix_eq, List.getElem?_range (by omega)]
    rw [this]
  · rw [List.getElem?_eq_none (Nat.le_of_not_lt ht)]; rfl

theorem Fr.le (F : Fr) : F.b.length ≤ 1000 := by
  rw [F.h.1]; exact Nat.le_of_ble_eq_true F.h.2

theorem Fr.all_nil (l : List Value) (n : Nat) (h : l.length = n ∧ Nat.ble n 1000 = true) : (⟨[], l, n, h⟩ : Fr).all = l := by
  apply List.ext_getElem?
  intro i
  unfold Fr.all
  rw [fl_get _ _ (Fr.le ⟨[], l, n, h⟩)]
  simp [lka]

/-- An operand's value, so that it is reckoned when it is asked for. -/
def evo (F : Fr) : Operand → Option Value
  | .tmp t => match Nat.blt t F.n with
    | true => lk F.a F.b t
    | false => none
  | .const v => some v
  | .global g => some (.pointer (some ⟨g, 0, none⟩))
  | .func f => some (.func (.func f) #[] #[])

def evl (F : Fr) : Operand → Value
  | .tmp t => F.all.getD t undef
  | .const v => v
  | .global g => .pointer (some ⟨g, 0, none⟩)
  | .func f => .func (.func f) #[] #[]

theorem lk_eq (a : List (Nat × Value)) (l : List Value) (t : Nat) : lk a l t = match lka a t with | some v => some v | none => l[t]? := by
  induction a with
  | nil => rfl
  | cons p a ih =>
    obtain ⟨d, v⟩ := p
    unfold lk lka
    cases h : Nat.beq d t
    · exact ih
    · rfl

theorem evl_of {F : Fr} {x : Operand} {v : Value} (h : evo F x = some v) : evl F x = v := by
  cases x with
  | tmp t =>
    simp only [evo] at h
    split at h
    · rename_i hlt
      have ht : t < F.b.length := by rw [F.h.1]; exact (Nat.blt_eq ▸ hlt)
      rw [lk_eq] at h
      simp only [evl, Fr.all, List.getD_eq_getElem?_getD]
      rw [fl_get _ _ F.le, List.getElem?_eq_getElem ht]
      cases h2 : lka F.a t with
      | some u => rw [h2] at h; simp at h; simp [h]
      | none => rw [h2] at h; simp only [List.getElem?_eq_getElem ht, Option.some.injEq] at h; simp [h]
    · cases h
  | _ => simp only [evo, Option.some.injEq] at h; subst h; rfl

def Evs (F : Fr) : List Operand → List Value → Prop
  | [], [] => True
  | x :: xs, v :: vs => evo F x = some v ∧ Evs F xs vs
  | _,_ => False

theorem en {F : Fr} : Evs F [] [] := trivial
theorem ec {F : Fr} {x : Operand} {xs : List Operand} {v : Value} {vs : List Value} (h : evo F x = some v) (t : Evs F xs vs) : Evs F (x :: xs) (v :: vs) := ⟨h, t⟩

theorem Evs.map {F : Fr} : ∀ {xs : List Operand} {vs : List Value}, Evs F xs vs → xs.map (evl F) = vs
  | [], [], _ => rfl
  | _ :: _,_ :: _, ⟨h, hs⟩ => by rw [List.map_cons, evl_of h, hs.map]
  | [], _ :: _, h => h.elim
  | _ :: _, [], h => h.elim

theorem eval_evl (F : Fr) : Act.eval ⟨F.all.toArray, []⟩ = evl F := by
  funext x
  cases x with
  | tmp t => simp [Act.eval, evl, List.getD_eq_getElem?_getD]
  | _ => rfl

/-- a frame, some slots of which hold something else -/
def ovr : List Value → List (Option Value) → List Value
  | x :: xs, none :: ps => x :: ovr xs ps
  | _ :: xs, some v :: ps => v :: ovr xs ps
  | xs, _ => xs
abbrev N_ : Option Value := none
abbrev Y_ (v : Value) : Option Value := some v

def putl (F : Fr) : Option Tmp → Value → Fr
  | some d, v => ⟨(d, v) :: F.a, F.b, F.n, F.h⟩
  | none, _ => F

theorem put_putl (F : Fr) (d : Option Tmp) (v : Value) : Act.put ⟨F.all.toArray, []⟩ d v = ⟨(putl F d v).all.toArray, []⟩ := by
  cases d with
  | none => rfl
  | some d =>
    simp only [Act.put, putl, List.setIfInBounds_toArray, Act.mk.injEq, and_true]
    congr 1
    apply List.ext_getElem?
    intro t
    unfold Fr.all
    rw [List.getElem?_set, fl_get _ _ F.le, fl_get _ _ F.le, fl_len]
    simp only [lka]
    by_cases h : d = t
    · subst h
      rw [if_pos rfl, show Nat.beq d d = true from Nat.beq_refl d]
      by_cases hlt : d < F.b.length
      · rw [if_pos hlt, List.getElem?_eq_getElem hlt]; rfl
      · rw [if_neg hlt, List.getElem?_eq_none (Nat.le_of_not_lt hlt)]; rfl
    · rw [if_neg h]
      have : Nat.beq d t = false := by
        cases hb : Nat.beq d t
        · rfl
        · exact absurd (Nat.eq_of_beq_eq_true hb) h
      rw [this]

/-! ### Control -/

section
variable {P : Program} {Q : Exit → Act → World → Prop} {l l' : List Value} {F : Fr} {w w' : World}

theorem c_enter {f : FuncId} {fn : Func} {c : Code} {args : List Value} {R : Ending → World → Prop} {n : Nat} (hf : P.funcs[f]? = some fn) (hn : fn.ntmps = n) (hb : fn.body = some c)
    (hl : args ++ List.replicate (n - args.length) undef = l) (h : c.wp P (bodyPost P fn R) ⟨l.toArray, []⟩ w) : Calls P f args.toArray w R := by
  refine calls_of_wp hf hb ?_
  subst hl hn
  have e : args.toArray ++ Array.replicate (fn.ntmps - args.toArray.size) undef = (args ++ List.replicate (fn.ntmps - args.length) undef).toArray := by simp
  rw [e]
  exact h

/-- a list of operations, at a frame -/
@[irreducible] def WL (P : Program) (ops : Array Oper) (Q : Exit → Act → World → Prop) (rest : List Oper) (F : Fr) (w : World) : Prop := wpList P ops Q rest ⟨F.all.toArray, []⟩ w

theorem c_region {id n : Nat} {ops : List Oper} (hn : l.length = n ∧ Nat.ble n 1000 = true) (h : WL P ops.toArray Q ops ⟨[], l, n, hn⟩ w) : (Code.region id ops.toArray false).wp P Q ⟨l.toArray, []⟩ w := by
  unfold WL at h
  rw [Fr.all_nil] at h
  exact wp_region_lit h

/-- A region, then what is behind it. -/
theorem c_rseq {id n : Nat} {ops : List Oper} {y : Code} (hn : l.length = n ∧ Nat.ble n 1000 = true) (h : WL P ops.toArray (Exit.then (y.wp P Q) Q) ops ⟨[], l, n, hn⟩ w) : (Code.seq (Code.region id ops.toArray false) y).wp P Q ⟨l.toArray, []⟩ w :=
  wp_seq (c_region hn h)

theorem c_seq {x y : Code} (h : x.wp P (Exit.then (y.wp P Q) Q) ⟨l.toArray, []⟩ w) : (Code.seq x y).wp P Q ⟨l.toArray, []⟩ w := wp_seq h

/-- A list of operations is at its end; what is behind it. -/
theorem c_nil {ops : Array Oper} {y : Code} (hl : F.all = l') (h : y.wp P Q ⟨l'.toArray, []⟩ w) : WL P ops (Exit.then (y.wp P Q) Q) [] F w := by subst hl; unfold WL; exact h

theorem c_nil0 {ops : Array Oper} (hl : F.all = l') (h : Q .normal ⟨l'.toArray, []⟩ w) : WL P ops Q [] F w := by subst hl; unfold WL; exact h

/-- an operand's value, at a jump -/
def evj (l : List Value) : Operand → Option Value
  | .tmp t => l[t]?
  | .const v => some v
  | .global g => some (.pointer (some ⟨g, 0, none⟩))
  | .func f => some (.func (.func f) #[] #[])
theorem evj_of {c : Operand} {v : Value} (h : evj l c = some v) : Act.eval ⟨l.toArray, []⟩ c = v := by
  cases c with
  | tmp t => simp only [evj] at h; simp [Act.eval, h]
  | _ => simp only [evj, Option.some.injEq] at h; subst h; rfl

theorem c_if {c : Operand} {x y : Code} {p : Prop} [Decidable p] (hc : evj l c = some (.bool (decide p))) (ht : p → x.wp P Q ⟨l.toArray, []⟩ w) (hf : ¬ p → y.wp P Q ⟨l.toArray, []⟩ w) : (Code.cond c x y).wp P Q ⟨l.toArray, []⟩ w := by
  refine wp_cond_split (t := decide p) (evj_of hc) (fun h => ht (of_decide_eq_true h)) (fun h => hf (of_decide_eq_false h))

theorem c_ifb {c : Operand} {x y : Code} {b : Bool} (hc : evj l c = some (.bool b)) (ht : b = true → x.wp P Q ⟨l.toArray, []⟩ w) (hf : b = false → y.wp P Q ⟨l.toArray, []⟩ w) : (Code.cond c x y).wp P Q ⟨l.toArray, []⟩ w :=
  wp_cond_split (evj_of hc) ht hf

theorem c_ift {c : Operand} {x y : Code} (hc : evj l c = some (.bool true)) (h : x.wp P Q ⟨l.toArray, []⟩ w) : (Code.cond c x y).wp P Q ⟨l.toArray, []⟩ w :=
  wp_cond_true (evj_of hc) h

theorem c_iff {c : Operand} {x y : Code} (hc : evj l c = some (.bool false)) (h : y.wp P Q ⟨l.toArray, []⟩ w) : (Code.cond c x y).wp P Q ⟨l.toArray, []⟩ w :=
  wp_cond_false (evj_of hc) h

/-- The ways through x meet in M. -/
theorem c_cut {x y : Code} (M : List Value → List Value → World → Prop) (hx : x.wp P (Exit.then (fun a w' => ∃ l', a = ⟨l'.toArray, []⟩ ∧ M l l' w') Q) ⟨l.toArray, []⟩ w)
    (hy : ∀ l' w', M l l' w' → y.wp P Q ⟨l'.toArray, []⟩ w') : (Code.seq x y).wp P Q ⟨l.toArray, []⟩ w := by
  refine wp_seq (wp_mono hx fun e a w' h => ?_)
  cases e with
  | normal => obtain ⟨l', rfl, hM⟩ := h; exact hy l' w' hM
  | _ => exact h

theorem c_loop {c : Code} {τ : Type} (I : List Value → τ → List Value → World → Prop) (μ : τ → Nat) (t0 : τ) (h0 : I l t0 l w)
    (round : ∀ t l' w', I l t l' w' → c.wp P (Exit.then (fun a w'' => ∃ t' l'', a = ⟨l''.toArray, []⟩ ∧ I l t' l'' w'' ∧ μ t' < μ t) Q) ⟨l'.toArray, []⟩ w') :
    (Code.loop c).wp P Q ⟨l.toArray, []⟩ w := by
  intro b k cs
  have key : ∀ n t l' w', μ t = n → I l t l' w' →
      ∃ e a' w'', Q e a' w'' ∧ Arrives P (lone (b.at ⟨l'.toArray, []⟩ (.code c :: .inLoop c :: k)) cs w') b k cs e a' w'' := by
    intro n
    induction n using Nat.strongRecOn with
    | _ n ih =>
      intro t l' w' hn hI
      obtain ⟨e, a₁, w₁, hq, harr⟩ := round t l' w' hI b (.inLoop c :: k) cs
      cases e with
      | normal =>
        obtain ⟨t', l'', rfl, hI₁, hlt⟩ := hq
        obtain ⟨e₂, a₂, w₂, hq₂, harr₂⟩ := ih (μ t') (hn ▸ hlt) t' l'' w₁ rfl hI₁
        exact ⟨e₂, a₂, w₂, hq₂, .of_steps (Steps.trans harr (.one step_inLoop)) harr₂⟩
      | exit id => exact ⟨_, a₁, w₁, hq, .pass (x := .inLoop c) rfl (fun _ _ => .inl (by simp)) harr⟩
      | goto l => exact ⟨_, a₁, w₁, hq, .pass (x := .inLoop c) rfl (fun _ _ => .inl (by simp)) harr⟩
      | ret => exact ⟨_, a₁, w₁, hq, .pass (x := .inLoop c) rfl (fun _ _ => .inl (by simp)) harr⟩
      | panic ch => exact ⟨_, a₁, w₁, hq, .pass (x := .inLoop c) rfl (fun _ _ => .inl (by simp)) harr⟩
      | outgrown => exact ⟨_, a₁, w₁, hq, .pass (x := .inLoop c) rfl (fun _ _ => .inl (by simp)) harr⟩
  obtain ⟨e, a', w'', hq, harr⟩ := key _ t0 l w rfl h0
  exact ⟨e, a', w'', hq, .of_steps (.one step_loop) harr⟩

/-! where a way out goes -/
theorem x_thenExit {K : Act → World → Prop} {id : Nat} {a : Act} (h : Q (.exit id) a w) : Exit.then K Q (.exit id) a w := h
theorem x_thenRet {K : Act → World → Prop} {a : Act} (h : Q .ret a w) : Exit.then K Q .ret a w := h
theorem x_thenNormal {K : Act → World → Prop} {a : Act} (h : K a w) : Exit.then K Q .normal a w := h
theorem x_blockHit {id : Nat} {a : Act} (h : Q .normal a w) : Exit.inBlock id Q (.exit id) a w := by simp only [Exit.inBlock, if_true]; exact h
theorem x_blockMiss {id id' : Nat} {a : Act} (hn : id' ≠ id) (h : Q (.exit id') a w) : Exit.inBlock id Q (.exit id') a w := by simp only [Exit.inBlock, if_neg hn]; exact h
theorem x_blockRet {id : Nat} {a : Act} (h : Q .ret a w) : Exit.inBlock id Q .ret a w := h
theorem x_blockNormal {id : Nat} {a : Act} (h : Q .normal a w) : Exit.inBlock id Q .normal a w := h

/-! the end of a body -/
theorem e_ret {fn : Func} {R : Ending → World → Prop} {v : Value} (hr : (results fn l.toArray).run P w = .ok v w) (h : R (.returned v) w) : bodyPost P fn R .ret ⟨l.toArray, []⟩ w := ⟨rfl, v, hr, h⟩
theorem e_end {fn : Func} {R : Ending → World → Prop} {v : Value} (hr : (results fn l.toArray).run P w = .ok v w) (h : R (.returned v) w) : bodyPost P fn R .normal ⟨l.toArray, []⟩ w := ⟨rfl, v, hr, h⟩

theorem res0 {fn : Func} (h : fn.results = #[]) : (results fn l.toArray).run P w = .ok (.tuple #[]) w := by simp [results, h]
theorem res1 {fn : Func} {t : Tmp} {v : Value} (h : fn.results = #[.tmp t]) (hv : l[t]? = some v) : (results fn l.toArray).run P w = .ok v w := by
  simp [results, h, hv]
theorem res2 {fn : Func} {t u : Tmp} {v1 v2 : Value} (h : fn.results = #[.tmp t, .tmp u]) (h1 : l[t]? = some v1) (h2 : l[u]? = some v2) : (results fn l.toArray).run P w = .ok (.tuple #[v1, v2]) w := by
  simp [results, h, h1, h2]

/-! ### One operation -/

variable {ops : Array Oper} {rest : List Oper} {op : Op} {ty : TypeId} {pos : String} {after : Array Edge}

theorem evl_guardOk {g : Nat} {t : Tmp} {b : Bool} (ht : (ops[g]?).bind (·.dst) = some t) (hb : evo F (.tmp t) = some (.bool b)) :
    yielded ops F.all.toArray g = some b := by
  have hb := evl_of hb
  unfold yielded
  rw [ht]
  simp only [Option.bind_some, List.getElem?_toArray]
  simp only [evl] at hb
  rw [List.getD_eq_getElem?_getD] at hb
  cases h : F.all[t]? with
  | none => rw [h] at hb; simp [undef] at hb
  | some v => rw [h] at hb; simp at hb; subst hb; rfl
/-- A value. -/
theorem s_val {d : Option Tmp} {v : Value} (hr : (execOp (evl F) ⟨d, op, ty, pos, after, none⟩).run P w = .ok (.value v) w') (k : WL P ops Q rest (putl F d v) w') :
    WL P ops Q (⟨d, op, ty, pos, after, none⟩ :: rest) F w := by
  unfold WL at k ⊢
  unfold wpList
  rw [if_pos (by simp [Region.wanted])]
  refine .inl ?_
  unfold Oper.wp
  rw [eval_evl, hr, Oper.upon_value, put_putl]
  exact k

theorem s_skip {d : Option Tmp} (hr : (execOp (evl F) ⟨d, op, ty, pos, after, none⟩).run P w = .ok .skip w') (k : WL P ops Q rest (putl F d undef) w') :
    WL P ops Q (⟨d, op, ty, pos, after, none⟩ :: rest) F w := by
  unfold WL at k ⊢
  unfold wpList
  rw [if_pos (by simp [Region.wanted])]
  refine .inl ?_
  unfold Oper.wp
  rw [eval_evl, hr, Oper.upon_skip, put_putl]
  exact k

/-- A test that is asked for again, by a guard or a jump: the ways part here. -/
theorem s_test {d : Option Tmp} {p : Prop} [Decidable p] (hr : (execOp (evl F) ⟨d, op, ty, pos, after, none⟩).run P w = .ok (.value (.bool (decide p))) w)
    (kt : p → WL P ops Q rest (putl F d (.bool true)) w) (kf : ¬ p → WL P ops Q rest (putl F d (.bool false)) w) :
    WL P ops Q (⟨d, op, ty, pos, after, none⟩ :: rest) F w := by
  refine s_val hr ?_
  by_cases h : p
  · rw [decide_eq_true h]; exact kt h
  · rw [decide_eq_false h]; exact kf h

theorem s_testb {d : Option Tmp} {b : Bool} (hr : (execOp (evl F) ⟨d, op, ty, pos, after, none⟩).run P w = .ok (.value (.bool b)) w)
    (kt : b = true → WL P ops Q rest (putl F d (.bool true)) w) (kf : b = false → WL P ops Q rest (putl F d (.bool false)) w) :
    WL P ops Q (⟨d, op, ty, pos, after, none⟩ :: rest) F w := by
  refine s_val hr ?_
  cases b
  · exact kf rfl
  · exact kt rfl

/-- The guard says no. -/
theorem g_no {d : Option Tmp} {g : Nat} {want b : Bool} {t : Tmp} (ht : (ops[g]?).bind (·.dst) = some t) (hb : evo F (.tmp t) = some (.bool b)) (hne : b ≠ want) (k : WL P ops Q rest (putl F d undef) w) :
    WL P ops Q (⟨d, op, ty, pos, after, some (g, want)⟩ :: rest) F w := by
  unfold WL at k ⊢
  unfold wpList
  rw [if_neg (by simp only [Region.wanted]; rw [evl_guardOk ht hb]; simpa using hne)]
  rw [put_putl]
  exact k

/-- The guard says yes: as if there were none. -/
theorem g_yes {d : Option Tmp} {g : Nat} {want : Bool} {t : Tmp} (ht : (ops[g]?).bind (·.dst) = some t) (hb : evo F (.tmp t) = some (.bool want)) (k : WL P ops Q (⟨d, op, ty, pos, after, none⟩ :: rest) F w) :
    WL P ops Q (⟨d, op, ty, pos, after, some (g, want)⟩ :: rest) F w := by
  unfold WL wpList at k ⊢
  rw [if_pos (by simp [Region.wanted])] at k
  rw [if_pos (by simp only [Region.wanted]; rw [evl_guardOk ht hb]; simp)]
  exact k

/-- A call of a Go function. -/
theorem s_call {d : Option Tmp} {f : FuncId} {args : Array Value} {R : Value → World → Prop} (hr : (execOp (evl F) ⟨d, op, ty, pos, after, none⟩).run P w = .ok (.enter f args) w)
    (hc : Calls P f args w fun e w' => ∃ v, e = .returned v ∧ R v w') (k : ∀ v w', R v w' → WL P ops Q rest (putl F d v) w') :
    WL P ops Q (⟨d, op, ty, pos, after, none⟩ :: rest) F w := by
  unfold WL wpList
  rw [if_pos (by simp [Region.wanted])]
  refine .inl ?_
  unfold Oper.wp
  rw [eval_evl, hr, Oper.upon_enter]
  refine hc.mono fun e w' h => ?_
  obtain ⟨v, rfl, hR⟩ := h
  simp only []
  rw [put_putl]
  have k := k v w' hR
  unfold WL at k
  exact k

end
end Go.Er


/-
  One law for each operation of the translation, at values that are written with list words.
-/
namespace Go.Er
open Go

section
variable {P : Program} {w : World} {l : Fr} {d : Option Tmp} {ty : TypeId} {pos : String} {after : Array Edge} {g : Option (Nat × Bool)}

/-! ### Types, as facts -/
def IsAgg (P : Program) (T : TypeId) (b : Bool) : Prop := ∀ w, (isAgg T).run P w = .ok b w
def Size (P : Program) (T : TypeId) (n : Nat) : Prop := ∀ w, (sizeOf T).run P w = .ok n w
def Zero (P : Program) (T : TypeId) (v : Value) : Prop := ∀ w, (zeroValue T).run P w = .ok v w
def Und (P : Program) (T : TypeId) (D : TypeDesc) : Prop := ∀ w, (underlying T).run P w = .ok D w

/-! ### Copies -/
theorem r_move {x : Operand} {v : Value} (hx : evo l x = some v) : (execOp (evl l) ⟨d, .move x, ty, pos, after, g⟩).run P w = .ok (.value v) w := by
  rw [← evl_of hx]; rfl
theorem r_assign {x : Operand} {v : Value} (hx : evo l x = some v) : (execOp (evl l) ⟨d, .assign x, ty, pos, after, g⟩).run P w = .ok (.value v) w := by
  rw [← evl_of hx]; rfl
theorem r_pickt {c a b : Operand} {v : Value} (hc : evl l c = .bool true) (ha : evo l a = some v) : (execOp (evl l) ⟨d, .pick c a b, ty, pos, after, g⟩).run P w = .ok (.value v) w := by
  rw [← evl_of ha]; simp [execOp, hc, asBool]
theorem r_pickf {c a b : Operand} {v : Value} (hc : evl l c = .bool false) (hb : evo l b = some v) : (execOp (evl l) ⟨d, .pick c a b, ty, pos, after, g⟩).run P w = .ok (.value v) w := by
  rw [← evl_of hb]; simp [execOp, hc, asBool]

/-! ### Whole numbers -/
section ints
variable {x y : Operand} {T T' : TypeId} {k : IntKind} {m n r : Int}

theorem eqGuard_int (op : BinOp) (t : TypeId) (x y : Operand) (k k' : IntKind) (m n : Int) (w : World) : (eqGuard op t x y (.int k m) (.int k' n)).run P w = .ok () w := by
  unfold eqGuard; cases op <;> rfl

theorem r_add (hx : evl l x = .int k m) (hy : evl l y = .int k n) (hr : k.wrap (m + n) = r) : (execOp (evl l) ⟨d, .binOp .add T x y T', ty, pos, after, g⟩).run P w = .ok (.value (.int k r)) w := by
  subst hr; simp [execOp, hx, hy, eqGuard_int, binOp, Op.intArith]
theorem r_sub (hx : evl l x = .int k m) (hy : evl l y = .int k n) (hr : k.wrap (m - n) = r) : (execOp (evl l) ⟨d, .binOp .sub T x y T', ty, pos, after, g⟩).run P w = .ok (.value (.int k r)) w := by
  subst hr; simp [execOp, hx, hy, eqGuard_int, binOp, Op.intArith]
theorem r_mul (hx : evl l x = .int k m) (hy : evl l y = .int k n) (hr : k.wrap (m * n) = r) : (execOp (evl l) ⟨d, .binOp .mul T x y T', ty, pos, after, g⟩).run P w = .ok (.value (.int k r)) w := by
  subst hr; simp [execOp, hx, hy, eqGuard_int, binOp, Op.intArith]
theorem r_quo (hx : evl l x = .int k m) (hy : evl l y = .int k n) (hn : n ≠ 0) (hr : k.wrap (m.tdiv n) = r) : (execOp (evl l) ⟨d, .binOp .quo T x y T', ty, pos, after, g⟩).run P w = .ok (.value (.int k r)) w := by
  subst hr; simp [execOp, hx, hy, eqGuard_int, binOp, Op.intDiv, hn]
theorem r_rem (hx : evl l x = .int k m) (hy : evl l y = .int k n) (hn : n ≠ 0) (hr : m.tmod n = r) : (execOp (evl l) ⟨d, .binOp .rem T x y T', ty, pos, after, g⟩).run P w = .ok (.value (.int k r)) w := by
  subst hr; simp [execOp, hx, hy, eqGuard_int, binOp, Op.intDiv, hn]
theorem r_and (hx : evl l x = .int k m) (hy : evl l y = .int k n) (hr : k.wrap (BitVec.ofInt k.bits m &&& BitVec.ofInt k.bits n).toNat = r) : (execOp (evl l) ⟨d, .binOp .and T x y T', ty, pos, after, g⟩).run P w = .ok (.value (.int k r)) w := by
  subst hr; simp [execOp, hx, hy, eqGuard_int, binOp, Op.intBits]
theorem r_xor (hx : evl l x = .int k m) (hy : evl l y = .int k n) (hr : k.wrap (BitVec.ofInt k.bits m ^^^ BitVec.ofInt k.bits n).toNat = r) : (execOp (evl l) ⟨d, .binOp .xor T x y T', ty, pos, after, g⟩).run P w = .ok (.value (.int k r)) w := by
  subst hr; simp [execOp, hx, hy, eqGuard_int, binOp, Op.intBits]
theorem r_shl {k' : IntKind} (hx : evl l x = .int k m) (hy : evl l y = .int k' n) (hn : 0 ≤ n) (hr : k.wrap (m * 2 ^ (min n.toNat k.bits)) = r) : (execOp (evl l) ⟨d, .binOp .shl T x y T', ty, pos, after, g⟩).run P w = .ok (.value (.int k r)) w := by
  subst hr
  have h : ¬ n < 0 := by omega
  simp [execOp, hx, hy, eqGuard_int, binOp, Op.shift, h]
theorem r_shr {k' : IntKind} (hx : evl l x = .int k m) (hy : evl l y = .int k' n) (hn : 0 ≤ n) (hr : m.fdiv (2 ^ (min n.toNat k.bits)) = r) : (execOp (evl l) ⟨d, .binOp .shr T x y T', ty, pos, after, g⟩).run P w = .ok (.value (.int k r)) w := by
  subst hr
  have h : ¬ n < 0 := by omega
  simp [execOp, hx, hy, eqGuard_int, binOp, Op.shift, h]
theorem r_lss (hx : evl l x = .int k m) (hy : evl l y = .int k n) : (execOp (evl l) ⟨d, .binOp .lss T x y T', ty, pos, after, g⟩).run P w = .ok (.value (.bool (decide (m < n)))) w := by
  simp [execOp, hx, hy, eqGuard_int, binOp, Op.intCmp]
theorem r_leq (hx : evl l x = .int k m) (hy : evl l y = .int k n) : (execOp (evl l) ⟨d, .binOp .leq T x y T', ty, pos, after, g⟩).run P w = .ok (.value (.bool (decide (m ≤ n)))) w := by
  simp [execOp, hx, hy, eqGuard_int, binOp, Op.intCmp]
theorem r_gtr (hx : evl l x = .int k m) (hy : evl l y = .int k n) : (execOp (evl l) ⟨d, .binOp .gtr T x y T', ty, pos, after, g⟩).run P w = .ok (.value (.bool (decide (n < m)))) w := by
  simp [execOp, hx, hy, eqGuard_int, binOp, Op.intCmp]
theorem r_geq (hx : evl l x = .int k m) (hy : evl l y = .int k n) : (execOp (evl l) ⟨d, .binOp .geq T x y T', ty, pos, after, g⟩).run P w = .ok (.value (.bool (decide (n ≤ m)))) w := by
  simp [execOp, hx, hy, eqGuard_int, binOp, Op.intCmp]
theorem r_eql (hx : evl l x = .int k m) (hy : evl l y = .int k n) : (execOp (evl l) ⟨d, .binOp .eql T x y T', ty, pos, after, g⟩).run P w = .ok (.value (.bool (decide (m = n)))) w := by
  simp only [execOp, hx, hy, Sem.run_bind, eqGuard_int, Result.andThen_ok, binOp, Op.intCmp, ne_eq, not_true_eq_false, if_false]; rfl
theorem r_neq (hx : evl l x = .int k m) (hy : evl l y = .int k n) : (execOp (evl l) ⟨d, .binOp .neq T x y T', ty, pos, after, g⟩).run P w = .ok (.value (.bool (decide (m ≠ n)))) w := by
  have e : (m != n) = decide (m ≠ n) := by rw [Bool.eq_iff_iff]; simp
  simp only [execOp, hx, hy, Sem.run_bind, eqGuard_int, Result.andThen_ok, binOp, Op.intCmp, ne_eq, not_true_eq_false, if_false, e]; rfl
theorem r_conv {k' : IntKind} {D : TypeDesc} (hT : Und P T D) (hT' : Und P T' (.int k')) (hx : evl l x = .int k m) (hr : k'.wrap m = r) : (execOp (evl l) ⟨d, .convert T T' x, ty, pos, after, g⟩).run P w = .ok (.value (.int k' r)) w := by
  subst hr; simp [execOp, hx, convert, hT w, hT' w, Conv.intToInt]
end ints

/-! wraps that change nothing -/
theorem w_i64 {n : Int} (h0 : -9223372036854775808 ≤ n) (h1 : n ≤ 9223372036854775807) : IntKind.i64.wrap n = n := by
  rw [IntKind.wrap_i64]; omega
theorem w_u64 {n : Int} (h0 : 0 ≤ n) (h1 : n < 18446744073709551616) : IntKind.u64.wrap n = n := by
  show n % (2 ^ 64 : Int) = n
  exact Int.emod_eq_of_lt h0 (by simpa using h1)
theorem w_u64' (n : Int) : IntKind.u64.wrap n = n % 18446744073709551616 := rfl
theorem w_u8 {n : Int} (h0 : 0 ≤ n) (h1 : n < 256) : IntKind.u8.wrap n = n := by
  show n % (2 ^ 8 : Int) = n
  exact Int.emod_eq_of_lt h0 (by simpa using h1)
theorem w_u8' (n : Int) : IntKind.u8.wrap n = n % 256 := rfl

/-! ### Truth values, pointers, nil -/
section others
variable {x y : Operand} {T T' : TypeId}
theorem r_not {b : Bool} (hx : evl l x = .bool b) : (execOp (evl l) ⟨d, .unOp .not T x, ty, pos, after, g⟩).run P w = .ok (.value (.bool (!b))) w := by
  simp [execOp, hx, Op.unary]
theorem r_notp {p : Prop} [Decidable p] (hx : evl l x = .bool (decide p)) : (execOp (evl l) ⟨d, .unOp .not T x, ty, pos, after, g⟩).run P w = .ok (.value (.bool (decide (¬ p)))) w := by
  simp [execOp, hx, Op.unary]
theorem equal_of {T : TypeId} {x y : Value} {r : Result Bool} (h : ∀ n, (Op.equalIn (n + 1) T x y).run P w = r) : (Op.equal T x y).run P w = r := h 9999
theorem equalIn_nilp {E : TypeId} {a : Option Addr} (hu : Und P T (.pointer E)) (n : Nat) : (Op.equalIn (n + 1) T (.pointer a) (.pointer none)).run P w = .ok a.isNone w := by cases a <;> simp [Op.equalIn, hu w]
theorem equalIn_nili {ms : Array (String × TypeId)} {v : Value} (hu : Und P T (.interface ms)) (n : Nat) : (Op.equalIn (n + 1) T (.iface T' v) .nilIface).run P w = .ok false w := by simp [Op.equalIn, hu w]
theorem r_nilp {E : TypeId} {a : Option Addr} (hu : Und P T (.pointer E)) (hx : evl l x = .pointer a) (hy : evl l y = .pointer none) : (execOp (evl l) ⟨d, .binOp .eql T x y T', ty, pos, after, g⟩).run P w = .ok (.value (.bool a.isNone)) w := by
  simp only [execOp, hx, hy, eqGuard, binOp]
  simp [equal_of (equalIn_nilp (w := w) hu)]
theorem r_nilpF {E : TypeId} {a : Addr} (hu : Und P T (.pointer E)) (hx : evl l x = .pointer (some a)) (hy : evl l y = .pointer none) : (execOp (evl l) ⟨d, .binOp .eql T x y T', ty, pos, after, g⟩).run P w = .ok (.value (.bool false)) w := r_nilp hu hx hy
theorem r_nili {ms : Array (String × TypeId)} {v : Value} {T'' : TypeId} (hu : Und P T (.interface ms)) (hx : evl l x = .iface T' v) (hy : evl l y = .nilIface) : (execOp (evl l) ⟨d, .binOp .eql T x y T'', ty, pos, after, g⟩).run P w = .ok (.value (.bool false)) w := by
  simp only [execOp, hx, hy, eqGuard, binOp]
  simp [equal_of (equalIn_nili (w := w) hu)]
theorem r_nilCheck {a : Addr} (hx : evl l x = .pointer (some a)) : (execOp (evl l) ⟨d, .nilCheck x, ty, pos, after, g⟩).run P w = .ok (.value (.pointer (some a))) w := by
  simp [execOp, hx]
theorem r_extract {i : Nat} {vs : List Value} {v : Value} (hx : evl l x = .tuple vs.toArray) (hi : vs[i]? = some v) : (execOp (evl l) ⟨d, .extract x i, ty, pos, after, g⟩).run P w = .ok (.value v) w := by
  simp [execOp, hx, Instr.extract, hi]
theorem r_makeFunc {fn : Fn} {first captured : List Operand} {f1 c1 : List Value} (h1 : Evs l first f1) (h2 : Evs l captured c1) :
    (execOp (evl l) ⟨d, .makeFunc fn first.toArray captured.toArray, ty, pos, after, g⟩).run P w = .ok (.value (.func fn f1.toArray c1.toArray)) w := by
  simp [execOp, Instr.makeFunc, h1.map, h2.map]
theorem r_makeIface {v : Value} {D : TypeDesc} (hu : Und P T D) (hD : ∀ ms, D ≠ .interface ms) (hx : evo l x = some v) : (execOp (evl l) ⟨d, .makeInterface T x, ty, pos, after, g⟩).run P w = .ok (.value (.iface T v)) w := by
  have hx := evl_of hx
  cases D <;> first | (simp [execOp, Instr.makeInterface, hu w, hx]; done) | exact absurd rfl (hD _)

/-! ### Calls -/
def Ent (P : Program) (f : FuncId) : Prop := ∀ (args : Array Value) (w : World), (callFunc f args).run P w = .ok (.enter f args) w
theorem r_call {f : FuncId} {args : List Operand} {vs : List Value} {at_ : Array TypeId} (hf : Ent P f) (ha : Evs l args vs) :
    (execOp (evl l) ⟨d, .call ⟨.value (.func f), args.toArray, at_⟩, ty, pos, after, g⟩).run P w = .ok (.enter f vs.toArray) w := by
  obtain rfl := ha.map
  have h := hf (args.map (evl l)).toArray w
  simp [execOp, resolve, evl, Deferred.ofValue, invoke]
  simpa using h
theorem r_callv {f : FuncId} {x : Operand} {args : List Operand} {us vs cs : List Value} {at_ : Array TypeId} (hf : Ent P f) (hx : evl l x = .func (.func f) #[] cs.toArray) (ha : Evs l args us) (hv : us ++ cs = vs) :
    (execOp (evl l) ⟨d, .call ⟨.value x, args.toArray, at_⟩, ty, pos, after, g⟩).run P w = .ok (.enter f vs.toArray) w := by
  subst hv
  obtain rfl := ha.map
  have h := hf (args.map (evl l) ++ cs).toArray w
  simp [execOp, resolve, hx, Deferred.ofValue, invoke]
  simpa using h
/-- A method on an interface value: its function, and what it takes for its receiver. -/
def Meth (P : Program) (T : TypeId) (v : Value) (name : String) (f : FuncId) (rv : Value) : Prop := ∀ w, (method (P.types.size + Made.depth) T v name).run P w = .ok (f, rv) w
theorem r_invoke {f : FuncId} {x : Operand} {name : String} {v rv : Value} {args : List Operand} {vs : List Value} {at_ : Array TypeId} (hf : Ent P f) (hx : evl l x = .iface T v)
    (hm : Meth P T v name f rv) (ha : Evs l args vs) :
    (execOp (evl l) ⟨d, .call ⟨.invoke x name, args.toArray, at_⟩, ty, pos, after, g⟩).run P w = .ok (.enter f (rv :: vs).toArray) w := by
  obtain rfl := ha.map
  have h := hf (rv :: args.map (evl l)).toArray w
  have hm' := hm w
  have ht : List.take args.length (List.map (evl l) args) = List.map (evl l) args := List.take_of_length_le (by simp)
  simp [execOp, resolve, hx, invoke, callMethod, hm', ht]
  simpa using h

theorem r_lens {E : TypeId} {args : List Operand} {a : Option Addr} {n c : Nat} {rest : List TypeId} (hu : Und P T (.slice E)) (ha : Evs l args [.slice a n c]) :
    (execOp (evl l) ⟨d, .call ⟨.builtin .len, args.toArray, (T :: rest).toArray⟩, ty, pos, after, g⟩).run P w = .ok (.value (.int .i64 n)) w := by
  simp [execOp, resolve, invoke, builtin, Builtin.len_, ha.map, hu w, goInt]
end others

end
end Go.Er


/-
  The operations that read and write memory, at the state 'St'.
-/
namespace Go.Er
open Go

section
variable {P : Program} {w0 w : World} {X : List Nat} {L L' : List (Nat × Obj)} {l : Fr} {d : Option Tmp} {ty : TypeId} {pos : String} {after : Array Edge} {g : Option (Nat × Bool)}
  {x y : Operand} {T E : TypeId} {b off : Nat} {cs cs' vs : List Value} {v : Value} {fz : Nat × Nat}

/-- cells with 'vs' laid over them from 'off' on -/
def splice (cs : List Value) (off : Nat) (vs : List Value) : List Value := cs.take off ++ vs ++ cs.drop (off + vs.length)

theorem splice_length (h : off + vs.length ≤ cs.length) : (splice cs off vs).length = cs.length := by
  simp [splice]; omega

theorem addr_add (b off n : Nat) : (⟨b, off, none⟩ : Addr).add n = ⟨b, off + n, none⟩ := by
  unfold Addr.add; split <;> simp_all

theorem St.setRow (h : St w0 X w L) (k : Nat) (cs' : List Value) (hk : L[k]? = some (b, .cells cs.toArray E fz)) : St w0 X (w.setRow b cs'.toArray) (L.set k (b, .cells cs'.toArray E fz)) := by
  have hb := h.at k hk
  exact h.put k hk rfl rfl rfl rfl (size_setRow w b _) (setRow_heap w b _ _ _ _ hb) (fun c hc => setRow_other w b c _ hc)

/-! ### Addresses -/
theorem r_fieldAddr {fs : Array Field} {i k n : Nat} {f : Field} (hu : Und P T (.struct fs)) (hf : fs[i]? = some f) (hz : Size P f.type n) (hn : n ≠ 0) (hk : f.offset = k)
    (hx : evl l x = .pointer (some ⟨b, off, none⟩)) : (execOp (evl l) ⟨d, .fieldAddr T x i, ty, pos, after, g⟩).run P w = .ok (.value (.pointer (some ⟨b, off + k, none⟩))) w := by
  subst hk
  simp [execOp, Instr.fieldAt, hu w, hf, Instr.sureAddr, hx, fieldPlace, hz w, hn, addr_add]

theorem r_indexAddrS {sz len cap : Nat} {k : IntKind} {i : Int} (hu : Und P T (.slice E)) (hs : Size P E sz) (hx : evl l x = .slice (some ⟨b, off, none⟩) len cap) (hy : evl l y = .int k i) (h0 : 0 ≤ i) (h1 : i < len) :
    (execOp (evl l) ⟨d, .indexAddr T x y, ty, pos, after, g⟩).run P w = .ok (.value (.pointer (some ⟨b, off + i.toNat * sz, none⟩))) w := by
  simp [execOp, Instr.indexAt, hu w, asIntOf, hx, hy, h0, h1, hs w, addr_add]

theorem r_indexAddrA {sz len : Nat} {k : IntKind} {i : Int} (hu : Und P T (.array len E)) (hs : Size P E sz) (hx : evl l x = .pointer (some ⟨b, off, none⟩)) (hy : evl l y = .int k i) (h0 : 0 ≤ i) (h1 : i < len) :
    (execOp (evl l) ⟨d, .indexAddr T x y, ty, pos, after, g⟩).run P w = .ok (.value (.pointer (some ⟨b, off + i.toNat * sz, none⟩))) w := by
  simp [execOp, Instr.indexAt, hu w, asIntOf, hx, hy, h0, h1, hs w, addr_add, Instr.sureAddr]

/-! ### Loads -/
theorem cell_at (hb : w.heap[b]? = some (.cells cs.toArray E fz)) : w.cell? ⟨b, off, none⟩ = cs[off]? := by
  simp [World.cell?, hb]

theorem r_load1 (ha : IsAgg P T false) (hx : evl l x = .pointer (some ⟨b, off, none⟩)) (hb : w.heap[b]? = some (.cells cs.toArray E fz)) (hc : cs[off]? = some v) :
    (execOp (evl l) ⟨d, .load T x, ty, pos, after, g⟩).run P w = .ok (.value v) w := by
  have h : w.cell? ⟨b, off, none⟩ = some v := (cell_at hb).trans hc
  simp [execOp, Instr.loadAt, Instr.sureAddr, hx, loadVar, ha w, h]

theorem run_loadRow (hb : w.heap[b]? = some (.cells cs.toArray E fz)) {n : Nat} (hc : (cs.drop off).take n = vs) (hn : vs.length = n) : (loadCells ⟨b, off, none⟩ n).run P w = .ok vs.toArray w := by
  subst hn
  refine run_loadCells_list (P := P) w _ vs fun j v hj => ?_
  rw [addr_add, cell_at hb]
  rw [← hc, List.getElem?_take] at hj
  split at hj
  · simpa using hj
  · cases hj

theorem r_loadn {n : Nat} (ha : IsAgg P T true) (hs : Size P T n) (hx : evl l x = .pointer (some ⟨b, off, none⟩)) (hb : w.heap[b]? = some (.cells cs.toArray E fz)) (hc : (cs.drop off).take n = vs) (hn : vs.length = n) :
    (execOp (evl l) ⟨d, .load T x, ty, pos, after, g⟩).run P w = .ok (.value (.agg vs.toArray)) w := by
  have h := run_loadRow (P := P) hb hc hn
  simp [execOp, Instr.loadAt, Instr.sureAddr, hx, loadVar, ha w, hs w, h]

/-! ### Stores -/
theorem m_store1 (H : St w0 X w L) (k : Nat) (hs : Size P T 1) (hx : evl l x = .pointer (some ⟨b, off, none⟩)) (hy : evo l y = some v) (h1 : v.oneCell' = true)
    (hk : L[k]? = some (b, .cells cs.toArray E (0, 0))) (ho : off < cs.length) (hset : cs.set off v = cs') :
    ∃ w', (execOp (evl l) ⟨d, .store T x y, ty, pos, after, g⟩).run P w = .ok .skip w' ∧ St w0 X w' (L.set k (b, .cells cs'.toArray E (0, 0))) := by
  subst hset
  have hb := H.at k hk
  have hst := run_storeCells_at (P := P) b off E [v] 0 cs.toArray w hb (by simp; omega) (by simpa using h1)
  have hcells : v.cells = #[v] := by cases v <;> first | rfl | (simp [Value.oneCell'] at h1)
  refine ⟨w.setRow b (cs.set off v).toArray, ?_, H.setRow k _ hk⟩
  have e : (cs.set off v) = cs.take off ++ [v] ++ cs.drop (off + 1) := by
    rw [List.set_eq_take_append_cons_drop, if_pos ho]; simp
  simp only [Nat.add_zero, List.length_singleton] at hst
  rw [← e] at hst
  simp [execOp, Instr.storeAt, Instr.sureAddr, hx, evl_of hy, storeVar, hs w, hcells, hst]

theorem m_storen (H : St w0 X w L) (k n : Nat) (hs : Size P T n) (hx : evl l x = .pointer (some ⟨b, off, none⟩)) (hy : evl l y = .agg vs.toArray) (hn : vs.length = n) (h1 : ∀ v ∈ vs, v.oneCell' = true)
    (hk : L[k]? = some (b, .cells cs.toArray E (0, 0))) (ho : off + n ≤ cs.length) (hset : splice cs off vs = cs') :
    ∃ w', (execOp (evl l) ⟨d, .store T x y, ty, pos, after, g⟩).run P w = .ok .skip w' ∧ St w0 X w' (L.set k (b, .cells cs'.toArray E (0, 0))) := by
  subst hset
  subst hn
  have hb := H.at k hk
  have hst := run_storeCells_at (P := P) b off E vs 0 cs.toArray w hb (by simpa using ho) h1
  refine ⟨w.setRow b (splice cs off vs).toArray, ?_, H.setRow k _ hk⟩
  simp only [Nat.add_zero] at hst
  simp [execOp, Instr.storeAt, Instr.sureAddr, hx, hy, storeVar, hs w, Value.cells, hst, splice]

/-! ### Composite literals -/
theorem foldl_splice (off : Nat) : ∀ (vs : List Value) (i : Nat) (cs : List Value), off + i + vs.length ≤ cs.length →
    (vs.zipIdx i).foldl (fun cs (p : Value × Nat) => cs.setIfInBounds (off + p.2) p.1) cs.toArray = (splice cs (off + i) vs).toArray
  | [], i, cs, _ => by simp [splice]
  | v :: vs, i, cs, h => by
    simp only [List.length_cons] at h
    rw [List.zipIdx_cons, List.foldl_cons]
    have e : cs.toArray.setIfInBounds (off + i) v = (cs.set (off + i) v).toArray := by simp
    rw [e, foldl_splice off vs (i + 1) (cs.set (off + i) v) (by simp; omega)]
    congr 1
    unfold splice
    have h1 : off + i < cs.length := by omega
    rw [List.set_eq_take_append_cons_drop, if_pos h1]
    have hl : (cs.take (off + i)).length = off + i := by simp; omega
    have h2 : (cs.take (off + i) ++ v :: cs.drop (off + i + 1)).take (off + (i + 1)) = cs.take (off + i) ++ [v] := by
      rw [List.take_append, hl, List.take_of_length_le (by omega)]
      have : off + (i + 1) - (off + i) = 1 := by omega
      rw [this]; rfl
    have h3 : (cs.take (off + i) ++ v :: cs.drop (off + i + 1)).drop (off + (i + 1) + vs.length) = cs.drop (off + i + (v :: vs).length) := by
      rw [List.drop_append, hl, List.drop_of_length_le (by omega), List.nil_append]
      have : off + (i + 1) + vs.length - (off + i) = vs.length + 1 := by omega
      rw [this, List.drop_succ_cons, List.drop_drop]
      congr 1
      simp only [List.length_cons]
      omega
    rw [h2, h3]
    simp

/-- parts laid over cells -/
def fillL (pl : List (Nat × Nat)) : List Value → List (Nat × Value) → Option (List Value)
  | cells, [] => some cells
  | cells, (i, v) :: rest => match pl[i]? with
    | none => none
    | some (off, size) => if v.cells.toList.length = size ∧ off + v.cells.toList.length ≤ cells.length then fillL pl (splice cells off v.cells.toList) rest else none

theorem fill_eq (pl : List (Nat × Nat)) (place : Nat → Option (Nat × Nat)) : ∀ (parts : List (Nat × Value)) (cells : List Value) {out : List Value}, (∀ p ∈ parts, place p.1 = pl[p.1]?) → fillL pl cells parts = some out → Instr.fill place cells.toArray parts = some out.toArray
  | [], cells, out, _, h => by simp only [fillL, Option.some.injEq] at h; subst h; rfl
  | (i, v) :: rest, cells, out, hp, h => by
    unfold fillL at h
    unfold Instr.fill
    rw [hp (i, v) (by simp)]
    split at h
    · cases h
    · rename_i off size heq
      simp only [heq]
      split at h
      · rename_i hc
        obtain ⟨h1, h2⟩ := hc
        have h1' : v.cells.size = size := by simpa using h1
        have h2' : off + v.cells.size ≤ cells.length := by simpa using h2
        have hf := foldl_splice off v.cells.toList 0 cells (by simpa using h2')
        have e : v.cells.zipIdx.foldl (fun cs (p : Value × Nat) => cs.setIfInBounds (off + p.2) p.1) cells.toArray = (splice cells off v.cells.toList).toArray := by
          rw [← Array.foldl_toList, Array.toList_zipIdx]
          simpa using hf
        have hcond : (decide (v.cells.size ≠ size) || decide (off + v.cells.size > cells.toArray.size)) = false := by
          subst h1'
          simp
          omega
        rw [if_neg (by rw [hcond]; simp)]
        have := fill_eq pl place rest (splice cells off v.cells.toList) (fun p hp' => hp p (List.mem_cons_of_mem _ hp')) h
        rw [← e] at this
        exact this
      · cases h

/-- how a struct's parts lie -/
def Places (P : Program) (fs : Array Field) (pl : List (Nat × Nat)) : Prop := ∀ w, (fs.mapM fun (f : Field) => (do pure (f.offset, ← sizeOf f.type) : Sem (Nat × Nat))).run P w = .ok pl.toArray w

def EvP (F : Fr) : List (Nat × Operand) → List (Nat × Value) → Prop
  | [], [] => True
  | (i, x) :: xs, (j, v) :: vs => i = j ∧ evo F x = some v ∧ EvP F xs vs
  | _,_ => False
theorem pn {F : Fr} : EvP F [] [] := trivial
theorem pc {F : Fr} {i : Nat} {x : Operand} {xs : List (Nat × Operand)} {v : Value} {vs : List (Nat × Value)} (h : evo F x = some v) (t : EvP F xs vs) : EvP F ((i, x) :: xs) ((i, v) :: vs) := ⟨rfl, h, t⟩
theorem EvP.map {F : Fr} : ∀ {xs : List (Nat × Operand)} {vs : List (Nat × Value)}, EvP F xs vs → xs.map (fun (p : Nat × Operand) => (p.1, evl F p.2)) = vs
  | [], [], _ => rfl
  | (i, x) :: xs, (j, v) :: vs, h => by
    obtain ⟨e, h, hs⟩ := h
    subst e
    rw [List.map_cons, EvP.map hs, evl_of h]
  | [], _ :: _, h => h.elim
  | _ :: _, [], h => h.elim

theorem r_buildS {fs : Array Field} {pl : List (Nat × Nat)} {zs out : List Value} {parts : List (Nat × Operand)} {pv : List (Nat × Value)} (hu : Und P T (.struct fs)) (hz : Zero P T (.agg zs.toArray)) (hp : Places P fs pl)
    (hv : EvP l parts pv) (hf : fillL pl zs pv = some out) : (execOp (evl l) ⟨d, .build T parts.toArray, ty, pos, after, g⟩).run P w = .ok (.value (.agg out.toArray)) w := by
  have h1 := fill_eq pl (fun i => pl.toArray[i]?) pv zs (fun p _ => by simp) hf
  have h2 := hv.map
  have h3 := hp w
  simp only [execOp, Instr.build, Sem.run_bind, hz w, Result.andThen_ok, hu w]
  rw [h3]
  simp only [Result.andThen_ok, Value.cells]
  have h4 : (Array.map (fun (x : Nat × Operand) => match x with | (i, x) => (i, evl l x)) parts.toArray).toList = pv := by
    rw [← h2]; simp
  rw [h4, h1]
  rfl

/-! ### New blocks -/
theorem m_alloc {z : Value} (H : St w0 X w L) (hz : Zero P T z) (hc : z.cells = cs.toArray) :
    ∃ w' b, (execOp (evl l) ⟨d, .alloc T, ty, pos, after, g⟩).run P w = .ok (.value (.pointer (some ⟨b, 0, none⟩))) w' ∧ St w0 X w' ((b, .cells cs.toArray T (0, 0)) :: L) := by
  refine ⟨_, w.heap.size, ?_, H.alloc (.cells cs.toArray T (0, 0))⟩
  simp [execOp, Instr.alloc, hz w, newVar, newRow, hc]

theorem m_box (H : St w0 X w L) (hx : evo l x = some v) (hc : v.cells = cs.toArray) :
    ∃ w' b, (execOp (evl l) ⟨d, .box T x, ty, pos, after, g⟩).run P w = .ok (.value (.pointer (some ⟨b, 0, none⟩))) w' ∧ St w0 X w' ((b, .cells cs.toArray T (0, 0)) :: L) := by
  refine ⟨_, w.heap.size, ?_, H.alloc (.cells cs.toArray T (0, 0))⟩
  simp [execOp, Instr.box, newVar, newRow, evl_of hx, hc]

end

/-! ### Results -/
section
variable {P : Program} {w : World} {l : List Value} {T E : TypeId} {b off : Nat} {cs vs : List Value} {v v1 v2 v3 : Value} {fz : Nat × Nat} {fn : Func} {r1 r2 r3 : ResultVar}

def RC (P : Program) (l : List Value) (w : World) (r : ResultVar) (v : Value) : Prop :=
  match r with
  | .tmp t => l[t]? = some v
  | .cell a t => ∃ ad, l[a]? = some (.pointer (some ad)) ∧ (loadVar t ad).run P w = .ok v w

theorem rc_tmp {t : Tmp} (h : l[t]? = some v) : RC P l w (.tmp t) v := h
theorem rc_cell1 {t : Tmp} (ha : IsAgg P T false) (h : l[t]? = some (.pointer (some ⟨b, off, none⟩))) (hb : w.heap[b]? = some (.cells cs.toArray E fz)) (hc : cs[off]? = some v) : RC P l w (.cell t T) v := by
  have h2 : w.cell? ⟨b, off, none⟩ = some v := (cell_at hb).trans hc
  exact ⟨_, h, by simp [loadVar, ha w, h2]⟩
theorem rc_celln {t : Tmp} {n : Nat} (ha : IsAgg P T true) (hs : Size P T n) (h : l[t]? = some (.pointer (some ⟨b, off, none⟩))) (hb : w.heap[b]? = some (.cells cs.toArray E fz)) (hc : (cs.drop off).take n = vs) (hn : vs.length = n) : RC P l w (.cell t T) (.agg vs.toArray) := by
  have h2 := run_loadRow (P := P) hb hc hn
  exact ⟨_, h, by simp [loadVar, ha w, hs w, h2]⟩
theorem rc_one (hf : fn.results = #[r1]) (h1 : RC P l w r1 v1) : (results fn l.toArray).run P w = .ok v1 w := by
  unfold results
  rw [hf]
  cases r1
  · have h1 : l[_]? = some v1 := h1
    simp [h1]
  · obtain ⟨a, h1, k1⟩ := h1
    simp [h1, k1, asAddr]
theorem rc_two (hf : fn.results = #[r1, r2]) (h1 : RC P l w r1 v1) (h2 : RC P l w r2 v2) : (results fn l.toArray).run P w = .ok (.tuple #[v1, v2]) w := by
  unfold results
  rw [hf]
  cases r1
  · have h1 : l[_]? = some v1 := h1
    cases r2
    · have h2 : l[_]? = some v2 := h2
      simp [h1, h2]
    · obtain ⟨a2, h2, k2⟩ := h2
      simp [h1, h2, k2, asAddr]
  · obtain ⟨a, h1, k1⟩ := h1
    cases r2
    · have h2 : l[_]? = some v2 := h2
      simp [h1, h2, k1, asAddr]
    · obtain ⟨a2, h2, k2⟩ := h2
      simp [h1, h2, k1, k2, asAddr]
end

/-! ### The steps -/
section
variable {P : Program} {Q : Exit → Act → World → Prop} {w0 w : World} {X : List Nat} {L L1 L' : List (Nat × Obj)} {F : Fr} {d : Option Tmp} {ty : TypeId} {pos : String} {after : Array Edge}
  {ops : Array Oper} {rest : List Oper} {op : Op}

theorem s_st (h : ∃ w', (execOp (evl F) ⟨d, op, ty, pos, after, none⟩).run P w = .ok .skip w' ∧ St w0 X w' L1) (hL : L1 = L')
    (k : ∀ w', St w0 X w' L' → WL P ops Q rest (putl F d undef) w') : WL P ops Q (⟨d, op, ty, pos, after, none⟩ :: rest) F w := by
  subst hL
  obtain ⟨w', hr, hS⟩ := h
  exact s_skip hr (k w' hS)

theorem s_new {V : Nat → Value} {N : Nat → Nat × Obj} (h : ∃ w' b, (execOp (evl F) ⟨d, op, ty, pos, after, none⟩).run P w = .ok (.value (V b)) w' ∧ St w0 X w' (N b :: L))
    (k : ∀ w' b, St w0 X w' (N b :: L) → WL P ops Q rest (putl F d (V b)) w') : WL P ops Q (⟨d, op, ty, pos, after, none⟩ :: rest) F w := by
  obtain ⟨w', b, hr, hS⟩ := h
  exact s_val hr (k w' b hS)

/-- whatever an operation gives, told by R -/
theorem s_any {R : Value → World → Prop} (h : ∃ v w', (execOp (evl F) ⟨d, op, ty, pos, after, none⟩).run P w = .ok (.value v) w' ∧ R v w')
    (k : ∀ v w', R v w' → WL P ops Q rest (putl F d v) w') : WL P ops Q (⟨d, op, ty, pos, after, none⟩ :: rest) F w := by
  obtain ⟨v, w', hr, hR⟩ := h
  exact s_val hr (k v w' hR)
end
end Go.Er


/-
  Regions that draw their order.
-/
namespace Go.Er
open Go

section
variable {P : Program} {Q : Exit → Act → World → Prop} {S : World → Prop} {w0 w : World} {X : List Nat} {L L1 L' : List (Nat × Obj)} {l l' : List Value} {F : Fr} {d : Option Tmp} {op : Op} {ty : TypeId} {pos : String} {after : Array Edge}
  {ops : List Oper} {n i j k m : Nat} {listed listed' : List Bool} {v : Value}

@[irreducible] def RG (P : Program) (ops : List Oper) (Q : Exit → Act → World → Prop) (S : World → Prop) (n : Nat) (listed : List Bool) (F : Fr) (w : World) : Prop :=
  wpAnyH P .any ops.toArray Q S n listed.toArray ⟨F.all.toArray, []⟩ w

theorem d_begin {id sz : Nat} {Lb : List (Nat × Obj)} (hz : l.length = sz ∧ Nat.ble sz 1000 = true) (hm : P.follows .mixedOrders = true) (H : St w0 X w L) (_ : St w0 X w Lb) (hn : ops.length = n)
    (h : ∀ w, St w0 X w L → RG P ops Q (fun W => St w0 X W Lb) n (List.replicate n false) ⟨[], l, sz, hz⟩ w) : (Code.region id ops.toArray true).wp P Q ⟨l.toArray, []⟩ w := by
  refine wp_region_held (S := fun W => St w0 X W Lb) hm ?_
  have h' := h { w with drawn := w.drawn + 1 } (H.drew (Nat.le_succ _))
  subst hn
  unfold RG at h'
  rw [Fr.all_nil] at h'
  simpa using h'

def Ready (ops : List Oper) (listed : List Bool) : List Nat := Region.ready .any ops.toArray listed.toArray

theorem d_done (hr : Ready ops listed = []) (hl : F.all = l') (h : Q .normal ⟨l'.toArray, []⟩ w) : RG P ops Q S n listed F w := by subst hl; unfold RG; exact wpAnyH_done hr h n

/-- may number i be taken first? -/
def May1 (ops : List Oper) (listed : List Bool) (i : Nat) : Bool := Region.noSelect ops.toArray && Region.free .any ops.toArray listed.toArray i && (Ready ops listed).contains i

theorem d_takeY {o : Oper} (hi : ops[i]? = some o) (hc : May1 ops listed i = true) (hQ : ∀ c (a : Act) w, Q (.panic c) (a.put o.dst v) w → Q (.panic c) a w)
    (hy : YieldsIf P ops.toArray S o v ⟨F.all.toArray, []⟩) (hS : S w) (hl : listed.set i true = listed') (h : RG P ops Q S n listed' (putl F o.dst v) w) : RG P ops Q S (n + 1) listed F w := by
  subst hl
  simp only [May1, Bool.and_eq_true] at hc
  unfold RG at h ⊢
  refine wpAnyH_take (i := i) (oi := o) (by simpa using hi) hc.1.1 hc.1.2 hc.2 hQ hy hS ?_
  rw [put_putl]
  simpa using h

theorem d_take (hi : ops[i]? = some ⟨d, op, ty, pos, after, none⟩) (hc : May1 ops listed i = true) (hQ : ∀ c (a : Act) w, Q (.panic c) (a.put d v) w → Q (.panic c) a w)
    (hS : S w) (hy : ∀ w, S w → (execOp (evl F) ⟨d, op, ty, pos, after, none⟩).run P w = .ok (.value v) w) (hl : listed.set i true = listed') (h : RG P ops Q S n listed' (putl F d v) w) : RG P ops Q S (n + 1) listed F w :=
  d_takeY hi hc hQ (.inl ⟨by simp [Region.wanted], fun w hw => by rw [eval_evl]; exact hy w hw⟩) hS hl h

theorem d_takeG {g : Nat} {want : Bool} {t : Tmp} (hi : ops[i]? = some ⟨d, op, ty, pos, after, some (g, want)⟩) (hc : May1 ops listed i = true) (hQ : ∀ c (a : Act) w, Q (.panic c) (a.put d v) w → Q (.panic c) a w)
    (ht : (ops[g]?).bind (·.dst) = some t) (hb : evo F (.tmp t) = some (.bool want))
    (hS : S w) (hy : ∀ w, S w → (execOp (evl F) ⟨d, op, ty, pos, after, some (g, want)⟩).run P w = .ok (.value v) w) (hl : listed.set i true = listed') (h : RG P ops Q S n listed' (putl F d v) w) : RG P ops Q S (n + 1) listed F w :=
  d_takeY hi hc hQ (.inl ⟨by simp only [Region.wanted]; rw [evl_guardOk (t := t) (b := want) (by simpa using ht) hb]; simp, fun w hw => by rw [eval_evl]; exact hy w hw⟩) hS hl h

theorem d_takeN {g : Nat} {want b : Bool} {t : Tmp} (hi : ops[i]? = some ⟨d, op, ty, pos, after, some (g, want)⟩) (hc : May1 ops listed i = true) (hQ : ∀ c (a : Act) w, Q (.panic c) (a.put d undef) w → Q (.panic c) a w)
    (ht : (ops[g]?).bind (·.dst) = some t) (hb : evo F (.tmp t) = some (.bool b)) (hne : b ≠ want)
    (hS : S w) (hl : listed.set i true = listed') (h : RG P ops Q S n listed' (putl F d undef) w) : RG P ops Q S (n + 1) listed F w :=
  d_takeY hi hc hQ (.inr ⟨by simp only [Region.wanted]; rw [evl_guardOk (t := t) (b := b) (by simpa using ht) hb]; simpa using hne, rfl⟩) hS hl h

/-- a test: the ways part -/
theorem d_part {p : Prop} [Decidable p] {t : Nat} (kt : p → RG P ops Q S n listed (putl F (some t) (.bool true)) w) (kf : ¬ p → RG P ops Q S n listed (putl F (some t) (.bool false)) w) : RG P ops Q S n listed (putl F (some t) (.bool (decide p))) w := by
  by_cases h : p
  · rw [decide_eq_true h]; exact kt h
  · rw [decide_eq_false h]; exact kf h
/-- number i comes up -/
@[irreducible] def Br (P : Program) (ops : List Oper) (Q : Exit → Act → World → Prop) (S : World → Prop) (n : Nat) (listed : List Bool) (i : Nat) (F : Fr) (w : World) : Prop :=
  wpOp P ops.toArray Q i (fun a' w' => S w' ∧ wpAnyH P .any ops.toArray Q S n (listed.set i true).toArray a' w') ⟨F.all.toArray, []⟩ w

theorem d_all1 (hr : Ready ops listed = [i]) (h : Br P ops Q S n listed i F w) : RG P ops Q S (n + 1) listed F w := by
  unfold RG
  refine wpAnyH_all hr (by simp) ?_
  intro x hx
  simp only [List.mem_singleton] at hx
  subst hx
  simpa [Br] using h
theorem d_all2 (hr : Ready ops listed = [i, j]) (h1 : Br P ops Q S n listed i F w) (h2 : Br P ops Q S n listed j F w) : RG P ops Q S (n + 1) listed F w := by
  unfold RG
  refine wpAnyH_all hr (by simp) ?_
  intro x hx
  simp only [List.mem_cons, List.not_mem_nil, or_false] at hx
  rcases hx with rfl | rfl
  · simpa [Br] using h1
  · simpa [Br] using h2
theorem d_all3 (hr : Ready ops listed = [i, j, k]) (h1 : Br P ops Q S n listed i F w) (h2 : Br P ops Q S n listed j F w) (h3 : Br P ops Q S n listed k F w) : RG P ops Q S (n + 1) listed F w := by
  unfold RG
  refine wpAnyH_all hr (by simp) ?_
  intro x hx
  simp only [List.mem_cons, List.not_mem_nil, or_false] at hx
  rcases hx with rfl | rfl | rfl
  · simpa [Br] using h1
  · simpa [Br] using h2
  · simpa [Br] using h3
/-- the guard of an operation says yes -/
def Go1 (ops : List Oper) (o : Oper) (F : Fr) : Prop := Region.wanted o (yielded ops.toArray F.all.toArray) = true
theorem go_none : Go1 ops ⟨d, op, ty, pos, after, none⟩ F := by simp [Go1, Region.wanted]
theorem go_some {g : Nat} {want : Bool} {t : Tmp} (ht : (ops[g]?).bind (·.dst) = some t) (hb : evo F (.tmp t) = some (.bool want)) : Go1 ops ⟨d, op, ty, pos, after, some (g, want)⟩ F := by
  simp only [Go1, Region.wanted]; rw [evl_guardOk (t := t) (b := want) (by simpa using ht) hb]; simp

theorem b_st {o : Oper} (hi : ops[i]? = some o) (hg : Go1 ops o F) (hr : ∃ w', (execOp (evl F) o).run P w = .ok .skip w' ∧ St w0 X w' L1) (hL : L1 = L') (hl : listed.set i true = listed')
    (hS : ∀ w, St w0 X w L' → S w) (h : ∀ w, St w0 X w L' → RG P ops Q S n listed' (putl F o.dst undef) w) : Br P ops Q S n listed i F w := by
  subst hL hl
  obtain ⟨w', hr, hst⟩ := hr
  unfold Br wpOp
  simp only [List.getElem?_toArray, hi]
  unfold Go1 at hg
  rw [if_pos hg]
  refine .inl ?_
  unfold Oper.wp
  rw [eval_evl, hr, Oper.upon_skip, put_putl]
  have h := h _ hst
  unfold RG at h
  exact ⟨hS _ hst, h⟩

theorem b_new {o : Oper} {V : Nat → Value} {N : Nat → Nat × Obj} (hi : ops[i]? = some o) (hg : Go1 ops o F) (hr : ∃ w' b, (execOp (evl F) o).run P w = .ok (.value (V b)) w' ∧ St w0 X w' (N b :: L)) (hl : listed.set i true = listed')
    (hS : ∀ w b, St w0 X w (N b :: L) → S w) (h : ∀ w b, St w0 X w (N b :: L) → RG P ops Q S n listed' (putl F o.dst (V b)) w) : Br P ops Q S n listed i F w := by
  subst hl
  obtain ⟨w', b, hr, hst⟩ := hr
  unfold Br wpOp
  simp only [List.getElem?_toArray, hi]
  unfold Go1 at hg
  rw [if_pos hg]
  refine .inl ?_
  unfold Oper.wp
  rw [eval_evl, hr, Oper.upon_value, put_putl]
  have h := h _ _ hst
  unfold RG at h
  exact ⟨hS _ _ hst, h⟩

theorem b_val {o : Oper} (hi : ops[i]? = some o) (hg : Go1 ops o F) (hr : (execOp (evl F) o).run P w = .ok (.value v) w) (hl : listed.set i true = listed')
    (hS : S w) (h : RG P ops Q S n listed' (putl F o.dst v) w) : Br P ops Q S n listed i F w := by
  subst hl
  unfold Br wpOp
  simp only [List.getElem?_toArray, hi]
  unfold Go1 at hg
  rw [if_pos hg]
  refine .inl ?_
  unfold Oper.wp
  rw [eval_evl, hr, Oper.upon_value, put_putl]
  unfold RG at h
  exact ⟨hS, h⟩

theorem b_any {o : Oper} {R : Value → World → Prop} (hi : ops[i]? = some o) (hg : Go1 ops o F) (hr : ∃ v w', (execOp (evl F) o).run P w = .ok (.value v) w' ∧ R v w') (hl : listed.set i true = listed')
    (hS : ∀ v w, R v w → S w) (h : ∀ v w, R v w → RG P ops Q S n listed' (putl F o.dst v) w) : Br P ops Q S n listed i F w := by
  subst hl
  obtain ⟨v, w', hr, hR⟩ := hr
  unfold Br wpOp
  simp only [List.getElem?_toArray, hi]
  unfold Go1 at hg
  rw [if_pos hg]
  refine .inl ?_
  unfold Oper.wp
  rw [eval_evl, hr, Oper.upon_value, put_putl]
  have h := h _ _ hR
  unfold RG at h
  exact ⟨hS _ _ hR, h⟩

theorem b_call {o : Oper} {f : FuncId} {args : Array Value} {R : Value → World → Prop} (hi : ops[i]? = some o) (hg : Go1 ops o F) (hr : (execOp (evl F) o).run P w = .ok (.enter f args) w)
    (hc : Calls P f args w fun e w' => ∃ v, e = .returned v ∧ R v w') (hl : listed.set i true = listed') (h : ∀ v w', R v w' → S w' ∧ RG P ops Q S n listed' (putl F o.dst v) w') : Br P ops Q S n listed i F w := by
  subst hl
  unfold Br wpOp
  simp only [List.getElem?_toArray, hi]
  unfold Go1 at hg
  rw [if_pos hg]
  refine .inl ?_
  unfold Oper.wp
  rw [eval_evl, hr, Oper.upon_enter]
  refine hc.mono fun e w' h' => ?_
  obtain ⟨v, rfl, hR⟩ := h'
  simp only []
  rw [put_putl]
  have h := h v w' hR
  unfold RG at h
  exact h

end
end Go.Er


/-
  append, on a row that is one's own.
-/
namespace Go.Er
open Go

section
variable {P : Program} {w0 w : World} {X : List Nat} {L : List (Nat × Obj)} {l : Fr} {d : Option Tmp} {ty : TypeId} {pos : String} {after : Array Edge} {g : Option (Nat × Bool)}
  {T T2 E : TypeId} {D2 : TypeDesc} {b : Nat} {xs sp vs : List Value} {z x : Value} {ti : TypeInfo} {n m cap sz : Nat} {args : List Operand}

/-- what is appended -/
structure Src (P : Program) (w : World) (sz : Nat) (x : Value) (m : Nat) (vs : List Value) : Prop where
  len : (Builtin.lenOf x).run P w = .ok m w
  cells : ∀ k, (Builtin.firstCells sz m x).run P { w with drawn := k } = .ok vs.toArray { w with drawn := k }
  size : vs.length = m * sz
  one : ∀ v ∈ vs, v.oneCell' = true

theorem Src.slice {b off len c : Nat} {cs : List Value} {F : TypeId} {fz : Nat × Nat} (hb : w.heap[b]? = some (.cells cs.toArray F fz)) (hc : (cs.drop off).take (len * sz) = vs) (hn : vs.length = len * sz) (h1 : ∀ v ∈ vs, v.oneCell' = true) :
    Src P w sz (.slice (some ⟨b, off, none⟩) len c) len vs :=
  ⟨by simp [Builtin.lenOf], fun k => by simp only [Builtin.firstCells]; exact run_loadRow (w := { w with drawn := k }) hb hc hn, hn, h1⟩
theorem Src.nil {c : Nat} : Src P w sz (.slice none 0 c) 0 [] :=
  ⟨by simp [Builtin.lenOf], fun k => by simp [Builtin.firstCells], by simp, fun _ h => (nomatch h)⟩

theorem zeroCells_size (z : Array Value) (n : Nat) : (Builtin.zeroCells z n).size = n * z.size := by simp [Builtin.zeroCells]

theorem erase_perm {α : Type} : ∀ (k : Nat) (L : List α) {a b : α}, L[k]? = some a → (b :: L.eraseIdx k).Perm (L.set k b)
  | _, [], _,_, h => by simp at h
  | 0, _ :: _,_,_,_ => .refl _
  | k + 1, c :: L, a, b, h => by
    have := erase_perm k L (a := a) (b := b) (by simpa using h)
    exact (List.Perm.swap c b _).trans (.cons c this)

theorem m_append_own2 (H : St w0 X w L) (k : Nat) (hu : Und P T (.slice E)) (hu2 : Und P T2 D2) (hD : ∀ q, D2 ≠ .int q) (hs : Size P E sz) (hz : Zero P E z) (hzs : z.cells.size = sz) (hi : ∀ w, (typeInfo E).run P w = .ok ti w)
    (hk : L[k]? = some (b, .cells (xs ++ sp).toArray E (0, 0))) (hn : xs.length = n * sz) (hcap : cap * sz ≤ (xs ++ sp).length) (hby : 0 < ti.bytes) (hroom : (n + m) * ti.bytes ≤ 140737488355328)
    (ha : Evs l args [.slice (some ⟨b, 0, none⟩) n cap, x]) (hx : Src P w sz x m vs) :
    ∃ v w', (execOp (evl l) ⟨d, .call ⟨.builtin .append, args.toArray, [T, T2].toArray⟩, ty, pos, after, g⟩).run P w = .ok (.value v) w' ∧
      ∃ b' cap' sp', v = .slice (some ⟨b', 0, none⟩) (n + m) cap' ∧ cap' * sz ≤ (xs ++ vs ++ sp').length ∧ n + m ≤ cap' ∧ St w0 X w' ((b', .cells (xs ++ vs ++ sp').toArray E (0, 0)) :: L.eraseIdx k) := by
  have hb := H.at k hk
  have hrun : (execOp (evl l) ⟨d, .call ⟨.builtin .append, args.toArray, [T, T2].toArray⟩, ty, pos, after, g⟩).run P w = ((Builtin.append_ #[T, T2] ty #[.slice (some ⟨b, 0, none⟩) n cap, x]).run P w).andThen fun v w' => .ok (.value v) w' := by
    simp [execOp, resolve, invoke, builtin, ha.map]
  have hl := hx.len
  have hsz := hx.size
  by_cases hfit : n + m ≤ cap
  · -- in place
    have hlen : n * sz + vs.length ≤ (xs ++ sp).length := by
      rw [hsz, ← Nat.add_mul]
      exact Nat.le_trans (Nat.mul_le_mul_right _ hfit) hcap
    have hst := run_storeCells_at (P := P) b (n * sz) E vs 0 (xs ++ sp).toArray w hb (by simpa using hlen) hx.one
    simp only [Nat.add_zero] at hst
    have e : (xs ++ sp).take (n * sz) ++ vs ++ (xs ++ sp).drop (n * sz + vs.length) = xs ++ vs ++ sp.drop vs.length := by
      rw [List.take_append, List.take_of_length_le (by omega), List.drop_append, List.drop_of_length_le (by omega)]
      have h1 : n * sz - xs.length = 0 := by omega
      have h2 : n * sz + vs.length - xs.length = vs.length := by omega
      rw [h1, h2]
      simp
    rw [e] at hst
    refine ⟨.slice (some ⟨b, 0, none⟩) (n + m) cap, w.setRow b (xs ++ vs ++ sp.drop vs.length).toArray, ?_, b, cap, sp.drop vs.length, rfl, ?_, hfit, ?_⟩
    · rw [hrun]
      have hadd : (⟨b, 0, none⟩ : Addr).add (n * sz) = ⟨b, n * sz, none⟩ := by rw [addr_add, Nat.zero_add]
      simp [Builtin.append_, hu w, hu2 w, hs w, hl, hfit, hx.cells w.drawn, hadd, hst]
    · simp only [List.length_append, List.length_drop] at hcap hlen ⊢
      omega
    · exact (H.setRow k _ hk).perm (erase_perm k L hk)
  · -- a new block
    have hgrow := growslice_fits (need := n + m) (old := cap) (bytes := ti.bytes) (by omega) hroom
    have hold : (Builtin.firstCells sz n (.slice (some ⟨b, 0, none⟩) n cap)).run P w = .ok xs.toArray w := by
      simp only [Builtin.firstCells]
      exact run_loadRow hb (by rw [List.drop_zero, List.take_append, List.take_of_length_le (by omega)]; have : n * sz - xs.length = 0 := by omega
                               rw [this]; simp) hn
    let q := Question.appendCap (n + m) cap E
    let nc := q.cut (w.tape w.drawn q)
    have hnc : n + m ≤ nc := Nat.le_add_right _ _
    let w1 : World := { w with drawn := w.drawn + 1 }
    let rest := (Builtin.zeroCells z.cells (nc - (n + m))).toList
    have H1 : St w0 X w1 L := H.drew (Nat.le_succ _)
    have H2 := H1.alloc (.cells (xs ++ vs ++ rest).toArray E (0, 0))
    refine ⟨.slice (some ⟨w.heap.size, 0, none⟩) (n + m) nc, { w1 with heap := w1.heap.push (.cells (xs ++ vs ++ rest).toArray E (0, 0)) }, ?_, w.heap.size, nc, rest, rfl, ?_, hnc, ?_⟩
    · rw [hrun]
      have hold1 : (Builtin.firstCells sz n (.slice (some ⟨b, 0, none⟩) n cap)).run P w1 = .ok xs.toArray w1 := by
        simp only [Builtin.firstCells]
        exact run_loadRow (H1.at k hk) (by rw [List.drop_zero, List.take_append, List.take_of_length_le (by omega)]; have : n * sz - xs.length = 0 := by omega
                                           rw [this]; simp) hn
      have hnew1 : (Builtin.firstCells sz m x).run P w1 = .ok vs.toArray w1 := hx.cells _
      have hch : (choose (.appendCap (n + m) cap E)).run P w = .ok nc w1 := by rw [run_choose, if_neg (by simp [Question.forced])]
      have hg2 : ¬ Builtin.nextslicecap (n + m) cap * ti.bytes > 2 ^ 48 := by
        have : (2 : Nat) ^ 48 = 281474976710656 := by decide
        omega
      have hz1 := hz w1
      simp only [Builtin.append_, List.getElem?_toArray, List.getElem?_cons_zero, List.getElem?_cons_succ, Sem.run_bind, hu w, hu2 w, hs w, hi w, Result.andThen_ok, Sem.run_pure, hl, if_false, Bool.false_eq_true, Sem.run_ite, if_neg hfit]
      have c1 : ¬ (((n + m : Nat) : Int) > IntKind.i64.max ∧ (False ∨ ti.bytes = 0)) := by
        rintro ⟨_, h | h⟩
        · exact h
        · omega
      rw [if_neg c1]
      simp only [Result.andThen_ok, if_neg hg2, hch, hi w1, run_askRoom, hold1, Bool.not_false, if_true, hnew1, hz1, newRow, Sem.run_bind, run_newObj, Sem.run_pure]
      simp [rest, w1]
      congr 2
      rw [← Array.toList_inj]
      simp
    · simp only [List.length_append, rest, Array.length_toList, zeroCells_size, hzs, hn, hsz]
      rw [← Nat.add_mul, ← Nat.add_mul]
      exact Nat.mul_le_mul_right _ (by omega)
    · exact H2.sub (.cons_cons _ (List.eraseIdx_sublist L k))

/-- onto a nil slice -/
theorem m_append_nil2 (H : St w0 X w L) (hu : Und P T (.slice E)) (hu2 : Und P T2 D2) (hD : ∀ q, D2 ≠ .int q) (hs : Size P E sz) (hz : Zero P E z) (hzs : z.cells.size = sz) (hi : ∀ w, (typeInfo E).run P w = .ok ti w)
    (hby : 0 < ti.bytes) (hm : 0 < m) (hroom : m * ti.bytes ≤ 140737488355328) (ha : Evs l args [.slice none 0 0, x]) (hx : Src P w sz x m vs) :
    ∃ v w', (execOp (evl l) ⟨d, .call ⟨.builtin .append, args.toArray, [T, T2].toArray⟩, ty, pos, after, g⟩).run P w = .ok (.value v) w' ∧
      ∃ b' cap' sp', v = .slice (some ⟨b', 0, none⟩) m cap' ∧ cap' * sz ≤ (vs ++ sp').length ∧ m ≤ cap' ∧ St w0 X w' ((b', .cells (vs ++ sp').toArray E (0, 0)) :: L) := by
  have hrun : (execOp (evl l) ⟨d, .call ⟨.builtin .append, args.toArray, [T, T2].toArray⟩, ty, pos, after, g⟩).run P w = ((Builtin.append_ #[T, T2] ty #[.slice none 0 0, x]).run P w).andThen fun v w' => .ok (.value v) w' := by
    simp [execOp, resolve, invoke, builtin, ha.map]
  have hl := hx.len
  have hsz := hx.size
  have hgrow := growslice_fits (need := 0 + m) (old := 0) (bytes := ti.bytes) (by omega) (by rw [Nat.zero_add]; exact hroom)
  let q := Question.appendCap (0 + m) 0 E
  let nc := q.cut (w.tape w.drawn q)
  have hnc : 0 + m ≤ nc := Nat.le_add_right _ _
  let w1 : World := { w with drawn := w.drawn + 1 }
  let rest := (Builtin.zeroCells z.cells (nc - (0 + m))).toList
  have H1 : St w0 X w1 L := H.drew (Nat.le_succ _)
  have H2 := H1.alloc (.cells (vs ++ rest).toArray E (0, 0))
  refine ⟨.slice (some ⟨w.heap.size, 0, none⟩) m nc, { w1 with heap := w1.heap.push (.cells (vs ++ rest).toArray E (0, 0)) }, ?_, w.heap.size, nc, rest, rfl, ?_, by omega, H2⟩
  · rw [hrun]
    have hold1 : (Builtin.firstCells sz 0 (.slice none 0 0)).run P w1 = .ok #[] w1 := by simp [Builtin.firstCells]
    have hnew1 : (Builtin.firstCells sz m x).run P w1 = .ok vs.toArray w1 := hx.cells _
    have hch : (choose (.appendCap (0 + m) 0 E)).run P w = .ok nc w1 := by rw [run_choose, if_neg (by simp [Question.forced])]
    have hg2 : ¬ Builtin.nextslicecap (0 + m) 0 * ti.bytes > 2 ^ 48 := by
      have : (2 : Nat) ^ 48 = 281474976710656 := by decide
      omega
    have hz1 := hz w1
    have hfit : ¬ 0 + m ≤ 0 := by omega
    simp only [Builtin.append_, List.getElem?_toArray, List.getElem?_cons_zero, List.getElem?_cons_succ, Sem.run_bind, hu w, hu2 w, hs w, hi w, Result.andThen_ok, Sem.run_pure, hl, if_false, Bool.false_eq_true, Sem.run_ite, if_neg hfit]
    have c1 : ¬ (((0 + m : Nat) : Int) > IntKind.i64.max ∧ (False ∨ ti.bytes = 0)) := by
      rintro ⟨_, h | h⟩
      · exact h
      · omega
    rw [if_neg c1]
    simp only [Result.andThen_ok, if_neg hg2, hch, hi w1, run_askRoom, hold1, Bool.not_false, if_true, hnew1, hz1, newRow, Sem.run_bind, run_newObj, Sem.run_pure]
    simp [rest, w1]
    congr 2
    rw [← Array.toList_inj]
    simp
  · simp only [List.length_append, rest, Array.length_toList, zeroCells_size, hzs, hsz]
    rw [← Nat.add_mul]
    exact Nat.mul_le_mul_right _ (by omega)

theorem m_append_own (H : St w0 X w L) (k : Nat) (hu : Und P T (.slice E)) (hu2 : Und P T2 D2) (hD : ∀ q, D2 ≠ .int q) (hs : Size P E sz) (hz : Zero P E z) (hzs : z.cells.size = sz) (hi : ∀ w, (typeInfo E).run P w = .ok ti w)
    (hk : L[k]? = some (b, .cells (xs ++ sp).toArray E (0, 0))) (hn : xs.length = n * sz) (hcap : cap * sz ≤ (xs ++ sp).length) (hby : 0 < ti.bytes) (hroom : (n + m) * ti.bytes ≤ 140737488355328)
    (ha : Evs l args [.slice (some ⟨b, 0, none⟩) n cap, x]) (hx : Src P w sz x m vs) :
    ∃ v w', (execOp (evl l) ⟨d, .call ⟨.builtin .append, args.toArray, [T, T2].toArray⟩, ty, pos, after, g⟩).run P w = .ok (.value v) w' ∧
      ∃ b' cap' sp', v = .slice (some ⟨b', 0, none⟩) (n + m) cap' ∧ cap' * sz ≤ (xs ++ vs ++ sp').length ∧ St w0 X w' ((b', .cells (xs ++ vs ++ sp').toArray E (0, 0)) :: L.eraseIdx k) := by
  obtain ⟨v, w', hr, b', cap', sp', hv, hc, _, H'⟩ := m_append_own2 (d := d) (ty := ty) (pos := pos) (after := after) (g := g) H k hu hu2 hD hs hz hzs hi hk hn hcap hby hroom ha hx
  exact ⟨v, w', hr, b', cap', sp', hv, hc, H'⟩
theorem m_append_nil (H : St w0 X w L) (hu : Und P T (.slice E)) (hu2 : Und P T2 D2) (hD : ∀ q, D2 ≠ .int q) (hs : Size P E sz) (hz : Zero P E z) (hzs : z.cells.size = sz) (hi : ∀ w, (typeInfo E).run P w = .ok ti w)
    (hby : 0 < ti.bytes) (hm : 0 < m) (hroom : m * ti.bytes ≤ 140737488355328) (ha : Evs l args [.slice none 0 0, x]) (hx : Src P w sz x m vs) :
    ∃ v w', (execOp (evl l) ⟨d, .call ⟨.builtin .append, args.toArray, [T, T2].toArray⟩, ty, pos, after, g⟩).run P w = .ok (.value v) w' ∧
      ∃ b' cap' sp', v = .slice (some ⟨b', 0, none⟩) m cap' ∧ cap' * sz ≤ (vs ++ sp').length ∧ St w0 X w' ((b', .cells (vs ++ sp').toArray E (0, 0)) :: L) := by
  obtain ⟨v, w', hr, b', cap', sp', hv, hc, _, H'⟩ := m_append_nil2 (d := d) (ty := ty) (pos := pos) (after := after) (g := g) H hu hu2 hD hs hz hzs hi hby hm hroom ha hx
  exact ⟨v, w', hr, b', cap', sp', hv, hc, H'⟩

theorem splice_all {cs vs : List Value} (hl : cs.length = vs.length) : splice cs 0 vs = vs := by simp [splice, hl]

/-- a literal of one element -/
theorem m_bslice1 {o : Operand} {v : Value} (H : St w0 X w L) (hu : Und P T (.slice E)) (hs : Size P E sz) (hz : Zero P E z) (h0 : 0 < sz) (h24 : sz ≤ 16777216)
    (hx : evo l o = some v) (hv : v.cells = vs.toArray) (hl : vs.length = sz) :
    ∃ w' b, (execOp (evl l) ⟨d, .buildSlice T 1 [(0, o)].toArray, ty, pos, after, g⟩).run P w = .ok (.value (.slice (some ⟨b, 0, none⟩) 1 1)) w' ∧ St w0 X w' ((b, .cells vs.toArray E (0, 0)) :: L) := by
  refine ⟨_, w.heap.size, ?_, H.alloc (.cells vs.toArray E (0, 0))⟩
  let zs := ((Array.range (1 * sz)).map (z.cells[· % z.cells.size]!)).toList
  have hzl : zs.length = sz := by simp [zs]
  have hf : fillL [(0, sz)] zs [(0, v)] = some vs := by
    simp only [fillL, List.getElem?_cons_zero, hv]
    rw [if_pos ⟨hl, by simp; omega⟩]
    congr 1
    exact splice_all (by omega)
  have hfill := fill_eq [(0, sz)] (fun i => some (i * sz, sz)) [(0, v)] zs (by simp) hf
  have e : zs.toArray = (Array.range (1 * sz)).map (z.cells[· % z.cells.size]!) := Array.toArray_toList
  rw [e] at hfill
  have h1 : ¬ 1 * sz > 2 ^ 24 := by have : (2 : Nat) ^ 24 = 16777216 := by decide
                                    omega
  have h2 : ¬ 1 * sz = 0 := by omega
  simp only [execOp, Instr.buildSlice, Sem.run_bind, hu w, Result.andThen_ok, hs w, Sem.run_ite, if_neg h1, if_neg h2, hz w, Sem.run_pure]
  simp only [List.map_toArray, List.map_cons, List.map_nil, evl_of hx, hfill]
  rfl

/-- an empty literal -/
theorem m_bslice0 (H : St w0 X w L) (hu : Und P T (.slice E)) (hs : Size P E sz) :
    ∃ w' b, (execOp (evl l) ⟨d, .buildSlice T 0 ([] : List (Nat × Operand)).toArray, ty, pos, after, g⟩).run P w = .ok (.value (.slice (some ⟨b, 0, none⟩) 0 0)) w' ∧ St w0 X w' ((b, .cells ([] : List Value).toArray E (0, 0)) :: L) := by
  refine ⟨_, w.heap.size, ?_, H.alloc (.cells ([] : List Value).toArray E (0, 0))⟩
  have h1 : ¬ 0 * sz > 2 ^ 24 := by simp
  have h2 : 0 * sz = 0 := by simp
  simp only [execOp, Instr.buildSlice, Sem.run_bind, hu w, Result.andThen_ok, hs w, Sem.run_ite, if_neg h1, if_pos h2, Sem.run_pure]
  have e : (Array.range (0 * sz)).map (fun x => (#[] : Array Value)[x % (#[] : Array Value).size]!) = #[] := by simp
  simp only [List.map_toArray, List.map_nil, e, Instr.fill]
  rfl
end
end Go.Er


/-
  The data of the layers 6 and 7: keys, held nodes, rows of them, as cells.
-/
namespace Go.Er
open Go

/-- n bytes -/
def By (n : Nat) := { l : List UInt8 // l.length = n }
abbrev Key := By 32
def bC (l : List UInt8) : List Value := l.map fun b => .int .u8 (b.toNat : Int)
def kC {n : Nat} (k : By n) : List Value := bC k.1
theorem bC_length (l : List UInt8) : (bC l).length = l.length := by simp [bC]
theorem kC_length {n : Nat} (k : By n) : (kC k).length = n := by simp [kC, bC, k.2]
theorem bC_one (l : List UInt8) : ∀ v ∈ bC l, v.oneCell' = true := by
  intro v hv; simp only [bC, List.mem_map] at hv; obtain ⟨b, _, rfl⟩ := hv; rfl
theorem kC_one {n : Nat} (k : By n) : ∀ v ∈ kC k, v.oneCell' = true := bC_one _
def By.zero (n : Nat) : By n := ⟨List.replicate n 0, by simp⟩
theorem By.ext {n : Nat} {a b : By n} (h : a.1 = b.1) : a = b := Subtype.ext h

structure Held where
  depth : Int
  at_ : Int
  seed : Key
def hC (h : Held) : List Value := .int .i64 h.depth :: .int .u64 h.at_ :: kC h.seed
theorem hC_length (h : Held) : (hC h).length = 34 := by simp [hC, kC_length]
theorem hC_one (h : Held) : ∀ v ∈ hC h, v.oneCell' = true := by
  intro v hv
  simp only [hC, List.mem_cons] at hv
  rcases hv with rfl | rfl | hv
  · rfl
  · rfl
  · exact kC_one _ v hv
def Held.zero : Held := ⟨0, 0, By.zero 32⟩
def hsC (xs : List Held) : List Value := xs.flatMap hC
theorem hsC_length (xs : List Held) : (hsC xs).length = 34 * xs.length := by
  induction xs with
  | nil => rfl
  | cons x xs ih => simp only [hsC, List.flatMap_cons, List.length_append, hC_length] at ih ⊢; rw [ih]; simp; omega
theorem hsC_one (xs : List Held) : ∀ v ∈ hsC xs, v.oneCell' = true := by
  intro v hv
  simp only [hsC, List.mem_flatMap] at hv
  obtain ⟨x, _, hx⟩ := hv
  exact hC_one x v hx
theorem hsC_append (a b : List Held) : hsC (a ++ b) = hsC a ++ hsC b := by simp [hsC]
theorem hsC_cons (a : Held) (b : List Held) : hsC (a :: b) = hC a ++ hsC b := by simp [hsC]

/-! ### What lies in a block, read -/
section
variable {n : Nat} (k : By n) (h : Held)
theorem all_td {vs : List Value} (m : Nat) (hm : vs.length = m) : (vs.drop 0).take m = vs := by subst hm; simp
theorem kC_td : ((kC k).drop 0).take n = kC k := all_td _ (kC_length k)
theorem hC_td : ((hC h).drop 0).take 34 = hC h := all_td _ (hC_length h)
theorem hC_seed : ((hC h).drop (0 + 2)).take 32 = kC h.seed := by
  show (kC h.seed).take 32 = _
  rw [List.take_of_length_le (by rw [kC_length]; omega)]
theorem hC_0 : (hC h)[0]? = some (.int .i64 h.depth) := rfl
theorem hC_00 : (hC h)[0 + 0]? = some (.int .i64 h.depth) := rfl
theorem hC_1 : (hC h)[0 + 1]? = some (.int .u64 h.at_) := rfl

/-- splices -/
theorem kC_sp (k' : By n) : splice (kC k) 0 (kC k') = kC k' := splice_all (by rw [kC_length, kC_length])
theorem hC_sp (h' : Held) : splice (hC h) 0 (hC h') = hC h' := splice_all (by rw [hC_length, hC_length])
end

/-- byte number i -/
def byt {n : Nat} (k : By n) (i : Nat) : UInt8 := k.1.getD i 0
theorem kC_byt {n : Nat} (k : By n) {o : Nat} (i : Nat) (ho : o = i) (hi : i < n) : (kC k)[o]? = some (.int .u8 ((byt k i).toNat : Int)) := by
  subst ho
  have h : o < k.1.length := by rw [k.2]; exact hi
  simp [kC, bC, byt, List.getD_eq_getElem?_getD, h]
theorem bC_byt (l : List UInt8) {o : Nat} (i : Nat) (ho : o = i) (hi : i < l.length) : (bC l)[o]? = some (.int .u8 ((l.getD i 0).toNat : Int)) := by
  subst ho
  simp [bC, List.getD_eq_getElem?_getD, hi]
/-- a row that is being written: so far 'done', behind it 'old' -/
def mix (done old : List UInt8) (i : Nat) : List UInt8 := done.take i ++ old.drop i
theorem mix_zero (d o : List UInt8) : mix d o 0 = o := by simp [mix]
theorem mix_all (d o : List UInt8) {i : Nat} (h1 : d.length = i) (h2 : o.length = i) : mix d o i = d := by unfold mix; rw [List.drop_of_length_le (by omega), List.take_of_length_le (by omega), List.append_nil]
theorem mix_length (d o : List UInt8) {i : Nat} (h : d.length = o.length) : (mix d o i).length = o.length := by simp [mix]; omega
theorem mix_set (d o : List UInt8) (i : Nat) {off : Nat} {r : Int} (h : d.length = o.length) (hi : i < o.length) (ho : off = i) (hr : r = ((d.getD i 0).toNat : Int)) : (bC (mix d o i)).set off (.int .u8 r) = bC (mix d o (i + 1)) := by
  subst ho hr
  have hd : off < d.length := by omega
  have e : Value.int .u8 ((d.getD off 0).toNat : Int) = (fun b : UInt8 => Value.int .u8 (b.toNat : Int)) (d.getD off 0) := rfl
  unfold bC
  rw [e, ← List.map_set]
  congr 1
  unfold mix
  rw [List.set_append_right _ _ (by simp; omega)]
  have h2 : off - (List.take off d).length = 0 := by simp; omega
  rw [h2, List.drop_eq_getElem_cons hi, List.set_cons_zero, List.take_succ_eq_append_getElem hd, List.append_assoc]
  simp [List.getD_eq_getElem?_getD, hd]

/-- a row of nodes, behind 'pre' cells, ahead of 'post' -/
theorem hs_td (pre : List Value) (xs : List Held) (post : List Value) (off i : Nat) (ho : pre.length = off) (hi : i < xs.length) : ((pre ++ hsC xs ++ post).drop (off + i * 34)).take 34 = hC (xs[i]'hi) := by
  subst ho
  have e : xs = xs.take i ++ (xs[i] :: xs.drop (i + 1)) := by simp
  have hl : (hsC (xs.take i)).length = i * 34 := by rw [hsC_length]; simp; omega
  have h2 : pre ++ hsC xs ++ post = (pre ++ hsC (xs.take i)) ++ (hC xs[i] ++ (hsC (xs.drop (i + 1)) ++ post)) := by
    have h3 : hsC xs = hsC (xs.take i) ++ (hC xs[i] ++ hsC (xs.drop (i + 1))) := by rw [← hsC_cons, ← hsC_append, ← e]
    rw [h3]; simp
  rw [h2, List.drop_append, List.drop_of_length_le (by simp [hl]), List.nil_append]
  have h4 : pre.length + i * 34 - (pre ++ hsC (xs.take i)).length = 0 := by simp [hl]
  rw [h4, List.drop_zero, List.take_append, List.take_of_length_le (by rw [hC_length]; omega), hC_length]
  simp

theorem hs_get (pre : List Value) (xs : List Held) (post : List Value) (off i j : Nat) (ho : pre.length = off) (hi : i < xs.length) (hj : j < 34) : (pre ++ hsC xs ++ post)[off + i * 34 + j]? = (hC (xs[i]'hi))[j]? := by
  have h := hs_td pre xs post off i ho hi
  rw [← h, List.getElem?_take, if_pos hj, List.getElem?_drop]

theorem hfill (d a : Int) (k : Key) : fillL [(0, 1), (1, 1), (2, 32)] (hC Held.zero) [(0, .int .i64 d), (1, .int .u64 a), (2, .agg (kC k).toArray)] = some (hC ⟨d, a, k⟩) := by
  have hk := kC_length k
  simp [fillL, Value.cells, splice, hC, kC_length, hk]
theorem hfill1 (k : Key) : fillL [(0, 1), (1, 1), (2, 32)] (hC Held.zero) [(2, .agg (kC k).toArray)] = some (hC ⟨0, 0, k⟩) := by
  have hk := kC_length k
  simp [fillL, Value.cells, splice, hC, kC_length, hk, Held.zero]

/-! ### The little cipher's split -/
end Go.Er


/-
  The plain law of layer 6: nodes that may be held, which one has a leaf.
-/
namespace Go.Er
open Go

theorem pow_le17 (k : Nat) (h : k ≤ 17) : (2:Int) ^ k ≤ 131072 := by
  have h1 : (2:Nat) ^ k ≤ 2 ^ 17 := Nat.pow_le_pow_right (by omega) h
  have h2 : (((2:Nat) ^ k : Nat) : Int) ≤ ((2 ^ 17 : Nat) : Int) := Int.ofNat_le.2 h1
  simpa using h2
theorem pow_step (k : Nat) : (2:Int) * 2 ^ k = 2 ^ (k + 1) := by rw [Int.pow_succ, Int.mul_comm]
/-- how many leaves a node of a depth has -/
def many (d : Int) : Int := 2 ^ (17 - d).toNat
theorem many_pos (n : Int) : 0 < many n := Int.pow_pos (by omega)
theorem many_le {n : Int} (h0 : 0 ≤ n) : many n ≤ 131072 := by
  have := pow_le17 (17 - n).toNat (by omega)
  exact this
theorem many_eq {n : Int} (h0 : 0 ≤ n) : IntKind.u64.wrap (1 * 2 ^ min (17 - n).toNat IntKind.u64.bits) = many n := by
  have hm : min (17 - n).toNat IntKind.u64.bits = (17 - n).toNat := Nat.min_eq_left (by show (17 - n).toNat ≤ 64; omega)
  rw [hm, Int.one_mul]
  have := many_le h0
  have := many_pos n
  exact w_u64 (n := many n) (by omega) (by omega)
theorem many_zero : many 0 = 131072 := by decide
theorem many_succ {n : Int} (h1 : n < 17) : many n = 2 * many (n + 1) := by
  unfold many
  rw [pow_step]
  congr 1
  omega
/-- how two numbers compare -/
def cmpI (m n : Int) : Int := if m < n then -1 else if n < m then 1 else 0

theorem cmpI_neg {m n : Int} : cmpI m n < 0 ↔ m < n := by unfold cmpI; split <;> (try split) <;> omega
theorem cmpI_nneg {m n : Int} : ¬ cmpI m n < 0 ↔ n ≤ m := by rw [cmpI_neg]; omega
theorem cmpI_zero {m n : Int} : cmpI m n = 0 ↔ m = n := by unfold cmpI; split <;> (try split) <;> omega
theorem tup_dec {x : Value} {p q : Prop} [Decidable p] [Decidable q] (h : p ↔ q) : Value.tuple #[x, .bool (decide p)] = .tuple #[x, .bool (decide q)] := by rw [decide_eq_decide.2 h]
theorem tup_false {x : Value} {q : Prop} [Decidable q] (h : ¬ q) : Value.tuple #[x, .bool false] = .tuple #[x, .bool (decide q)] := by rw [decide_eq_false h]
theorem w_i64e {n r : Int} (h : n = r) (h0 : -9223372036854775808 ≤ n) (h1 : n ≤ 9223372036854775807) : IntKind.i64.wrap n = r := by rw [w_i64 h0 h1, h]
theorem w_u64e {n r : Int} (h : n = r) (h0 : 0 ≤ n) (h1 : n < 18446744073709551616) : IntKind.u64.wrap n = r := by rw [w_u64 h0 h1, h]
theorem shr1 (m : Int) (k : IntKind) : m.fdiv (2 ^ (min (1 : Int).toNat k.bits)) = m / 2 := by
  cases k <;> exact Int.fdiv_eq_ediv_of_nonneg _ (by decide)

/-! ### Nodes that may be held -/
abbrev nd (xs : List Held) (i : Nat) : Held := xs.getD i Held.zero
theorem nd_eq {xs : List Held} {i : Nat} (h : i < xs.length) : xs[i] = nd xs i := by simp [nd, List.getD_eq_getElem?_getD, h]

theorem hs_tdn (pre : List Value) (xs : List Held) (post : List Value) (off i : Nat) (ho : pre.length = off) (hi : i < xs.length) : ((pre ++ hsC xs ++ post).drop (off + i * 34)).take 34 = hC (nd xs i) := by
  rw [hs_td pre xs post off i ho hi, nd_eq hi]
theorem hs_at (pre : List Value) (xs : List Held) (post : List Value) (off i : Nat) (ho : pre.length = off) (hi : i < xs.length) : (pre ++ hsC xs ++ post)[off + i * 34 + 1]? = some (.int .u64 (nd xs i).at_) := by
  rw [hs_get pre xs post off i 1 ho hi (by omega), nd_eq hi]; rfl
theorem hs_depth (pre : List Value) (xs : List Held) (post : List Value) (off i : Nat) (ho : pre.length = off) (hi : i < xs.length) : (pre ++ hsC xs ++ post)[off + i * 34 + 0]? = some (.int .i64 (nd xs i).depth) := by
  rw [hs_get pre xs post off i 0 ho hi (by omega), nd_eq hi]; rfl

/-- a row of nodes that a slice shows -/
def HRow (w : World) (a : Option Addr) (xs : List Held) : Prop :=
  0 < xs.length → ∃ b off pre post T fz, a = some ⟨b, off, none⟩ ∧ w.heap[b]? = some (.cells (pre ++ hsC xs ++ post).toArray T fz) ∧ pre.length = off

theorem HRow.st {w0 w : World} {L : List (Nat × Obj)} {a : Option Addr} {xs : List Held} (h : HRow w0 a xs) (H : St w0 [] w L) : HRow w a xs := by
  intro hx
  obtain ⟨b, off, pre, post, T, fz, e, hb, hp⟩ := h hx
  exact ⟨b, off, pre, post, T, fz, e, H.rd0 hb, hp⟩

def okN (h : Held) : Prop := 0 ≤ h.depth ∧ h.depth ≤ 17 ∧ 0 ≤ h.at_ ∧ h.at_ % many h.depth = 0 ∧ h.at_ < 131072
def okFrom : Int → List Held → Prop
  | _, [] => True
  | e, h :: t => okN h ∧ e ≤ h.at_ ∧ okFrom (h.at_ + many h.depth) t
def Valid (xs : List Held) : Prop := okFrom 0 xs

theorem okFrom.get {xs : List Held} : ∀ {e : Int}, okFrom e xs → ∀ i, i < xs.length → okN (nd xs i) ∧ e ≤ (nd xs i).at_ := by
  induction xs with
  | nil => intro e _ i hi; simp at hi
  | cons x xs ih =>
    intro e h i hi
    obtain ⟨h1, h2, h3⟩ := h
    cases i with
    | zero => exact ⟨h1, h2⟩
    | succ i =>
      have := ih h3 i (by simpa using hi)
      have hp := many_pos x.depth
      exact ⟨this.1, by have h4 := this.2; show e ≤ (nd xs i).at_; omega⟩
theorem Valid.get {xs : List Held} (h : Valid xs) {i : Nat} (hi : i < xs.length) : okN (nd xs i) := (okFrom.get h i hi).1

theorem okFrom.lt {xs : List Held} : ∀ {e : Int}, okFrom e xs → ∀ i j, i < j → j < xs.length → (nd xs i).at_ + many (nd xs i).depth ≤ (nd xs j).at_ := by
  induction xs with
  | nil => intro e _ i j _ hj; simp at hj
  | cons x xs ih =>
    intro e h i j hij hj
    obtain ⟨_,_, h3⟩ := h
    cases j with
    | zero => omega
    | succ j =>
      cases i with
      | zero => exact (okFrom.get h3 j (by simpa using hj)).2
      | succ i => exact ih h3 i j (by omega) (by simpa using hj)
theorem Valid.lt {xs : List Held} (h : Valid xs) {i j : Nat} (hij : i < j) (hj : j < xs.length) : (nd xs i).at_ + many (nd xs i).depth ≤ (nd xs j).at_ := okFrom.lt h i j hij hj

/-- has a node a leaf? -/
def InN (h : Held) (n : Int) : Prop := h.at_ ≤ n ∧ n < h.at_ + many h.depth

/-- what find tells -/
def FindR (xs : List Held) (n : Int) (i : Nat) (ok : Bool) : Prop :=
  (ok = true ∧ i < xs.length ∧ InN (nd xs i) n) ∨ (ok = false ∧ i = 0 ∧ ∀ j, j < xs.length → ¬ InN (nd xs j) n)

/-- what a binary search tells -/
def Bs (xs : List Held) (n : Int) (i : Nat) : Prop := i ≤ xs.length ∧ (0 < i → (nd xs (i - 1)).at_ < n) ∧ (i < xs.length → n ≤ (nd xs i).at_)

theorem okN.end_le {h : Held} (hh : okN h) : h.at_ + many h.depth ≤ 131072 := by
  obtain ⟨h0, h1, h2, h3, h4⟩ := hh
  have hp := many_pos h.depth
  -- both are multiples of many h.depth
  have e : (131072 : Int) = many h.depth * 2 ^ h.depth.toNat := by
    unfold many
    rw [← Int.pow_add]
    have : (17 - h.depth).toNat + h.depth.toNat = 17 := by omega
    rw [this]; rfl
  have hd : many h.depth * (h.at_ / many h.depth) = h.at_ := by rw [Int.mul_comm]; exact Int.ediv_mul_cancel (Int.dvd_of_emod_eq_zero h3)
  rw [e] at h4 ⊢
  rw [← hd] at h4 ⊢
  have : h.at_ / many h.depth < 2 ^ h.depth.toNat := Int.lt_of_mul_lt_mul_left h4 (by omega)
  have h5 : many h.depth * (h.at_ / many h.depth + 1) ≤ many h.depth * 2 ^ h.depth.toNat := Int.mul_le_mul_of_nonneg_left (by omega) (by omega)
  rw [Int.mul_add, Int.mul_one] at h5
  exact h5

theorem find_none_big {xs : List Held} {n : Int} (hv : Valid xs) (hn : 131072 ≤ n) : FindR xs n 0 false := by
  refine .inr ⟨rfl, rfl, fun j hj hin => ?_⟩
  have := (hv.get hj).end_le
  have := hin.2
  omega
theorem find_hit {xs : List Held} {n : Int} {i : Nat} (hi : i < xs.length) (he : (nd xs i).at_ = n) : FindR xs n i true :=
  .inl ⟨rfl, hi, by unfold InN; have := many_pos (nd xs i).depth; omega⟩
theorem find_none_first {xs : List Held} {n : Int} (hv : Valid xs) (hb : Bs xs n 0) (hne : 0 < xs.length → (nd xs 0).at_ ≠ n) : FindR xs n 0 false := by
  refine .inr ⟨rfl, rfl, fun j hj hin => ?_⟩
  have h1 := hb.2.2 (by omega)
  have h2 := hne (by omega)
  obtain ⟨h3, _⟩ := hin
  by_cases hj0 : j = 0
  · subst hj0; omega
  · have h4 := hv.lt (i := 0) (j := j) (by omega) hj
    have := many_pos (nd xs 0).depth
    omega
theorem find_none_gap {xs : List Held} {n : Int} {m : Nat} (hv : Valid xs) (hb : Bs xs n (m + 1)) (hne : m + 1 < xs.length → (nd xs (m + 1)).at_ ≠ n) (hg : many (nd xs m).depth ≤ n - (nd xs m).at_) : FindR xs n 0 false := by
  refine .inr ⟨rfl, rfl, fun j hj hin => ?_⟩
  obtain ⟨h3, h4⟩ := hin
  obtain ⟨h0, _, h6⟩ := hb
  rcases Nat.lt_trichotomy j m with h | h | h
  · have h7 := hv.lt h (by omega)
    have h8 := many_pos (nd xs m).depth
    omega
  · subst h; omega
  · have h7 := h6 (by omega)
    have h8 := hne (by omega)
    by_cases hj1 : j = m + 1
    · subst hj1; omega
    · have h9 := hv.lt (i := m + 1) (j := j) (by omega) hj
      have := many_pos (nd xs (m + 1)).depth
      omega
theorem find_in {xs : List Held} {n : Int} {m : Nat} (hb : Bs xs n (m + 1)) (hg : ¬ many (nd xs m).depth ≤ n - (nd xs m).at_) : FindR xs n m true := by
  obtain ⟨h0, h1, _⟩ := hb
  have := h1 (by omega)
  simp only [Nat.add_sub_cancel] at this
  exact .inl ⟨rfl, by omega, by unfold InN; omega⟩

/-! ### The way down -/
section
variable (sl sr : Key → Key)
def kidL (h : Held) : Held := ⟨h.depth + 1, h.at_, sl h.seed⟩
def kidR (h : Held) : Held := ⟨h.depth + 1, h.at_ + many (h.depth + 1), sr h.seed⟩
/-- k steps down: the nodes beside the way, and where it ends -/
def path : Nat → Held → Int → List Held × Held
  | 0, h, _ => ([], h)
  | k + 1, h, n =>
    if (kidR sr h).at_ ≤ n then let p := path k (kidR sr h) n; (kidL sl h :: p.1, p.2)
    else let p := path k (kidL sl h) n; (kidR sr h :: p.1, p.2)
end
section
variable (sl sr : Key → Key)
theorem path_R {k : Nat} {h : Held} {n : Int} (hc : (kidR sr h).at_ ≤ n) : path sl sr (k + 1) h n = (kidL sl h :: (path sl sr k (kidR sr h) n).1, (path sl sr k (kidR sr h) n).2) := by
  rw [path, if_pos hc]
theorem path_L {k : Nat} {h : Held} {n : Int} (hc : ¬ (kidR sr h).at_ ≤ n) : path sl sr (k + 1) h n = (kidR sr h :: (path sl sr k (kidL sl h) n).1, (path sl sr k (kidL sl h) n).2) := by
  rw [path, if_neg hc]
/-- the way so far -/
structure WayD (h : Held) (n : Int) (k : Nat) (hc : Held) (acc : List Held) : Prop where
  way : path sl sr (17 - h.depth).toNat h n = (acc ++ (path sl sr k hc n).1, (path sl sr k hc n).2)
  depth : hc.depth = 17 - k
  le : k ≤ 17
  at0 : 0 ≤ hc.at_
  at1 : hc.at_ + many hc.depth ≤ 131072
  len : acc.length + k = (17 - h.depth).toNat
variable {sl sr}
theorem WayD.start {h : Held} {n : Int} (h0 : 0 ≤ h.depth) (h1 : h.depth ≤ 17) (a0 : 0 ≤ h.at_) (a1 : h.at_ + many h.depth ≤ 131072) : WayD sl sr h n (17 - h.depth).toNat h [] :=
  ⟨by simp, by omega, by omega, a0, a1, by simp⟩
theorem WayD.right {h hc : Held} {n : Int} {k : Nat} {acc : List Held} (w : WayD sl sr h n (k + 1) hc acc) (hn : (kidR sr hc).at_ ≤ n) : WayD sl sr h n k (kidR sr hc) (acc ++ [kidL sl hc]) := by
  obtain ⟨w1, w2, w3, w4, w5, w6⟩ := w
  have hm := many_pos (hc.depth + 1)
  have h2 := many_succ (n := hc.depth) (by omega)
  refine ⟨by rw [w1, path_R sl sr hn]; simp, ?_, by omega, ?_, ?_, by simp; omega⟩
  · show hc.depth + 1 = _; omega
  · show 0 ≤ hc.at_ + many (hc.depth + 1); omega
  · show hc.at_ + many (hc.depth + 1) + many (hc.depth + 1) ≤ _; omega
theorem WayD.left {h hc : Held} {n : Int} {k : Nat} {acc : List Held} (w : WayD sl sr h n (k + 1) hc acc) (hn : ¬ (kidR sr hc).at_ ≤ n) : WayD sl sr h n k (kidL sl hc) (acc ++ [kidR sr hc]) := by
  obtain ⟨w1, w2, w3, w4, w5, w6⟩ := w
  have hm := many_pos (hc.depth + 1)
  have h2 := many_succ (n := hc.depth) (by omega)
  refine ⟨by rw [w1, path_L sl sr hn]; simp, ?_, by omega, w4, ?_, by simp; omega⟩
  · show hc.depth + 1 = _; omega
  · show hc.at_ + many (hc.depth + 1) ≤ _; omega
theorem WayD.fin {h hc : Held} {n : Int} {acc : List Held} (w : WayD sl sr h n 0 hc acc) : path sl sr (17 - h.depth).toNat h n = (acc, hc) := by
  rw [w.way]; simp [path]
end
/-- what a cipher on an interface value splits a key to -/
def SplitsBy (P : Program) (ci : Value) (sl sr : Key → Key) : Prop :=
  ∃ T v f rv, ci = .iface T v ∧ Ent P f ∧ Meth P T v "Split" f rv ∧
    ∀ k w0, Calls P f #[rv, .agg (kC k).toArray] w0 fun e w => ∃ v, e = .returned v ∧ v = .tuple #[.agg (kC (sl k)).toArray, .agg (kC (sr k)).toArray] ∧ St w0 [] w []
/-- what is called with each node beside the way: what it keeps for itself, when it has been called with some -/
def Takes (P : Program) (f : FuncId) (cs : List Value) (Foot : List Held → List (Nat × Obj) → Prop) : Prop :=
  Ent P f ∧ ∀ acc x N w0, Foot acc N → Own w0 N → acc.length ≤ 17 → Calls P f (.agg (hC x).toArray :: cs).toArray w0 fun e w => ∃ v, e = .returned v ∧ ∃ N', Foot (acc ++ [x]) N' ∧ St w0 (N.map (·.1)) w N'

/-- what Puncture's closure keeps: the variable that it captured, and the row that it holds -/
def RestF (b : Nat) (TS TE : TypeId) (acc : List Held) (N : List (Nat × Obj)) : Prop :=
  (acc = [] ∧ N = [(b, .cells [.slice none 0 0].toArray TS (0, 0))]) ∨
  (acc ≠ [] ∧ ∃ bs cap sp, N = [(bs, .cells (hsC acc ++ sp).toArray TE (0, 0)), (b, .cells [.slice (some ⟨bs, 0, none⟩) acc.length cap].toArray TS (0, 0))] ∧ cap * 34 ≤ (hsC acc ++ sp).length)
theorem hsC_one1 (x : Held) : hsC [x] = hC x := by simp [hsC]
end Go.Er


/-
  Slices of slices, make, bytes as text, equality of texts and of structs, min.
-/
namespace Go.Er
open Go

section
variable {P : Program} {w0 w : World} {X : List Nat} {L : List (Nat × Obj)} {l : Fr} {d : Option Tmp} {ty : TypeId} {pos : String} {after : Array Edge} {g : Option (Nat × Bool)}
  {x y z : Operand} {T T' E E' : TypeId} {b off sz len cap : Nat} {a : Option Addr}

/-! ### Slices of slices -/
/-- where a part begins -/
def cutA (a : Option Addr) (sz cap lo : Nat) : Option Addr := if cap = lo then a else a.map (·.add (lo * sz))
theorem cutA_some {cap lo : Nat} (h : lo < cap) : cutA (some ⟨b, off, none⟩) sz cap lo = some ⟨b, off + lo * sz, none⟩ := by
  unfold cutA; rw [if_neg (by omega), Option.map_some, addr_add]
theorem cutA_zero {cap : Nat} : cutA (some ⟨b, off, none⟩) sz cap 0 = some ⟨b, off, none⟩ := by
  unfold cutA; split
  · rfl
  · rw [Option.map_some, addr_add, Nat.zero_mul, Nat.add_zero]

theorem run_bound {k : IntKind} {i : Int} {n m : Nat} {c : BoundsCode} (h : i = (m : Int)) (h1 : m ≤ n) : (Instr.sliceBound (.int k i) n c).run P w = .ok m w := by
  subst h
  simp [Instr.sliceBound, asIntOf]
  omega

/-- x[lo:hi] -/
theorem r_sliceLH {k k' : IntKind} {lo hi : Nat} {ilo ihi : Int} (hu : Und P T (.slice E)) (hs : Size P E sz) (hx : evl l x = .slice a len cap) (hy : evl l y = .int k ilo) (hz : evl l z = .int k' ihi) (h0 : ilo = (lo : Int)) (h1 : ihi = (hi : Int)) (h2 : lo ≤ hi) (h3 : hi ≤ cap) :
    (execOp (evl l) ⟨d, .slice T x (some y) (some z) none, ty, pos, after, g⟩).run P w = .ok (.value (.slice (cutA a sz cap lo) (hi - lo) (cap - lo))) w := by
  simp only [execOp, Instr.sliceAt, Option.map_some, Option.map_none, hx, hy, hz, Sem.run_bind, hu w, Result.andThen_ok, Instr.slice, Instr.sliceBounds, Sem.run_pure, run_bound h0 h2, run_bound h1 h3, hs w, cutA]
/-- x[lo:] -/
theorem r_sliceL {k : IntKind} {lo : Nat} {ilo : Int} (hu : Und P T (.slice E)) (hs : Size P E sz) (hx : evl l x = .slice a len cap) (hy : evl l y = .int k ilo) (h0 : ilo = (lo : Int)) (h2 : lo ≤ len) :
    (execOp (evl l) ⟨d, .slice T x (some y) none none, ty, pos, after, g⟩).run P w = .ok (.value (.slice (cutA a sz cap lo) (len - lo) (cap - lo))) w := by
  simp only [execOp, Instr.sliceAt, Option.map_some, Option.map_none, hx, hy, Sem.run_bind, hu w, Result.andThen_ok, Instr.slice, Instr.sliceBounds, Sem.run_pure, run_bound h0 h2, hs w, cutA]
/-- x[:hi] -/
theorem r_sliceH {k : IntKind} {hi : Nat} {ihi : Int} (hu : Und P T (.slice E)) (hs : Size P E sz) (hx : evl l x = .slice a len cap) (hz : evl l z = .int k ihi) (h1 : ihi = (hi : Int)) (h3 : hi ≤ cap) :
    (execOp (evl l) ⟨d, .slice T x none (some z) none, ty, pos, after, g⟩).run P w = .ok (.value (.slice (cutA a sz cap 0) hi cap)) w := by
  simp only [execOp, Instr.sliceAt, Option.map_some, Option.map_none, hx, hz, Sem.run_bind, hu w, Result.andThen_ok, Instr.slice, Instr.sliceBounds, Sem.run_pure, run_bound h1 h3, hs w, cutA]
  rfl
/-- x[lo:hi:mx] -/
theorem r_slice3 {u : Operand} {k k' k'' : IntKind} {lo hi mx : Nat} {ilo ihi imx : Int} (hu : Und P T (.slice E)) (hs : Size P E sz) (hx : evl l x = .slice a len cap) (hy : evl l y = .int k ilo) (hz : evl l z = .int k' ihi) (hm : evl l u = .int k'' imx) (h0 : ilo = (lo : Int)) (h1 : ihi = (hi : Int)) (h4 : imx = (mx : Int)) (h2 : lo ≤ hi) (h3 : hi ≤ mx) (h5 : mx ≤ cap) :
    (execOp (evl l) ⟨d, .slice T x (some y) (some z) (some u), ty, pos, after, g⟩).run P w = .ok (.value (.slice (cutA a sz mx lo) (hi - lo) (mx - lo))) w := by
  simp only [execOp, Instr.sliceAt, Option.map_some, hx, hy, hz, hm, Sem.run_bind, hu w, Result.andThen_ok, Instr.slice, Instr.sliceBounds, Sem.run_pure, run_bound h0 h2, run_bound h1 h3, run_bound h4 h5, hs w, cutA]
theorem cutA_at {cap lo o : Nat} (h : lo < cap) (ho : off + lo * sz = o) : cutA (some ⟨b, off, none⟩) sz cap lo = some ⟨b, o, none⟩ := by
  rw [cutA_some h, ho]
/-- x[lo:hi], told -/
theorem r_sliceLHe {k k' : IntKind} {lo hi n' c' : Nat} {a' : Option Addr} {ilo ihi : Int} (hu : Und P T (.slice E)) (hs : Size P E sz) (hx : evl l x = .slice a len cap) (hy : evl l y = .int k ilo) (hz : evl l z = .int k' ihi) (h0 : ilo = (lo : Int)) (h1 : ihi = (hi : Int)) (h2 : lo ≤ hi) (h3 : hi ≤ cap)
    (ea : cutA a sz cap lo = a') (en : hi - lo = n') (ec : cap - lo = c') :
    (execOp (evl l) ⟨d, .slice T x (some y) (some z) none, ty, pos, after, g⟩).run P w = .ok (.value (.slice a' n' c')) w := by
  subst ea en ec; exact r_sliceLH hu hs hx hy hz h0 h1 h2 h3
theorem r_sliceLe {k : IntKind} {lo n' c' : Nat} {a' : Option Addr} {ilo : Int} (hu : Und P T (.slice E)) (hs : Size P E sz) (hx : evl l x = .slice a len cap) (hy : evl l y = .int k ilo) (h0 : ilo = (lo : Int)) (h2 : lo ≤ len)
    (ea : cutA a sz cap lo = a') (en : len - lo = n') (ec : cap - lo = c') :
    (execOp (evl l) ⟨d, .slice T x (some y) none none, ty, pos, after, g⟩).run P w = .ok (.value (.slice a' n' c')) w := by
  subst ea en ec; exact r_sliceL hu hs hx hy h0 h2
theorem r_sliceHe {k : IntKind} {hi n' : Nat} {a' : Option Addr} {ihi : Int} (hu : Und P T (.slice E)) (hs : Size P E sz) (hx : evl l x = .slice a len cap) (hz : evl l z = .int k ihi) (h1 : ihi = (hi : Int)) (h3 : hi ≤ cap) (ea : cutA a sz cap 0 = a') (en : hi = n') :
    (execOp (evl l) ⟨d, .slice T x none (some z) none, ty, pos, after, g⟩).run P w = .ok (.value (.slice a' n' cap)) w := by
  subst ea en; exact r_sliceH hu hs hx hz h1 h3
/-- an array, whole -/
theorem r_sliceA {n : Nat} (hu : Und P T (.array n E)) (hs : Size P E sz) (hx : evl l x = .pointer (some ⟨b, off, none⟩)) :
    (execOp (evl l) ⟨d, .slice T x none none none, ty, pos, after, g⟩).run P w = .ok (.value (.slice (some ⟨b, off, none⟩) n n)) w := by
  simp only [execOp, Instr.sliceAt, Option.map_none, hx, Sem.run_bind, hu w, Result.andThen_ok, Instr.sureAddr, Instr.sliceBounds, Sem.run_pure, hs w]
  simp [addr_add]
/-! ### make, of one-cell elements -/
theorem m_make {k k' : IntKind} {n nb : Nat} {i j : Int} {v : Value} (H : St w0 X w L) (ht : P.underlying T = some (.slice E)) (hi : (P.info? E).map (fun i => (i.zero, i.size, i.bytes)) = some (some v, 1, nb)) (hv : v.cells = #[v])
    (hx : evl l x = .int k i) (hy : evl l y = .int k' j) (h1 : i = (n : Int)) (h2 : j = (n : Int)) (hr : n ≤ 140737488355328) (hby : nb * n ≤ 281474976710656) :
    ∃ w' b, (execOp (evl l) ⟨d, .makeSlice T x y, ty, pos, after, g⟩).run P w = .ok (.value (.slice (some ⟨b, 0, none⟩) n n)) w' ∧ St w0 X w' ((b, .cells (List.replicate n v).toArray E (0, 0)) :: L) := by
  subst h1 h2
  obtain ⟨ti, hti, hz, hs, hb⟩ := info_parts hi
  refine ⟨_, w.heap.size, ?_, H.alloc (.cells (List.replicate n v).toArray E (0, 0))⟩
  have hbytes : (ti.bytes : Int) * (n : Int) ≤ 281474976710656 := by
    rw [hb, ← Int.natCast_mul]
    exact Int.ofNat_le.2 hby
  have h := run_make (P := P) w T E ti v ht hti hz k k' (n : Int) (n : Int) (by omega) (by omega) hbytes (by omega)
  have hcells : madeCells v.cells (n * 1) = (List.replicate n v).toArray := by
    rw [hv]
    unfold madeCells
    apply Array.ext
    · simp
    · intro i h1 h2
      simp [Nat.mod_one]
  rw [hs, Int.toNat_natCast, hcells] at h
  simp only [execOp, hx, hy, Sem.run_bind, h, Result.andThen_ok, Sem.run_pure]
  rfl

/-! ### Bytes as text -/
def bytesS (bs : List UInt8) : ByteArray := ⟨bs.toArray⟩
theorem bytesS_toList (bs : List UInt8) : (bytesS bs).toList = bs := by
  rw [ByteArray.toList_eq]; rfl
theorem foldl_bytes (bs : List UInt8) : ∀ s : ByteArray, (bs.map fun b => (b.toNat : Int)).foldl (fun r n => r.push (UInt8.ofNat n.toNat)) s = ⟨s.data ++ bs.toArray⟩ := by
  induction bs with
  | nil => intro s; simp
  | cons b bs ih =>
    intro s
    rw [List.map_cons, List.foldl_cons, ih]
    simp [ByteArray.push]
theorem r_text {c : Nat} {bs : List UInt8} {cs : List Value} {F : TypeId} {fz : Nat × Nat} (hu : Und P T (.slice E)) (hu' : Und P T' .string) (he : Und P E (.int .u8)) (hx : evl l x = .slice (some ⟨b, off, none⟩) bs.length c)
    (hb : w.heap[b]? = some (.cells cs.toArray F fz)) (hc : (cs.drop off).take bs.length = bC bs) : (execOp (evl l) ⟨d, .convert T T' x, ty, pos, after, g⟩).run P w = .ok (.value (.string (bytesS bs))) w := by
  have h := run_loadRow (P := P) hb hc (by rw [bC_length])
  have e : bC bs = (bs.map fun b => (b.toNat : Int)).map (Value.int .u8) := by simp [bC]
  rw [e] at h
  have h2 := run_bytesToString w ⟨b, off, none⟩ bs.length c _ h
  rw [foldl_bytes] at h2
  have e2 : (⟨ByteArray.empty.data ++ bs.toArray⟩ : ByteArray) = bytesS bs := by simp [bytesS]
  rw [e2] at h2
  simp [execOp, convert, hx, hu w, hu' w, he w, h2]
theorem r_text0 {n c : Nat} (hu : Und P T (.slice E)) (hu' : Und P T' .string) (he : Und P E (.int .u8)) (hx : evl l x = .slice none n c) : (execOp (evl l) ⟨d, .convert T T' x, ty, pos, after, g⟩).run P w = .ok (.value (.string (bytesS []))) w := by
  simp [execOp, convert, hx, hu w, hu' w, he w, Conv.bytesToString]
  rfl
theorem r_eqlT {s t : List UInt8} {T'' : TypeId} (hx : evl l x = .string (bytesS s)) (hy : evl l y = .string (bytesS t)) : (execOp (evl l) ⟨d, .binOp .eql T x y T'', ty, pos, after, g⟩).run P w = .ok (.value (.bool (decide (s = t)))) w := by
  have e : ((bytesS s).toList == (bytesS t).toList) = decide (s = t) := by rw [bytesS_toList, bytesS_toList]; rw [Bool.eq_iff_iff]; simp
  simp only [execOp, hx, hy, eqGuard, binOp, Op.stringOp, e]
  simp

/-! ### Equality of nodes -/
theorem Held.ext_iff' (a b : Held) : (a.depth = b.depth ∧ a.at_ = b.at_ ∧ a.seed.1 = b.seed.1) ↔ a = b := by
  constructor
  · rintro ⟨h1, h2, h3⟩
    obtain ⟨d, n, k⟩ := a
    obtain ⟨d', n', k'⟩ := b
    obtain rfl : d = d' := h1
    obtain rfl : n = n' := h2
    obtain rfl : k = k' := By.ext h3
    rfl
  · rintro rfl; exact ⟨rfl, rfl, rfl⟩
instance : DecidableEq Held := fun a b => decidable_of_iff _ (Held.ext_iff' a b)

/-! ### A row of one's own that grows -/
/-- a slice of n elements of one's own: nil, or the head of a block -/
def RowN (sz : Nat) (E : TypeId) (cs : List Value) (n : Nat) (a : Option Addr) (cap : Nat) (N : List (Nat × Obj)) : Prop :=
  cs.length = n * sz ∧ n ≤ cap ∧ ((n = 0 ∧ a = none ∧ cap = 0 ∧ N = []) ∨ ∃ b sp, a = some ⟨b, 0, none⟩ ∧ cap * sz ≤ (cs ++ sp).length ∧ N = [(b, .cells (cs ++ sp).toArray E (0, 0))])
theorem RowN.nil {sz : Nat} {E : TypeId} : RowN sz E [] 0 none 0 [] := ⟨by simp, Nat.le_refl _, .inl ⟨rfl, rfl, rfl, rfl⟩⟩

theorem m_append_row {L1 N : List (Nat × Obj)} {T2 : TypeId} {D2 : TypeDesc} {cs vs : List Value} {z u : Value} {ti : TypeInfo} {n m cap sz : Nat} {args : List Operand}
    (H : St w0 X w (L1 ++ N)) (hN : RowN sz E cs n a cap N) (hu : Und P T (.slice E)) (hu2 : Und P T2 D2) (hD : ∀ q, D2 ≠ .int q) (hs : Size P E sz) (hz : Zero P E z) (hzs : z.cells.size = sz) (hi : ∀ w, (typeInfo E).run P w = .ok ti w)
    (hby : 0 < ti.bytes) (hm : 0 < m) (hroom : (n + m) * ti.bytes ≤ 140737488355328) (ha : Evs l args [.slice a n cap, u]) (hx : Src P w sz u m vs) :
    ∃ v w', (execOp (evl l) ⟨d, .call ⟨.builtin .append, args.toArray, [T, T2].toArray⟩, ty, pos, after, g⟩).run P w = .ok (.value v) w' ∧
      ∃ a' cap' N', v = .slice a' (n + m : Nat) cap' ∧ RowN sz E (cs ++ vs) (n + m) a' cap' N' ∧ St w0 X w' (L1 ++ N') := by
  obtain ⟨hlen, hnc, ⟨rfl, rfl, rfl, rfl⟩ | ⟨b, sp, rfl, hcap, rfl⟩⟩ := hN
  · obtain ⟨v, w', hr, b', cap', sp', rfl, hc, hnc', H'⟩ := m_append_nil2 H hu hu2 hD hs hz hzs hi hby hm (by simpa using hroom) ha hx
    have hcs : cs = [] := by cases cs with
      | nil => rfl
      | cons x xs => simp at hlen
    subst hcs
    refine ⟨_, w', hr, some ⟨b', 0, none⟩, cap', [(b', .cells (vs ++ sp').toArray E (0, 0))], by rw [Nat.zero_add], ⟨by simpa using hx.size, by omega, .inr ⟨b', sp', rfl, by simpa using hc, rfl⟩⟩, ?_⟩
    rw [List.append_nil] at H'
    exact H'.perm List.perm_append_comm
  · have hk : (L1 ++ [(b, Obj.cells (cs ++ sp).toArray E (0, 0))])[L1.length]? = some (b, .cells (cs ++ sp).toArray E (0, 0)) := by simp
    obtain ⟨v, w', hr, b', cap', sp', rfl, hc, hnc', H'⟩ := m_append_own2 H L1.length hu hu2 hD hs hz hzs hi hk hlen hcap hby hroom ha hx
    refine ⟨_, w', hr, some ⟨b', 0, none⟩, cap', [(b', .cells (cs ++ vs ++ sp').toArray E (0, 0))], rfl, ⟨by rw [List.length_append, hlen, hx.size, Nat.add_mul], hnc', .inr ⟨b', sp', rfl, hc, rfl⟩⟩, ?_⟩
    have e : (L1 ++ [(b, Obj.cells (cs ++ sp).toArray E (0, 0))]).eraseIdx L1.length = L1 := by
      rw [List.eraseIdx_append_of_length_le (Nat.le_refl _)]; simp
    rw [e] at H'
    exact H'.perm List.perm_append_comm
/-- a text's byte -/
theorem r_indexStr {k : IntKind} {i : Int} {s : ByteArray} {u : UInt8} (hu : Und P T .string) (hx : evl l x = .string s) (hy : evl l y = .int k i) (h0 : 0 ≤ i) (hb : s[i.toNat]? = some u) :
    (execOp (evl l) ⟨d, .index T x y, ty, pos, after, g⟩).run P w = .ok (.value (.int .u8 (u.toNat : Int))) w := by
  simp [execOp, Instr.index, asIntOf, hx, hy, hu w, h0, hb]
end
theorem quoI {m n : Int} (h0 : 0 ≤ m) (h1 : m ≤ 9223372036854775807) (hn : 0 < n) : IntKind.i64.wrap (m.tdiv n) = m / n := by
  rw [Int.tdiv_eq_ediv_of_nonneg h0]
  have h2 : 0 ≤ m / n := Int.ediv_nonneg h0 (by omega)
  have h3 : m / n ≤ m := Int.ediv_le_self n h0
  exact w_i64 (by omega) (by omega)
end Go.Er


/-
  A range over a function, at the state 'St': the loop's record and the block of its rounds' deferred calls are two owned blocks more.
-/
namespace Go.Er
open Go

/-! ### A list of operations, in a round, or behind a mark -/
section
variable {P : Program} {ops : Array Oper} {Q Q' : Exit → Act → World → Prop} {m : Nat} {F : Fence}

/-- a fence that lets everything in -/
structure Lets (F : Fence) : Prop where
  fn : ∀ f, F.fn f
  depth : F.depth = none
  calls : ∀ {P : Program} {f : FuncId} {args : Array Value} {w : World} {R : Ending → World → Prop} {k : Nat}, Calls P f args w R → CallsIn F k P f args w R
  rows : ∀ {P : Program} {row : String} {args : Array Value} {w : World} {R : Value → World → Prop} {k : Nat}, Rows P row args w R → RowsIn F k P row args w R

theorem lets_wide : Lets Fence.wide :=
  ⟨fun _ => trivial, rfl, fun h => callsIn_wide.2 h, fun h c cs _ => let ⟨v, w', r, s⟩ := h c cs; ⟨v, w', r, stepsIn_wide.2 s⟩⟩
theorem lets_round (l : Nat) : Lets (Fence.wide.inRound l) :=
  ⟨fun _ => trivial, rfl, fun h => CallsIn.inRound l (callsIn_wide.2 h), fun h c cs _ => let ⟨v, w', r, s⟩ := h c cs; ⟨v, w', r, stepsIn_wide.2 s⟩⟩

/-- no defer statement -/
def noDefer (ops : List Oper) : Bool := ops.all fun o => match o.op with | .defer _ => false | _ => true

theorem noDefer.at {l : List Oper} (h : noDefer l = true) {i : Nat} {o : Oper} (hi : l.toArray[i]? = some o) : ∀ c, o.op ≠ .defer c := by
  intro c hc
  have h1 := List.all_eq_true.1 h o (List.mem_of_getElem? (by simpa using hi))
  rw [hc] at h1
  cases h1

theorem oper_in (hF : Lets F) {o : Oper} (ho : ∀ c, o.op ≠ .defer c) {t : Array Value} {es ds : List Deferred} {w : World} {K K' : Act → World → Prop}
    (hK : ∀ t es w, K ⟨t, es⟩ w → K' ⟨t, es ++ ds⟩ w) (hQ : ∀ c t es w, Q' (.panic c) ⟨t, es⟩ w → Q (.panic c) ⟨t, es ++ ds⟩ w) (hout : ¬ LetsOut Q') (h : o.wp P ⟨t, es⟩ w K Q') : o.wpIn F m P ⟨t, es ++ ds⟩ w K' Q := by
  refine ⟨fun _ _ => hF.fn _, ?_⟩
  have hs : Oper.semAt F.round (Act.eval ⟨t, es ++ ds⟩) o = execOp (Act.eval ⟨t, es⟩) o := Oper.semAt_eq _ _ _ ho
  rw [hs]
  unfold Oper.wp at h
  have hput : ∀ v (es : List Deferred) w, K (Act.put ⟨t, es⟩ o.dst v) w → K' (Act.put ⟨t, es ++ ds⟩ o.dst v) w := by
    intro v es w hk
    cases hd : o.dst with
    | none => rw [hd] at hk; exact hK _ _ _ hk
    | some d => rw [hd] at hk; exact hK _ _ _ hk
  generalize (execOp (Act.eval ⟨t, es⟩) o).run P w = r at h
  have hdep : F.depth.isSome = true → 1 ≤ m := by rw [hF.depth]; simp
  cases r with
  | ok x w' =>
    cases x <;> simp only [Oper.upon, Oper.uponIn] at h ⊢
    case value v => exact hput _ _ _ h
    case skip => exact hput _ _ _ h
    case defer d => exact hput _ (d :: es) _ h
    case enter f args =>
      refine ⟨hdep, hF.calls (h.mono fun e w'' he => ?_)⟩
      cases e with
      | returned v => exact hput _ _ _ he
      | panicked c => exact hQ _ _ _ _ he
      | outgrown => exact absurd he hout
    case row row args => exact ⟨hdep, hF.rows (h.mono fun v w'' he => hput _ _ _ he)⟩
  | halt x w' =>
    cases x <;> simp only [Oper.upon, Oper.uponIn] at h ⊢
    case panic v => exact hQ _ _ _ _ h

theorem opsIn (hF : Lets F) {l : List Oper} (hl : noDefer l = true) {ds : List Deferred} (hQ : ∀ e t es w, Q' e ⟨t, es⟩ w → Q e ⟨t, es ++ ds⟩ w) (hout : ¬ LetsOut Q') :
    ∀ (li : List Nat) (t : Array Value) (es : List Deferred) (w : World), wpOps P l.toArray Q' li ⟨t, es⟩ w → wpOpsIn F m P l.toArray Q li ⟨t, es ++ ds⟩ w := by
  intro li
  induction li with
  | nil => exact fun t es w h => hQ _ _ _ _ h
  | cons i rest ih =>
    intro t es w h
    simp only [wpOps, wpOpsIn] at h ⊢
    cases ho : l.toArray[i]? with
    | none => simp only [ho] at h ⊢; exact ih _ _ _ h
    | some o =>
      simp only [ho] at h ⊢
      by_cases hw : Region.wanted o (yielded l.toArray t) = true
      · simp only [hw, if_true] at h ⊢
        rcases h with h | ⟨_, h⟩
        · exact oper_in hF (noDefer.at hl ho) ih (fun c => hQ (.panic c)) hout h
        · exact absurd h hout
      · simp only [hw, if_false, Bool.false_eq_true] at h ⊢
        refine ⟨fun _ _ => hF.fn _, ?_⟩
        cases hd : o.dst with
        | none => rw [hd] at h; exact ih _ _ _ h
        | some d => rw [hd] at h; exact ih _ _ _ h

theorem listIn (hF : Lets F) {l : List Oper} (hl : noDefer l = true) {ds : List Deferred} (hQ : ∀ e t es w, Q' e ⟨t, es⟩ w → Q e ⟨t, es ++ ds⟩ w) (hout : ¬ LetsOut Q') {t : Array Value} {w : World} {id : Nat}
    (h : wpList P l.toArray Q' l ⟨t, []⟩ w) : (Code.region id l.toArray false).wpIn F m P Q ⟨t, ds⟩ w := by
  refine wpIn_region ?_
  have h1 : wpOps P l.toArray Q' (List.range l.toArray.size) ⟨t, []⟩ w := by
    rw [List.range_eq_range', ← Array.length_toList, wpOps_eq_wpList l.toArray.toList 0 (by simp)]
    exact h
  exact opsIn hF hl hQ hout _ _ [] _ h1

theorem drawIn (hF : Lets F) (hm : P.follows .mixedOrders = true) {l : List Oper} (hl : noDefer l = true) {ds : List Deferred} (hQ : ∀ e t es w, Q' e ⟨t, es⟩ w → Q e ⟨t, es ++ ds⟩ w) (hout : ¬ LetsOut Q') {S : World → Prop} {t : Array Value} {w : World} {id : Nat}
    (h : wpAnyH P .any l.toArray Q' S l.toArray.size (Array.replicate l.toArray.size false) ⟨t, []⟩ { w with drawn := w.drawn + 1 }) : (Code.region id l.toArray true).wpIn F m P Q ⟨t, ds⟩ w := by
  refine wpIn_region_draw fun s => ?_
  have h1 : wpOps P l.toArray Q' (Region.schedule (P.follows .mixedOrders) l.toArray s) ⟨t, []⟩ { w with drawn := w.drawn + 1 } := by
    simp only [Region.schedule, hm, Bool.true_or, if_true]
    exact wpAny_sound l.toArray.size s _ _ _ (wpAny_of_held _ _ _ _ h)
  exact opsIn hF hl hQ hout _ _ [] _ h1
end

section
variable {P : Program} {ops : Array Oper} {Q Q' : Exit → Act → World → Prop} {m : Nat} {F : Fence}
theorem list_pre (hF : Lets F) {ys : List Oper} (hout : ¬ LetsOut Q') (hk : ∀ a w, Q' .normal a w → wpListIn F m P ops Q ys a w) (hq : ∀ c a w, Q' (.panic c) a w → Q (.panic c) a w) :
    ∀ (xs : List Oper), noDefer xs = true → ∀ (a : Act) (w : World), wpList P ops Q' xs a w → wpListIn F m P ops Q (xs ++ ys) a w := by
  intro xs
  induction xs with
  | nil => exact fun _ a w h => hk a w h
  | cons o xs ih =>
    intro hn a w h
    simp only [noDefer, List.all_cons, Bool.and_eq_true] at hn
    obtain ⟨t, es⟩ := a
    rw [List.cons_append]
    unfold wpList at h
    unfold wpListIn
    by_cases hw : Region.wanted o (yielded ops t) = true
    · simp only [hw, if_true] at h ⊢
      rcases h with h | ⟨_, h⟩
      · have h2 := oper_in (m := m) (ds := []) (K' := wpListIn F m P ops Q (xs ++ ys)) (Q := Q) hF (fun c hc => by rw [hc] at hn; cases hn.1) (fun t es w hk => by rw [List.append_nil]; exact ih hn.2 _ _ hk) (fun c t es w hk => by rw [List.append_nil]; exact hq _ _ _ hk) hout h
        rwa [List.append_nil] at h2
      · exact absurd h hout
    · simp only [hw, if_false, Bool.false_eq_true] at h ⊢
      exact ⟨fun _ _ => hF.fn _, ih hn.2 _ _ h⟩
end

/-! ### The laws -/
section
variable {P : Program} {Q : Exit → Act → World → Prop} {w0 w : World} {X : List Nat} {L : List (Nat × Obj)} {l l' l1 l2 : List Value} {n : Nat} {ops : List Oper}

/-- what a post says of frames without marks -/
def QD (ds : List Deferred) (Q : Exit → Act → World → Prop) : Exit → Act → World → Prop := fun e a w => e ≠ .outgrown ∧ a.defers = [] ∧ Q e ⟨a.tmps, ds⟩ w
theorem QD.outs {ds : List Deferred} : ¬ LetsOut (QD ds Q) := fun ⟨_,_, h⟩ => h.1 rfl
theorem QD.to {ds : List Deferred} : ∀ e t es w, QD ds Q e ⟨t, es⟩ w → Q e ⟨t, es ++ ds⟩ w := by
  rintro e t es w ⟨_, h, hq⟩
  have h : es = [] := h
  subst h; exact hq

/-- a region, in a round or behind a mark -/
theorem in_region {F : Fence} (hF : Lets F) {m id : Nat} {ds : List Deferred} (hn : l.length = n ∧ Nat.ble n 1000 = true) (hnd : noDefer ops = true) (h : WL P ops.toArray (QD ds Q) ops ⟨[], l, n, hn⟩ w) : (Code.region id ops.toArray false).wpIn F m P Q ⟨l.toArray, ds⟩ w := by
  unfold WL at h
  rw [Fr.all_nil] at h
  exact listIn hF hnd QD.to QD.outs h
theorem in_draw {F : Fence} (hF : Lets F) {m id sz : Nat} {ds : List Deferred} {Lb : List (Nat × Obj)} (hz : l.length = sz ∧ Nat.ble sz 1000 = true) (hm : P.follows .mixedOrders = true) (hnd : noDefer ops = true) (H : St w0 X w L) (_ : St w0 X w Lb) (hn : ops.length = n)
    (h : ∀ w, St w0 X w L → RG P ops (QD ds Q) (fun W => St w0 X W Lb) n (List.replicate n false) ⟨[], l, sz, hz⟩ w) : (Code.region id ops.toArray true).wpIn F m P Q ⟨l.toArray, ds⟩ w := by
  refine drawIn hF hm hnd (S := fun W => St w0 X W Lb) QD.to QD.outs ?_
  have h' := h { w with drawn := w.drawn + 1 } (H.drew (Nat.le_succ _))
  subst hn
  unfold RG at h'
  rw [Fr.all_nil] at h'
  simpa using h'
theorem in_nil {opsA : Array Oper} {F : Fr} {ds : List Deferred} (hl : F.all = l') (h : Q .normal ⟨l'.toArray, ds⟩ w) : WL P opsA (QD ds Q) [] F w := by subst hl; unfold WL; exact ⟨nofun, rfl, h⟩
theorem in_done {F : Fr} {ds : List Deferred} {listed : List Bool} (hr : Ready ops listed = []) (hl : F.all = l') (h : Q .normal ⟨l'.toArray, ds⟩ w) {S : World → Prop} : RG P ops (QD ds Q) S n listed F w := d_done hr hl ⟨nofun, rfl, h⟩

/-! behind a mark -/
theorem cD_region {id : Nat} {ds : List Deferred} (hn : l.length = n ∧ Nat.ble n 1000 = true) (hnd : noDefer ops = true) (h : WL P ops.toArray (QD ds Q) ops ⟨[], l, n, hn⟩ w) : (Code.region id ops.toArray false).wp P Q ⟨l.toArray, ds⟩ w :=
  wpIn_wide.1 (in_region (m := 0) lets_wide hn hnd h)
theorem cD_seq {x y : Code} {ds : List Deferred} (h : x.wp P (Exit.then (y.wp P Q) Q) ⟨l.toArray, ds⟩ w) : (Code.seq x y).wp P Q ⟨l.toArray, ds⟩ w := wp_seq h
/-! a function with a mark -/
theorem cM_enter {f : FuncId} {fn : Func} {c : Code} {args : List Value} {R : Ending → World → Prop} {n : Nat} (hf : P.funcs[f]? = some fn) (hn : fn.ntmps = n) (hb : fn.body = some c)
    (hl : args ++ List.replicate (n - args.length) undef = l) (h : c.wp P (bodyPostM Fence.wide 0 P fn R) ⟨l.toArray, []⟩ w) : Calls P f args.toArray w R := by
  refine callsIn_wide.1 (callsIn_of_wp_marks (n := 0) hf hb trivial (wpIn_wide.2 ?_))
  subst hl hn
  have e : args.toArray ++ Array.replicate (fn.ntmps - args.toArray.size) undef = (args ++ List.replicate (fn.ntmps - args.length) undef).toArray := by simp
  rw [e]
  exact h
theorem eM_ret {fn : Func} {R : Ending → World → Prop} {v : Value} (hr : (results fn l.toArray).run P w = .ok v w) (h : R (.returned v) w) : bodyPostM Fence.wide 0 P fn R .ret ⟨l.toArray, []⟩ w := ⟨v, hr, h⟩

/-- block number k becomes another object -/
theorem St.putObj (H : St w0 X w L) (k : Nat) {b : Nat} {o : Obj} (o' : Obj) (hk : L[k]? = some (b, o)) : St w0 X (w.putObj b o') (L.set k (b, o')) :=
  H.put k hk rfl rfl rfl rfl World.putObj_size (World.putObj_heap_same (lt_of_heap (H.at k hk))) (fun _ hc => World.putObj_heap_other hc)

def mark1 (b : Nat) : List Deferred := [{ target := .collected b, args := #[] }]

theorem eM_retD {fn : Func} {R : Ending → World → Prop} {v : Value} {b k : Nat} (H : St w0 X w L) (hk : L[k]? = some (b, .deferred (some [])))
    (hr : ∀ w', St w0 X w' (L.set k (b, .deferred none)) → (results fn l.toArray).run P w' = .ok v w' ∧ R (.returned v) w') : bodyPostM Fence.wide 0 P fn R .ret ⟨l.toArray, mark1 b⟩ w := by
  have hb := H.at k hk
  obtain ⟨h1, h2⟩ := hr _ (H.putObj k (.deferred none) hk)
  refine ⟨by simp, .inl ⟨b, _, rfl, run_takeDeferred hb, ?_⟩⟩
  exact ⟨v, h1, h2⟩

/-! ### The statement -/
/-- the loop's record -/
def LR (st : LoopState) (fn : FuncId) (l : List Value) (ps : List Tmp) (assign body : Code) (D : Nat) : Obj :=
  .loop { state := st, pending := none, fn, tmps := l.toArray, params := ps.toArray, assign, body, defers := D }

/-- **'for .. := range g { .. }', its body never leaving it.** -/
theorem c_range {g : Operand} {ps : List Tmp} {assign body : Code} {gf : FuncId} {lb : List Value} (H : St w0 X w L) (hg : evj l g = some (.func (.func gf) #[] lb.toArray)) (he : Ent P gf)
    (h : ∀ fn w' b, St w0 X w' ((b + 1, LR .ready fn l ps assign body b) :: (b, .deferred (some [])) :: L) →
      Calls P gf (.func (.yield (b + 1)) #[] #[] :: lb).toArray w' fun e w'' => ∃ v, e = .returned v ∧ ∃ L', St w0 X w'' ((b + 1, LR .ready fn l ps assign body b) :: (b, .deferred (some [])) :: L') ∧
        (∀ w3, St w0 X w3 ((b + 1, LR .exhausted fn l ps assign body b) :: (b, .deferred (some [])) :: L') → Q .normal ⟨l.toArray, mark1 b⟩ w3)) :
    (Code.rangeFunc g ps.toArray assign body).wp P Q ⟨l.toArray, []⟩ w := by
  refine (wpIn_wide (n := 0)).1 (wpIn_rangeFunc ?_)
  intro fn _
  have hev : Act.eval ⟨l.toArray, []⟩ g = .func (.func gf) #[] lb.toArray := evj_of hg
  have H2 : St w0 X ((w.alloc (.deferred (some []))).alloc (LR .ready fn l ps assign body w.heap.size)) ((w.heap.size + 1, LR .ready fn l ps assign body w.heap.size) :: (w.heap.size, .deferred (some [])) :: L) := by
    have H1 := (H.alloc (.deferred (some []))).alloc (LR .ready fn l ps assign body w.heap.size)
    have hsz : (w.heap.push (Obj.deferred (some []))).size = w.heap.size + 1 := by simp
    simp only [hsz] at H1
    exact H1
  have hent : (Instr.enterLoop fn l.toArray ps.toArray assign body none).run P w = .ok (w.heap.size + 1, mark1 w.heap.size) ((w.alloc (.deferred (some []))).alloc (LR .ready fn l ps assign body w.heap.size)) := run_enterLoop_outer _ _ _ _ _
  generalize ((w.alloc (.deferred (some []))).alloc (LR .ready fn l ps assign body w.heap.size)) = W1 at H2 hent
  refine ⟨w.heap.size + 1, mark1 w.heap.size, W1, { target := .fn (.func gf) lb.toArray, args := #[.func (.yield (w.heap.size + 1)) #[] #[]] }, W1, gf,
    (.func (.yield (w.heap.size + 1)) #[] #[] :: lb).toArray, W1, hent, ?_, fun _ _ => trivial, ?_, fun h => by simp [Fence.wide] at h, ?_⟩
  · simp only [resolve, hev]
    simp [go_sem]
  · have e2 := he (#[.func (.yield (w.heap.size + 1)) #[] #[]] ++ lb.toArray) W1
    have e3 : (#[.func (.yield (w.heap.size + 1)) #[] #[]] ++ lb.toArray : Array Value) = (.func (.yield (w.heap.size + 1)) #[] #[] :: lb).toArray := by simp
    rw [e3] at e2
    simp [invoke, go_sem]
    simpa using e2
  · refine callsIn_wide.2 ?_
    refine (h fn _ w.heap.size H2).mono fun e w'' hp => ?_
    obtain ⟨v, rfl, L', HC, hq⟩ := hp
    have hl := HC.at 0 rfl
    refine ⟨none, _, run_endLoop hl (by simp), ?_⟩
    exact hq _ (HC.putObj 0 (LR .exhausted fn l ps assign body w.heap.size) rfl)

/-- **One round.** -/
theorem c_round {r : Nat} {fn : FuncId} {ps : List Tmp} {assign body : Code} {D : Nat} {args : List Value} {M : List (Nat × Obj) → World → Prop} (H : St w0 X w ((r, LR .ready fn l ps assign body D) :: L)) (ha : args.length = ps.length)
    (hl1 : ((ps.zip args).foldl (fun t (p : Tmp × Value) => t.set p.1 p.2) l) = l1)
    (has : ∀ K : Act → World → Prop, K ⟨l2.toArray, []⟩ w → assign.wpIn (Fence.wide.inRound r) 0 P (Exit.then K (fun _ _ _ => False)) ⟨l1.toArray, []⟩ w)
    (hb : ∀ w1, St w0 X w1 ((r, LR .busy fn l ps assign body D) :: L) → body.wpIn (Fence.wide.inRound r) 0 P (fun e _ w2 => e = .normal ∧ ∃ L', St w0 X w2 ((r, LR .busy fn l ps assign body D) :: L') ∧
      (∀ w3, St w0 X w3 ((r, LR .ready fn l ps assign body D) :: L') → M L' w3)) ⟨l2.toArray, []⟩ w1) :
    ∃ fn' tmps assign' body', (Instr.yield r args.toArray).run P w = .ok (.round r fn' tmps assign' body') w ∧
      RoundIn Fence.wide 0 P r fn' tmps assign' body' w fun e w' => e = .returned (.bool true) ∧ ∃ L', St w0 X w' ((r, LR .ready fn l ps assign body D) :: L') ∧ M L' w' := by
  have hr := H.at 0 rfl
  have hf : ((ps.toArray.zip args.toArray).foldl (fun tmps (t, a) => tmps.setIfInBounds t a) l.toArray) = l1.toArray := by
    subst hl1
    have : ∀ (zs : List (Tmp × Value)) (l : List Value), zs.toArray.foldl (fun tmps (p : Tmp × Value) => tmps.setIfInBounds p.1 p.2) l.toArray = (zs.foldl (fun t (p : Tmp × Value) => t.set p.1 p.2) l).toArray := by
      intro zs
      induction zs with
      | nil => intro l; rfl
      | cons z zs ih => intro l; have := ih (l.set z.1 z.2); simpa using this
    have h2 := this (ps.zip args) l
    rw [← h2]
    simp
  refine ⟨fn, _, assign, body, run_yield hr (by simp [ha]), roundIn_of_wpIn trivial ?_⟩
  simp only [hf]
  refine has _ ⟨_, run_beginRound hr rfl, ?_⟩
  refine wpIn_mono (hb _ (H.putObj 0 (LR .busy fn l ps assign body D) rfl)) ?_
  rintro e a w2 ⟨rfl, L', H2, hM⟩
  have hr2 := H2.at 0 rfl
  have H3 := H2.putObj 0 (LR .ready fn l ps assign body D) rfl
  exact ⟨_,_, run_endRound none hr2, rfl, L', H3, hM _ H3⟩

/-! the iterator's call of yield -/
theorem c_yield {id : Nat} {o : Oper} {xs zs : List Oper} (hn : l.length = n ∧ Nat.ble n 1000 = true) (hnd : noDefer xs = true) (hops : ops = xs ++ o :: zs)
    (h : WL P ops.toArray (fun e a w => e = .normal ∧ (Region.wanted o (yielded ops.toArray a.tmps) = true ∧ a.defers = [] ∧ (∀ c, o.op ≠ .defer c) ∧ ∃ r fn' tmps assign' body', (execOp a.eval o).run P w = .ok (.round r fn' tmps assign' body') w ∧
      RoundIn Fence.wide 0 P r fn' tmps assign' body' w fun e w' => ∃ v, e = .returned v ∧ wpList P ops.toArray Q zs (a.put o.dst v) w')) xs ⟨[], l, n, hn⟩ w)
    (hzd : noDefer zs = true) (hout : ¬ LetsOut Q) : (Code.region id ops.toArray false).wp P Q ⟨l.toArray, []⟩ w := by
  refine (wpIn_wide (n := 0)).1 (wpIn_region_lit ?_)
  unfold WL at h
  rw [Fr.all_nil] at h
  have h2 := list_pre (F := Fence.wide) (m := 0) (Q := Q) (ys := o :: zs) lets_wide (fun ⟨_,_, h⟩ => nomatch h.1) ?_ (fun c a w h => nomatch h.1) xs hnd _ _ h
  · rw [← hops] at h2; exact h2
  · rintro a w ⟨-, hw, _, hd, r, fn', tmps, assign', body', hrun, hR⟩
    unfold wpListIn
    rw [if_pos hw]
    refine ⟨fun _ _ => trivial, ?_⟩
    rw [Oper.semAt_eq _ _ _ hd, hrun, Oper.uponIn_round]
    refine ⟨fun h => by simp [Fence.wide] at h, hR.mono fun e w' he => ?_⟩
    obtain ⟨v, rfl, hz⟩ := he
    have h3 := list_pre (F := Fence.wide) (m := 0) (Q := Q) (ys := []) lets_wide hout (fun a w h => h) (fun c a w h => h) zs hzd _ _ hz
    rw [List.append_nil] at h3
    exact h3
theorem c_yieldK (k : Nat) {id : Nat} {o : Oper} (hn : l.length = n ∧ Nat.ble n 1000 = true) (hnd : noDefer ops = true) (hk : ops[k]? = some o)
    (h : WL P ops.toArray (fun e a w => e = .normal ∧ (Region.wanted o (yielded ops.toArray a.tmps) = true ∧ a.defers = [] ∧ (∀ c, o.op ≠ .defer c) ∧ ∃ r fn' tmps assign' body', (execOp a.eval o).run P w = .ok (.round r fn' tmps assign' body') w ∧
      RoundIn Fence.wide 0 P r fn' tmps assign' body' w fun e w' => ∃ v, e = .returned v ∧ wpList P ops.toArray Q (ops.drop (k + 1)) (a.put o.dst v) w')) (ops.take k) ⟨[], l, n, hn⟩ w)
    (hout : ¬ LetsOut Q) : (Code.region id ops.toArray false).wp P Q ⟨l.toArray, []⟩ w := by
  have hl : k < ops.length := by
    rcases Nat.lt_or_ge k ops.length with h' | h'
    · exact h'
    · rw [List.getElem?_eq_none h'] at hk; cases hk
  have e : ops = ops.take k ++ o :: ops.drop (k + 1) := by
    rw [List.getElem?_eq_getElem hl, Option.some.injEq] at hk
    subst hk; simp
  have hsub : ∀ l' : List Oper, (∀ x ∈ l', x ∈ ops) → noDefer l' = true := fun l' hl' => by
    unfold noDefer at hnd ⊢
    rw [List.all_eq_true] at hnd ⊢
    exact fun x hx => hnd x (hl' x hx)
  exact c_yield hn (hsub _ fun x hx => List.mem_of_mem_take hx) e h (hsub _ fun x hx => List.mem_of_mem_drop hx) hout
theorem r_yieldL {d : Option Tmp} {ty : TypeId} {pos : String} {after : Array Edge} {g : Option (Nat × Bool)} {x y : Operand} {v : Value} {at_ : Array TypeId} {r : Nat} {R : Result Next}
    (hx : evj l x = some (.func (.yield r) #[] #[])) (hy : evj l y = some v) (hr : (Instr.yield r #[v]).run P w = R) : (execOp (Act.eval ⟨l.toArray, []⟩) ⟨d, .call ⟨.value x, #[y], at_⟩, ty, pos, after, g⟩).run P w = R := by
  subst hr
  simp [execOp, resolve, evj_of hx, evj_of hy, Deferred.ofValue, invoke]
theorem wl_put {opsA : Array Oper} {rest : List Oper} {t : Tmp} {v : Value} (hn : l.length = n ∧ Nat.ble n 1000 = true) (h : WL P opsA Q rest (putl ⟨[], l, n, hn⟩ (some t) v) w) : wpList P opsA Q rest (Act.put ⟨l.toArray, []⟩ (some t) v) w := by
  have e := put_putl ⟨[], l, n, hn⟩ (some t) v
  rw [Fr.all_nil] at e
  rw [e]
  unfold WL at h
  exact h
theorem c_round1 {r : Nat} {fn : FuncId} {ps : List Tmp} {assign body : Code} {D : Nat} {args : List Value} {M : List (Nat × Obj) → World → Prop} (dst : Nat) (u : Value) (H : St w0 X w ((r, LR .ready fn l ps assign body D) :: L)) (ha : args.length = ps.length)
    (hl1 : ((ps.zip args).foldl (fun t (p : Tmp × Value) => t.set p.1 p.2) l) = l1) (_hl2 : l1.set dst u = l2)
    (has : ∀ K : Act → World → Prop, K ⟨l2.toArray, []⟩ w → assign.wpIn (Fence.wide.inRound r) 0 P (Exit.then K (fun _ _ _ => False)) ⟨l1.toArray, []⟩ w)
    (hb : ∀ w1, St w0 X w1 ((r, LR .busy fn l ps assign body D) :: L) → body.wpIn (Fence.wide.inRound r) 0 P (fun e _ w2 => e = .normal ∧ ∃ L', St w0 X w2 ((r, LR .busy fn l ps assign body D) :: L') ∧
      (∀ w3, St w0 X w3 ((r, LR .ready fn l ps assign body D) :: L') → M L' w3)) ⟨l2.toArray, []⟩ w1) :
    ∃ fn' tmps assign' body', (Instr.yield r args.toArray).run P w = .ok (.round r fn' tmps assign' body') w ∧
      RoundIn Fence.wide 0 P r fn' tmps assign' body' w fun e w' => e = .returned (.bool true) ∧ ∃ L', St w0 X w' ((r, LR .ready fn l ps assign body D) :: L') ∧ M L' w' :=
  c_round H ha hl1 has hb
theorem round_out {r : Nat} {args : Array Value} {x : Nat × Obj} (pre : List (Nat × Obj)) {M : List (Nat × Obj) → Prop}
    (h : ∃ fn' tmps assign' body', (Instr.yield r args).run P w = .ok (.round r fn' tmps assign' body') w ∧
      RoundIn Fence.wide 0 P r fn' tmps assign' body' w fun e w' => e = .returned (.bool true) ∧ ∃ L', St w0 X w' (x :: L') ∧ ∃ N', L' = pre ++ N' ∧ M N') :
    ∃ fn' tmps assign' body', (Instr.yield r args).run P w = .ok (.round r fn' tmps assign' body') w ∧
      RoundIn Fence.wide 0 P r fn' tmps assign' body' w fun e w' => e = .returned (.bool true) ∧ ∃ N', M N' ∧ St w0 X w' (x :: (pre ++ N')) := by
  obtain ⟨f, t, a, b, hr, hR⟩ := h
  refine ⟨f, t, a, b, hr, hR.mono ?_⟩
  rintro e w' ⟨he, L', H, N', rfl, hM⟩
  exact ⟨he, N', hM, H⟩
end
end Go.Er


/-
  The data and the plain law of layer 7: nodes as bytes.
-/
namespace Go.Er
open Go

/-! ### Trailing zeros -/
/-! ### Bytes -/
def BRow (w : World) (a : Option Addr) (bs : List UInt8) : Prop :=
  0 < bs.length → ∃ b off pre post T fz, a = some ⟨b, off, none⟩ ∧ w.heap[b]? = some (.cells (pre ++ bC bs ++ post).toArray T fz) ∧ pre.length = off
theorem BRow.st {w0 w : World} {L : List (Nat × Obj)} {a : Option Addr} {bs : List UInt8} (h : BRow w0 a bs) (H : St w0 [] w L) : BRow w a bs := by
  intro hx
  obtain ⟨b, off, pre, post, T, fz, e, hb, hp⟩ := h hx
  exact ⟨b, off, pre, post, T, fz, e, H.rd0 hb, hp⟩
theorem BRow.nil {w : World} {a : Option Addr} : BRow w a [] := fun h => absurd h (Nat.lt_irrefl _)
theorem bC_append (a b : List UInt8) : bC (a ++ b) = bC a ++ bC b := by simp [bC]
theorem bs_td (pre : List Value) (bs : List UInt8) (post : List Value) (off i n : Nat) (ho : pre.length = off) (hi : i + n ≤ bs.length) : ((pre ++ bC bs ++ post).drop (off + i)).take n = bC ((bs.drop i).take n) := by
  subst ho
  rw [List.append_assoc, List.drop_append, List.drop_of_length_le (by omega), List.nil_append]
  have h1 : pre.length + i - pre.length = i := by omega
  rw [h1, List.drop_append_of_le_length (by rw [bC_length]; omega), List.take_append_of_le_length (by rw [List.length_drop, bC_length]; omega)]
  simp [bC]
theorem bs_get (pre : List Value) (bs : List UInt8) (post : List Value) (off i : Nat) (ho : pre.length = off) (hi : i < bs.length) : (pre ++ bC bs ++ post)[off + i]? = some (.int .u8 ((bs.getD i 0).toNat : Int)) := by
  subst ho
  rw [List.append_assoc, List.getElem?_append_right (by omega)]
  have h1 : pre.length + i - pre.length = i := by omega
  rw [h1, List.getElem?_append_left (by rw [bC_length]; exact hi)]
  exact bC_byt bs i rfl hi
theorem bs_getE (pre : List Value) (bs : List UInt8) (post : List Value) {off o : Nat} (i : Nat) (ho : pre.length = off) (hi : i < bs.length) (he : o = off + i) : (pre ++ bC bs ++ post)[o]? = some (.int .u8 ((bs.getD i 0).toNat : Int)) := by
  subst he; exact bs_get pre bs post off i ho hi
theorem BRow.cut {w : World} {a : Option Addr} {bs : List UInt8} {cap lo n : Nat} (h : BRow w a bs) (hn : lo + n ≤ bs.length) (hc : lo + n ≤ cap) : BRow w (cutA a 1 cap lo) ((bs.drop lo).take n) := by
  intro h0
  have hl : n ≠ 0 := by rintro rfl; simp at h0
  obtain ⟨b, off, pre, post, T, fz, rfl, hb, hp⟩ := h (by omega)
  refine ⟨b, off + lo, pre ++ bC (bs.take lo), bC (bs.drop (lo + n)) ++ post, T, fz, ?_, ?_, ?_⟩
  · rw [cutA_some (by omega), Nat.mul_one]
  · rw [hb]
    have e : bs = bs.take lo ++ ((bs.drop lo).take n ++ bs.drop (lo + n)) := by
      rw [← List.drop_drop, List.take_append_drop, List.take_append_drop]
    have e2 : pre ++ bC bs ++ post = pre ++ bC (bs.take lo) ++ bC ((bs.drop lo).take n) ++ (bC (bs.drop (lo + n)) ++ post) := by
      have : bC bs = bC (bs.take lo) ++ (bC ((bs.drop lo).take n) ++ bC (bs.drop (lo + n))) := by rw [← bC_append, ← bC_append, ← e]
      rw [this]; simp
    rw [e2]
  · rw [List.length_append, bC_length, List.length_take, hp]; omega

/-- a number in so many bytes -/
def putB (n : Int) (size : Nat) : List UInt8 := (List.range size).map fun i => UInt8.ofNat (n / 2 ^ (8 * (size - 1 - i)) % 256).toNat
theorem putB_length (n : Int) (size : Nat) : (putB n size).length = size := by simp [putB]
/-- the number that stands in bytes -/
def getN (bs : List UInt8) : Int := bs.foldl (fun n b => n * 256 + (b.toNat : Int)) 0
/-! ### Nodes as bytes -/
/-- numbers of a node, as Go's kinds hold them -/
def InR (h : Held) : Prop := -9223372036854775808 ≤ h.depth ∧ h.depth ≤ 9223372036854775807 ∧ 0 ≤ h.at_ ∧ h.at_ < 18446744073709551616
instance okFromDec : ∀ (e : Int) (xs : List Held), Decidable (okFrom e xs)
  | _, [] => isTrue trivial
  | e, h :: t => by
    have := okFromDec (h.at_ + many h.depth) t
    unfold okFrom okN
    infer_instance
instance (xs : List Held) : Decidable (Valid xs) := okFromDec 0 xs
end Go.Er


/-
  What a row of nodes gives an append.
-/
namespace Go.Er
open Go
section
variable {P : Program} {w0 w : World} {X : List Nat} {L L1 : List (Nat × Obj)} {l : Fr} {d : Option Tmp} {ty : TypeId} {pos : String} {after : Array Edge} {g : Option (Nat × Bool)}
  {x y z : Operand} {T T' E E' : TypeId} {b off sz len cap : Nat} {a : Option Addr}
theorem HRow.src {xs : List Held} (h : HRow w a xs) (c : Nat) : Src P w 34 (.slice a xs.length c) xs.length (hsC xs) := by
  refine ⟨by simp [Builtin.lenOf], fun k => ?_, by rw [hsC_length]; omega, hsC_one xs⟩
  by_cases h0 : 0 < xs.length
  · obtain ⟨b, off, pre, post, T, fz, rfl, hb, hp⟩ := h h0
    simp only [Builtin.firstCells]
    refine run_loadRow (w := { w with drawn := k }) hb ?_ (by rw [hsC_length]; omega)
    subst hp
    rw [List.append_assoc, List.drop_append, List.drop_of_length_le (Nat.le_refl _), List.nil_append, Nat.sub_self, List.drop_zero, List.take_append, List.take_of_length_le (by rw [hsC_length]; omega)]
    have : xs.length * 34 - (hsC xs).length = 0 := by rw [hsC_length]; omega
    rw [this]; simp
  · have e : xs = [] := List.length_eq_zero_iff.1 (by omega)
    subst e
    cases a with
    | none => simp [Builtin.firstCells, hsC]
    | some a =>
      simp only [Builtin.firstCells]
      refine run_loadCells_list (P := P) { w with drawn := k } a [] fun j v hj => ?_
      simp at hj
/-- onto an empty literal -/
theorem m_append_lit {T2 : TypeId} {D2 : TypeDesc} {vs : List Value} {z u : Value} {ti : TypeInfo} {m : Nat} {args : List Operand}
    (H : St w0 X w ((b, .cells ([] : List Value).toArray E (0, 0)) :: L)) (hu : Und P T (.slice E)) (hu2 : Und P T2 D2) (hD : ∀ q, D2 ≠ .int q) (hs : Size P E sz) (hz : Zero P E z) (hzs : z.cells.size = sz) (hi : ∀ w, (typeInfo E).run P w = .ok ti w)
    (hby : 0 < ti.bytes) (hroom : (0 + m) * ti.bytes ≤ 140737488355328) (ha : Evs l args [.slice (some ⟨b, 0, none⟩) 0 0, u]) (hx : Src P w sz u m vs) :
    ∃ v w', (execOp (evl l) ⟨d, .call ⟨.builtin .append, args.toArray, [T, T2].toArray⟩, ty, pos, after, g⟩).run P w = .ok (.value v) w' ∧
      ∃ a' cap' N', v = .slice a' m cap' ∧ RowN sz E vs m a' cap' N' ∧ St w0 X w' (N' ++ L) := by
  have hk : ((b, Obj.cells ([] : List Value).toArray E (0, 0)) :: L)[0]? = some (b, .cells (([] : List Value) ++ []).toArray E (0, 0)) := rfl
  obtain ⟨v, w', hr, b', cap', sp', rfl, hc, hnc, H'⟩ := m_append_own2 H 0 hu hu2 hD hs hz hzs hi hk (by simp) (by simp) hby hroom ha hx
  refine ⟨_, w', hr, some ⟨b', 0, none⟩, cap', [(b', .cells (vs ++ sp').toArray E (0, 0))], by rw [Nat.zero_add], ⟨by simpa using hx.size, by omega, .inr ⟨b', sp', rfl, by simpa using hc, rfl⟩⟩, ?_⟩
  simpa using H'

theorem RowN.hrowM {xs : List Held} {n : Nat} {N : List (Nat × Obj)} (h : RowN 34 E (hsC xs) n a cap N) (H : St w0 X w L) (hs : ∀ p ∈ N, p ∈ L) : HRow w a xs := by
  intro hx
  obtain ⟨hl, _, ⟨rfl, _⟩ | ⟨b, sp, rfl, _, rfl⟩⟩ := h
  · rw [hsC_length] at hl; omega
  · exact ⟨b, 0, [], sp, E, (0, 0), rfl, H.own (b, _) (hs _ (List.mem_singleton.2 rfl)), rfl⟩
theorem RowN.hmem {xs : List Held} {n : Nat} {N : List (Nat × Obj)} (h : RowN 34 E (hsC xs) n a cap N) (hs : ∀ p ∈ N, p ∈ L) (hx : 0 < xs.length) : ∃ b sp, a = some ⟨b, 0, none⟩ ∧ (b, Obj.cells ([] ++ hsC xs ++ sp).toArray E (0, 0)) ∈ L := by
  obtain ⟨hl, _, ⟨rfl, _⟩ | ⟨b, sp, rfl, _, rfl⟩⟩ := h
  · rw [hsC_length] at hl; omega
  · exact ⟨b, sp, rfl, hs _ (List.mem_singleton.2 rfl)⟩
theorem RowN.some {cs : List Value} {n : Nat} {N : List (Nat × Obj)} (h : RowN sz E cs n a cap N) (hn : 0 < n) : ∃ b sp, a = some ⟨b, 0, none⟩ ∧ cap * sz ≤ (cs ++ sp).length ∧ N = [(b, .cells (cs ++ sp).toArray E (0, 0))] ∧ n ≤ cap := by
  obtain ⟨_, hnc, ⟨rfl, _⟩ | ⟨b, sp, rfl, hc, rfl⟩⟩ := h
  · omega
  · exact ⟨b, sp, rfl, hc, rfl, hnc⟩
theorem RowN.mk {cs sp : List Value} {n : Nat} (hl : cs.length = n * sz) (hn : n ≤ cap) (hc : cap * sz ≤ (cs ++ sp).length) : RowN sz E cs n (Option.some ⟨b, 0, none⟩) cap [(b, .cells (cs ++ sp).toArray E (0, 0))] := ⟨hl, hn, .inr ⟨b, sp, rfl, hc, rfl⟩⟩
theorem r_buildA {n : Nat} {pl : List (Nat × Nat)} {zs out : List Value} {parts : List (Nat × Operand)} {pv : List (Nat × Value)} (hu : Und P T (.array n E)) (hs : Size P E sz) (hz : Zero P T (.agg zs.toArray))
    (hv : EvP l parts pv) (hpl : ∀ p ∈ pv, (some (p.1 * sz, sz) : Option (Nat × Nat)) = pl[p.1]?) (hf : fillL pl zs pv = some out) : (execOp (evl l) ⟨d, .build T parts.toArray, ty, pos, after, g⟩).run P w = .ok (.value (.agg out.toArray)) w := by
  have h1 := fill_eq pl (fun i => some (i * sz, sz)) pv zs hpl hf
  have h2 := hv.map
  have h4 : (Array.map (fun (x : Nat × Operand) => match x with | (i, x) => (i, evl l x)) parts.toArray).toList = pv := by
    rw [← h2]; simp
  simp only [execOp, Instr.build, Sem.run_bind, hz w, Result.andThen_ok, hu w, hs w, Value.cells]
  rw [h4, h1]
  rfl
theorem kfill1 {n : Nat} {k : By (n + 1)} {v : UInt8} {i : Int} (hk : k.1 = v :: List.replicate n 0) (hi : i = (v.toNat : Int)) : fillL [(0, 1)] (kC (By.zero (n + 1))) [(0, .int .u8 i)] = some (kC k) := by
  subst hi
  have e : kC k = .int .u8 (v.toNat : Int) :: bC (List.replicate n 0) := by unfold kC; rw [hk]; rfl
  have e0 : kC (By.zero (n + 1)) = .int .u8 0 :: bC (List.replicate n 0) := rfl
  rw [e, e0]
  simp [fillL, Value.cells, splice]
end
end Go.Er


/-
  The plain law of sorting by swaps: what a row is turned into inside a part of it, and when that part is in order.
-/
namespace Go.Er
open Go

section
variable {α : Type} (d : α)

def swp2 (ys : List α) (i j : Nat) : List α := (ys.set i (ys.getD j d)).set j (ys.getD i d)
theorem swp2_length (ys : List α) (i j : Nat) : (swp2 d ys i j).length = ys.length := by simp [swp2]
theorem swp2_get (ys : List α) {i j : Nat} (hi : i < ys.length) (hj : j < ys.length) (p : Nat) :
    (swp2 d ys i j).getD p d = if p = j then ys.getD i d else if p = i then ys.getD j d else ys.getD p d := by
  simp only [swp2, List.getD_eq_getElem?_getD, List.getElem?_set, List.length_set]
  by_cases h1 : p = j
  · subst h1; simp [hj]
  · rw [if_neg (fun h => h1 h.symm), if_neg h1]
    by_cases h2 : p = i
    · subst h2; simp [hi]
    · rw [if_neg (fun h => h2 h.symm), if_neg h2]
theorem swp2_self (ys : List α) (i : Nat) : swp2 d ys i i = ys := by
  apply List.ext_getElem?
  intro p
  simp only [swp2, List.getElem?_set, List.length_set, List.getD_eq_getElem?_getD]
  by_cases h : i = p
  · subst h
    by_cases hi : i < ys.length
    · simp [hi]
    · simp [hi]
  · simp [h]
theorem set_perm (l : List α) (i : Nat) (a : α) (hi : i < l.length) : (l.getD i d :: l.set i a).Perm (a :: l) := by
  induction l generalizing i with
  | nil => simp at hi
  | cons x l ih =>
    cases i with
    | zero => simpa using List.Perm.swap a x l
    | succ i =>
      have h := ih i (by simpa using hi)
      simp only [List.getD_cons_succ, List.set_cons_succ]
      exact (List.Perm.swap x _ _).trans ((List.Perm.cons x h).trans (List.Perm.swap a x l))
theorem swp2_permOf (ys : List α) {i j : Nat} (hi : i < ys.length) (hj : j < ys.length) : (swp2 d ys i j).Perm ys := by
  by_cases e : i = j
  · subst e; rw [swp2_self]
  · have h1 := set_perm d ys i (ys.getD j d) hi
    have h2 := set_perm d (ys.set i (ys.getD j d)) j (ys.getD i d) (by simpa using hj)
    have e2 : (ys.set i (ys.getD j d)).getD j d = ys.getD j d := by
      simp [List.getD_eq_getElem?_getD, e]
    rw [e2] at h2
    have h3 : (ys.getD j d :: swp2 d ys i j).Perm (ys.getD j d :: ys) := h2.trans h1
    exact h3.cons_inv

/-- turned by swaps inside [a, b) -/
inductive Sw (a b : Nat) (ys : List α) : List α → Prop
  | refl : Sw a b ys ys
  | step {zs : List α} (i j : Nat) (h : Sw a b ys zs) (hi : a ≤ i ∧ i < b) (hj : a ≤ j ∧ j < b) (hb : b ≤ ys.length) : Sw a b ys (swp2 d zs i j)
variable {d}
theorem Sw.length {a b : Nat} {ys zs : List α} (h : Sw d a b ys zs) : zs.length = ys.length := by
  induction h with
  | refl => rfl
  | step i j h hi hj hb ih => rw [swp2_length, ih]
theorem Sw.trans {a b : Nat} {xs ys zs : List α} (h : Sw d a b xs ys) (k : Sw d a b ys zs) : Sw d a b xs zs := by
  induction k with
  | refl => exact h
  | step i j _ hi hj hb ih => exact .step i j ih hi hj (by rw [← h.length]; exact hb)
theorem Sw.mono {a b a' b' : Nat} {ys zs : List α} (h : Sw d a b ys zs) (ha : a' ≤ a) (hb : b ≤ b') (hl : b' ≤ ys.length) : Sw d a' b' ys zs := by
  induction h with
  | refl => exact .refl
  | step i j _ hi hj _ ih => exact .step i j ih ⟨by omega, by omega⟩ ⟨by omega, by omega⟩ hl
theorem Sw.perm {a b : Nat} {ys zs : List α} (h : Sw d a b ys zs) : zs.Perm ys := by
  induction h with
  | refl => exact .refl _
  | step i j h hi hj hb ih => exact (swp2_permOf d _ (by rw [h.length]; omega) (by rw [h.length]; omega)).trans ih
theorem Sw.out {a b : Nat} {ys zs : List α} (h : Sw d a b ys zs) {p : Nat} (hp : p < a ∨ b ≤ p) : zs.getD p d = ys.getD p d := by
  induction h with
  | refl => rfl
  | step i j h hi hj hb ih => rw [swp2_get d _ (by rw [h.length]; omega) (by rw [h.length]; omega), if_neg (by omega), if_neg (by omega), ih]
/-- what all of the part have, they have still -/
theorem Sw.all {a b : Nat} {ys zs : List α} (h : Sw d a b ys zs) {P : α → Prop} (hP : ∀ p, a ≤ p → p < b → P (ys.getD p d)) : ∀ p, a ≤ p → p < b → P (zs.getD p d) := by
  induction h with
  | refl => exact hP
  | step i j h hi hj hb ih =>
    intro p h1 h2
    rw [swp2_get d _ (by rw [h.length]; omega) (by rw [h.length]; omega)]
    split
    · exact ih _ hi.1 hi.2
    · split
      · exact ih _ hj.1 hj.2
      · exact ih _ h1 h2

variable (d) (key : α → Int)
abbrev kk (ys : List α) (p : Nat) : Int := key (ys.getD p d)
/-- in order on [a, b) -/
def Srt (a b : Nat) (ys : List α) : Prop := ∀ p q, a ≤ p → p < q → q < b → kk d key ys p ≤ kk d key ys q
/-- all in order but number j, which is on its way down -/
def Ins (a i j : Nat) (ys : List α) : Prop := ∀ p q, a ≤ p → p < q → q ≤ i → q ≠ j → kk d key ys p ≤ kk d key ys q
variable {d key}
theorem Ins.start {a i : Nat} {ys : List α} (h : Srt d key a i ys) : Ins d key a i i ys := fun p q h1 h2 h3 h4 => h p q h1 h2 (by omega)
theorem Ins.step {a i j : Nat} {ys : List α} (h : Ins d key a i j ys) (hj : a < j) (hi : j ≤ i) (hl : i < ys.length) (hlt : kk d key ys j < kk d key ys (j - 1)) : Ins d key a i (j - 1) (swp2 d ys j (j - 1)) := by
  intro p q h1 h2 h3 h4
  have hg := swp2_get d ys (i := j) (j := j - 1) (by omega) (by omega)
  show key _ ≤ key _
  rw [hg p, hg q]
  rw [if_neg h4]
  by_cases hq : q = j
  · subst hq
    rw [if_pos rfl]
    by_cases hp : p = q - 1
    · rw [if_pos hp]; exact Int.le_of_lt hlt
    · rw [if_neg hp, if_neg (by omega)]; exact h p (q - 1) h1 (by omega) (by omega) (by omega)
  · rw [if_neg hq]
    by_cases hp : p = j - 1
    · rw [if_pos hp]; exact h j q (by omega) (by omega) h3 hq
    · rw [if_neg hp]
      by_cases hp2 : p = j
      · rw [if_pos hp2]; exact h (j - 1) q (by omega) (by omega) h3 hq
      · rw [if_neg hp2]; exact h p q h1 h2 h3 hq
theorem Ins.fin {a i j : Nat} {ys : List α} (h : Ins d key a i j ys) (hi : j ≤ i) (hle : a < j → ¬ kk d key ys j < kk d key ys (j - 1)) : Srt d key a (i + 1) ys := by
  intro p q h1 h2 h3
  by_cases hq : q = j
  · subst hq
    have h4 := hle (by omega)
    by_cases hp : p = q - 1
    · subst hp; exact Int.not_lt.1 h4
    · have := h p (q - 1) h1 (by omega) (by omega) (by omega)
      omega
  · exact h p q h1 h2 (by omega) hq

/-! ### Parting -/
variable (d key) in
/-- while a part is parted: its first one is the pivot -/
structure Part (a b i j : Nat) (ys : List α) : Prop where
  lo : ∀ p, a < p → p < i → kk d key ys p < kk d key ys a
  hi : ∀ p, j < p → p < b → kk d key ys a ≤ kk d key ys p
  ai : a < i
  ij : i ≤ j + 1
  jb : j < b
theorem Part.start {a b : Nat} {ys : List α} (h : a + 1 ≤ b) : Part d key a b (a + 1) (b - 1) ys := ⟨fun p h1 h2 => by omega, fun p h1 h2 => by omega, by omega, by omega, by omega⟩
theorem Part.up {a b i j : Nat} {ys : List α} (h : Part d key a b i j ys) (hij : i ≤ j) (hlt : kk d key ys i < kk d key ys a) : Part d key a b (i + 1) j ys :=
  ⟨fun p h1 h2 => by
    by_cases hp : p = i
    · subst hp; exact hlt
    · exact h.lo p h1 (by omega), h.hi, by have := h.ai; omega, by omega, h.jb⟩
theorem Part.down {a b i j : Nat} {ys : List α} (h : Part d key a b i j ys) (hij : i ≤ j) (hle : ¬ kk d key ys j < kk d key ys a) : Part d key a b i (j - 1) ys :=
  ⟨h.lo, fun p h1 h2 => by
    by_cases hp : p = j
    · subst hp; exact Int.not_lt.1 hle
    · exact h.hi p (by omega) h2, h.ai, by omega, by have := h.jb; omega⟩
theorem Part.swap {a b i j : Nat} {ys : List α} (h : Part d key a b i j ys) (hij : i ≤ j) (hl : b ≤ ys.length) (hi : ¬ kk d key ys i < kk d key ys a) (hj : kk d key ys j < kk d key ys a) : Part d key a b (i + 1) (j - 1) (swp2 d ys i j) := by
  have hjb := h.jb
  have hai := h.ai
  have hne : i ≠ j := by rintro rfl; exact hi hj
  have hg := swp2_get d ys (i := i) (j := j) (by omega) (by omega)
  have ha : kk d key (swp2 d ys i j) a = kk d key ys a := by
    show key _ = key _
    rw [hg, if_neg (by omega), if_neg (by omega)]
  refine ⟨fun p h1 h2 => ?_, fun p h1 h2 => ?_, by omega, by omega, by omega⟩
  · rw [ha]
    show key _ < _
    rw [hg, if_neg (by omega)]
    by_cases hp : p = i
    · rw [if_pos hp]; exact hj
    · rw [if_neg hp]; exact h.lo p h1 (by omega)
  · rw [ha]
    show _ ≤ key _
    rw [hg]
    by_cases hp : p = j
    · rw [if_pos hp]; exact Int.not_lt.1 hi
    · rw [if_neg hp, if_neg (by omega)]; exact h.hi p (by omega) h2
variable (d key) in
/-- parted at m -/
def Parted (a b m : Nat) (ys : List α) : Prop := a ≤ m ∧ m < b ∧ (∀ p, a ≤ p → p < m → kk d key ys p < kk d key ys m) ∧ (∀ p, m < p → p < b → kk d key ys m ≤ kk d key ys p)
theorem Part.fin {a b i j : Nat} {ys : List α} (h : Part d key a b i j ys) (hij : j < i) (hl : b ≤ ys.length) : Parted d key a b j (swp2 d ys j a) := by
  have hjb := h.jb
  have hai := h.ai
  have hii := h.ij
  have e : i = j + 1 := by omega
  subst e
  have hg := swp2_get d ys (i := j) (j := a) (by omega) (by omega)
  have hm : kk d key (swp2 d ys j a) j = kk d key ys a := by
    show key _ = key _
    rw [hg]
    by_cases he : j = a
    · rw [if_pos he, he]
    · rw [if_neg he, if_pos rfl]
  refine ⟨by omega, by omega, fun p h1 h2 => ?_, fun p h1 h2 => ?_⟩
  · rw [hm]
    show key _ < _
    rw [hg]
    by_cases hp : p = a
    · rw [if_pos hp]; exact h.lo j (by omega) (by omega)
    · rw [if_neg hp, if_neg (by omega)]; exact h.lo p (by omega) (by omega)
  · rw [hm]
    show _ ≤ key _
    rw [hg, if_neg (by omega), if_neg (by omega)]
    exact h.hi p (by omega) h2

/-! ### The whole -/
variable (d key) in
/-- each pair is in order that doesn't lie in [a, b) whole -/
def Outer (a0 b0 a b : Nat) (ys : List α) : Prop := ∀ p q, a0 ≤ p → p < q → q < b0 → ¬ (a ≤ p ∧ q < b) → kk d key ys p ≤ kk d key ys q
theorem Outer.start {a0 b0 : Nat} {ys : List α} : Outer d key a0 b0 a0 b0 ys := fun _ _ h1 _ h3 h4 => absurd ⟨h1, h3⟩ h4
theorem Outer.sw {a0 b0 a b : Nat} {ys zs : List α} (h : Outer d key a0 b0 a b ys) (ha : a0 ≤ a) (hb : b ≤ b0) (k : Sw d a b ys zs) : Outer d key a0 b0 a b zs := by
  intro p q h1 h2 h3 h4
  by_cases hp : a ≤ p ∧ p < b
  · -- q is behind
    have hq : b ≤ q := by omega
    have e : kk d key zs q = kk d key ys q := by show key _ = key _; rw [k.out (.inr hq)]
    rw [e]
    exact k.all (P := fun x => key x ≤ kk d key ys q) (fun r r1 r2 => h r q (by omega) (by omega) h3 (by omega)) p hp.1 hp.2
  · have ep : kk d key zs p = kk d key ys p := by show key _ = key _; rw [k.out (by omega)]
    rw [ep]
    by_cases hq : a ≤ q ∧ q < b
    · exact k.all (P := fun x => kk d key ys p ≤ key x) (fun r r1 r2 => h p r h1 (by omega) (by omega) (by omega)) q hq.1 hq.2
    · have eq : kk d key zs q = kk d key ys q := by show key _ = key _; rw [k.out (by omega)]
      rw [eq]; exact h p q h1 h2 h3 h4
theorem Outer.fin {a0 b0 a b : Nat} {ys : List α} (h : Outer d key a0 b0 a b ys) (hs : Srt d key a b ys) : Srt d key a0 b0 ys := by
  intro p q h1 h2 h3
  by_cases hin : a ≤ p ∧ q < b
  · exact hs p q hin.1 h2 hin.2
  · exact h p q h1 h2 h3 hin
/-- the left part is in order: on with the right one -/
theorem Outer.right {a0 b0 a b m : Nat} {ys : List α} (h : Outer d key a0 b0 a b ys) (hp : Parted d key a b m ys) (hs : Srt d key a m ys) : Outer d key a0 b0 (m + 1) b ys := by
  obtain ⟨h1, h2, h3, h4⟩ := hp
  intro p q k1 k2 k3 k4
  by_cases hin : a ≤ p ∧ q < b
  · by_cases hq : q < m
    · exact hs p q hin.1 k2 hq
    · by_cases hq2 : q = m
      · subst hq2; exact Int.le_of_lt (h3 p hin.1 k2)
      · have hqm := h4 q (by omega) hin.2
        by_cases hpm : p < m
        · have := h3 p hin.1 hpm; omega
        · have : p = m := by omega
          subst this; exact hqm
  · exact h p q k1 k2 k3 hin
theorem Outer.left {a0 b0 a b m : Nat} {ys : List α} (h : Outer d key a0 b0 a b ys) (hp : Parted d key a b m ys) (hs : Srt d key (m + 1) b ys) : Outer d key a0 b0 a m ys := by
  obtain ⟨h1, h2, h3, h4⟩ := hp
  intro p q k1 k2 k3 k4
  by_cases hin : a ≤ p ∧ q < b
  · by_cases hpm : m < p
    · exact hs p q (by omega) k2 hin.2
    · by_cases hpm2 : p = m
      · subst hpm2; exact h4 q k2 hin.2
      · have := h3 p hin.1 (by omega)
        by_cases hqm : q = m
        · subst hqm; omega
        · have := h4 q (by omega) hin.2; omega
  · exact h p q k1 k2 k3 hin
/-- parts stay parted, whatever is turned within them -/
theorem Parted.swL {a b m : Nat} {ys zs : List α} (h : Parted d key a b m ys) (k : Sw d a m ys zs) : Parted d key a b m zs := by
  obtain ⟨h1, h2, h3, h4⟩ := h
  have em : kk d key zs m = kk d key ys m := by show key _ = key _; rw [k.out (.inr (Nat.le_refl _))]
  refine ⟨h1, h2, fun p p1 p2 => ?_, fun p p1 p2 => ?_⟩
  · rw [em]; exact k.all (P := fun x => key x < kk d key ys m) h3 p p1 p2
  · rw [em]
    show _ ≤ key _
    rw [k.out (.inr (by omega))]; exact h4 p p1 p2
theorem Parted.swR {a b m : Nat} {ys zs : List α} (h : Parted d key a b m ys) (k : Sw d (m + 1) b ys zs) : Parted d key a b m zs := by
  obtain ⟨h1, h2, h3, h4⟩ := h
  have em : kk d key zs m = kk d key ys m := by show key _ = key _; rw [k.out (.inl (by omega))]
  refine ⟨h1, h2, fun p p1 p2 => ?_, fun p p1 p2 => ?_⟩
  · rw [em]
    show key _ < _
    rw [k.out (.inl (by omega))]; exact h3 p p1 p2
  · rw [em]; exact k.all (P := fun x => kk d key ys m ≤ key x) (fun r r1 r2 => h4 r (by omega) r2) p (by omega) p2
variable (d key) in
/-- no two keys are alike -/
def Unl (ys : List α) : Prop := ∀ p q, p < q → q < ys.length → kk d key ys p ≠ kk d key ys q
theorem unl_iff {ys : List α} : Unl d key ys ↔ (ys.map key).Nodup := by
  unfold Unl
  rw [List.nodup_iff_pairwise_ne, List.pairwise_map, List.pairwise_iff_getElem]
  constructor
  · intro h i j hi hj hij
    have := h i j hij hj
    simpa [kk, List.getD_eq_getElem?_getD, hi, hj] using this
  · intro h p q hpq hq
    have := h p q (by omega) hq hpq
    have hp : p < ys.length := by omega
    simpa [kk, List.getD_eq_getElem?_getD, hp, hq] using this
theorem Unl.sw {a b : Nat} {ys zs : List α} (h : Unl d key ys) (k : Sw d a b ys zs) : Unl d key zs := by
  rw [unl_iff] at h ⊢
  exact (k.perm.map key).nodup_iff.2 h
variable (d key) in
/-- what stands ahead of a part is less than all of it -/
def Ahead (a b : Nat) (ys : List α) : Prop := 0 < a → ∀ p, a ≤ p → p < b → kk d key ys (a - 1) < kk d key ys p
theorem Ahead.zero {b : Nat} {ys : List α} : Ahead d key 0 b ys := fun h => absurd h (Nat.lt_irrefl _)
theorem Ahead.sw {a b : Nat} {ys zs : List α} (h : Ahead d key a b ys) (k : Sw d a b ys zs) : Ahead d key a b zs := by
  intro h0 p h1 h2
  show key _ < _
  rw [k.out (.inl (by omega))]
  exact k.all (P := fun x => key (ys.getD (a - 1) d) < key x) (fun r r1 r2 => h h0 r r1 r2) p h1 h2
theorem Ahead.cut {a b b' : Nat} {ys : List α} (h : Ahead d key a b ys) (hb : b' ≤ b) : Ahead d key a b' ys := fun h0 p h1 h2 => h h0 p h1 (by omega)
theorem Ahead.right {a b m : Nat} {ys : List α} (hp : Parted d key a b m ys) (hu : Unl d key ys) (hl : b ≤ ys.length) : Ahead d key (m + 1) b ys := by
  intro _ p h1 h2
  have h3 := hp.2.2.2 p (by omega) h2
  have h4 := hu m p (by omega) (by omega)
  show kk d key ys (m + 1 - 1) < _
  rw [Nat.add_sub_cancel]
  omega
end
end Go.Er


/-
  The plain law of layer 6: what is held without a leaf.
-/
namespace Go.Er
open Go

section
variable (sl sr : Key → Key)
instance (h : Held) (n : Int) : Decidable (InN h n) := by unfold InN; infer_instance
/-- what is held of a node without a leaf -/
def woF : Nat → Held → Int → List Held
  | 0, h, n => if InN h n then [] else [h]
  | k + 1, h, n => if InN h n then woF k (kidL sl h) n ++ woF k (kidR sr h) n else [h]
def wo (h : Held) (n : Int) : List Held := woF sl sr (17 - h.depth).toNat h n
/-- what is held of nodes without a leaf -/
def punc (xs : List Held) (n : Int) : List Held := xs.flatMap fun h => wo sl sr h n
variable {sl sr}
theorem woF_out {k : Nat} {h : Held} {n : Int} (ho : ¬ InN h n) : woF sl sr k h n = [h] := by
  cases k <;> simp [woF, ho]
theorem wo_out {h : Held} {n : Int} (ho : ¬ InN h n) : wo sl sr h n = [h] := woF_out ho
theorem kid_many {h : Held} (hd : h.depth < 17) : many h.depth = 2 * many (h.depth + 1) := many_succ hd
theorem inL {h : Held} {n : Int} (hd : h.depth < 17) (hi : InN h n) (hc : ¬ (kidR sr h).at_ ≤ n) : InN (kidL sl h) n ∧ ¬ InN (kidR sr h) n := by
  have hm := kid_many hd
  have hp := many_pos (h.depth + 1)
  unfold InN kidL kidR at *
  dsimp only at *
  omega
theorem inR {h : Held} {n : Int} (hd : h.depth < 17) (hi : InN h n) (hc : (kidR sr h).at_ ≤ n) : ¬ InN (kidL sl h) n ∧ InN (kidR sr h) n := by
  have hm := kid_many hd
  have hp := many_pos (h.depth + 1)
  unfold InN kidL kidR at *
  dsimp only at *
  omega
theorem woF_perm : ∀ (k : Nat) (h : Held) (n : Int), h.depth = 17 - k → InN h n → (woF sl sr k h n).Perm (path sl sr k h n).1
  | 0, h, n, _, hi => by simp [woF, hi, path]
  | k + 1, h, n, hd, hi => by
    rw [woF, if_pos hi]
    by_cases hc : (kidR sr h).at_ ≤ n
    · obtain ⟨h1, h2⟩ := inR (sl := sl) (by omega) hi hc
      rw [woF_out h1, path_R sl sr hc]
      exact List.Perm.cons _ (woF_perm k _ n (by show h.depth + 1 = _; omega) h2)
    · obtain ⟨h1, h2⟩ := inL (sl := sl) (by omega) hi hc
      rw [woF_out h2, path_L sl sr hc]
      exact List.perm_append_comm.trans (List.Perm.cons _ (woF_perm k _ n (by show h.depth + 1 = _; omega) h1))
theorem okN.kidL {h : Held} (hh : okN h) (hd : h.depth < 17) : okN (kidL sl h) ∧ okN (kidR sr h) := by
  have hm := kid_many hd
  have hp := many_pos (h.depth + 1)
  have he := hh.end_le
  obtain ⟨h0, h1, h2, h3, h4⟩ := hh
  have hdv : many (h.depth + 1) ∣ h.at_ := by
    have h5 : many h.depth ∣ h.at_ := Int.dvd_of_emod_eq_zero h3
    rw [hm] at h5
    exact Int.dvd_trans (Int.dvd_mul_left _ _) h5
  refine ⟨⟨by show 0 ≤ h.depth + 1; omega, by show h.depth + 1 ≤ 17; omega, h2, Int.emod_eq_zero_of_dvd hdv, h4⟩, ?_⟩
  refine ⟨by show 0 ≤ h.depth + 1; omega, by show h.depth + 1 ≤ 17; omega, by show 0 ≤ h.at_ + many (h.depth + 1); omega, ?_, by show h.at_ + many (h.depth + 1) < 131072; omega⟩
  exact Int.emod_eq_zero_of_dvd (Int.dvd_add hdv (Int.dvd_refl _))
theorem okFrom.le {e e' : Int} {xs : List Held} (h : okFrom e xs) (he : e' ≤ e) : okFrom e' xs := by
  cases xs with
  | nil => trivial
  | cons x xs => exact ⟨h.1, by have := h.2.1; omega, h.2.2⟩
theorem woF_ok : ∀ (k : Nat) (h : Held) (n : Int) (rest : List Held), h.depth = 17 - k → okN h → okFrom (h.at_ + many h.depth) rest → okFrom h.at_ (woF sl sr k h n ++ rest)
  | 0, h, n, rest, hd, hk, hr => by
    by_cases hi : InN h n
    · simp only [woF, if_pos hi, List.nil_append]
      exact hr.le (by have := many_pos h.depth; omega)
    · rw [woF_out hi]; exact ⟨hk, Int.le_refl _, hr⟩
  | k + 1, h, n, rest, hd, hk, hr => by
    by_cases hi : InN h n
    · rw [woF, if_pos hi, List.append_assoc]
      obtain ⟨kl, kr⟩ := hk.kidL (sl := sl) (sr := sr) (by omega)
      have hm := kid_many (h := h) (by omega)
      refine woF_ok k (Go.Er.kidL sl h) n _ (by show h.depth + 1 = _; omega) kl ?_
      have := woF_ok k (kidR sr h) n rest (by show h.depth + 1 = _; omega) kr (hr.le (by show h.at_ + many (h.depth + 1) + many (h.depth + 1) ≤ _; omega))
      exact this
    · rw [woF_out hi]; exact ⟨hk, Int.le_refl _, hr⟩
theorem okFrom.append {rest : List Held} : ∀ {e : Int} {xs : List Held}, okFrom e xs → (∀ e', e ≤ e' → (∀ x ∈ xs, x.at_ + many x.depth ≤ e') → okFrom e' rest) → okFrom e (xs ++ rest)
  | e, [], _, h => h e (Int.le_refl _) (fun _ hx => nomatch hx)
  | e, x :: xs, hx, h => by
    obtain ⟨h1, h2, h3⟩ := hx
    have hp := many_pos x.depth
    refine ⟨h1, h2, okFrom.append h3 fun e' he hh => h e' (by omega) fun y hy => ?_⟩
    rcases List.mem_cons.1 hy with rfl | hy
    · exact he
    · exact hh y hy
theorem punc_ok {n : Int} : ∀ {e : Int} {xs : List Held}, okFrom e xs → okFrom e (punc sl sr xs n)
  | _, [], h => h
  | e, x :: xs, h => by
    obtain ⟨h1, h2, h3⟩ := h
    have := woF_ok (sl := sl) (sr := sr) (17 - x.depth).toNat x n (punc sl sr xs n) (by have := h1.1; have := h1.2.1; omega) h1 (punc_ok h3)
    exact okFrom.le this h2
theorem punc_valid {xs : List Held} {n : Int} (h : Valid xs) : Valid (punc sl sr xs n) := punc_ok h
theorem punc_append (xs ys : List Held) (n : Int) : punc sl sr (xs ++ ys) n = punc sl sr xs n ++ punc sl sr ys n := by simp [punc]
theorem punc_none {xs : List Held} {n : Int} (h : ∀ x ∈ xs, ¬ InN x n) : punc sl sr xs n = xs := by
  induction xs with
  | nil => rfl
  | cons x xs ih =>
    have h1 := h x List.mem_cons_self
    have h2 := ih fun y hy => h y (List.mem_cons_of_mem _ hy)
    unfold punc at h2 ⊢
    rw [List.flatMap_cons, wo_out h1, h2]; rfl
theorem nd_mem {xs : List Held} {x : Held} (h : x ∈ xs) : ∃ i, i < xs.length ∧ nd xs i = x := by
  obtain ⟨i, hi, rfl⟩ := List.mem_iff_getElem.1 h
  exact ⟨i, hi, (nd_eq hi).symm⟩
theorem punc_miss {xs : List Held} {n : Int} {i : Nat} (h : FindR xs n i false) : punc sl sr xs n = xs := by
  rcases h with ⟨h, _⟩ | ⟨_,_, h⟩
  · cases h
  · exact punc_none fun x hx => by
      obtain ⟨j, hj, rfl⟩ := nd_mem hx
      exact h j hj
theorem one_in {xs : List Held} {n : Int} (hv : Valid xs) {i j : Nat} (hi : i < xs.length) (hj : j < xs.length) (h1 : InN (nd xs i) n) (h2 : InN (nd xs j) n) : i = j := by
  rcases Nat.lt_trichotomy i j with h | h | h
  · have := hv.lt h hj
    have := h1.2; have := h2.1
    omega
  · exact h
  · have := hv.lt h hi
    have := h2.2; have := h1.1
    omega
theorem split_at {xs : List Held} {i : Nat} (hi : i < xs.length) : xs = xs.take i ++ nd xs i :: xs.drop (i + 1) := by
  rw [← nd_eq hi]; simp
theorem punc_hit {xs : List Held} {n : Int} (hv : Valid xs) {i : Nat} (hi : i < xs.length) (hin : InN (nd xs i) n) : punc sl sr xs n = xs.take i ++ wo sl sr (nd xs i) n ++ xs.drop (i + 1) := by
  have e := split_at hi
  have h1 : punc sl sr (xs.take i) n = xs.take i := punc_none fun x hx => by
    obtain ⟨j, hj, rfl⟩ := List.mem_iff_getElem.1 hx
    intro hc
    rw [List.length_take] at hj
    have h2 : (xs.take i)[j] = nd xs j := by rw [List.getElem_take, nd_eq (by omega)]
    rw [h2] at hc
    have := one_in hv (by omega) hi hc hin
    omega
  have h2 : punc sl sr (xs.drop (i + 1)) n = xs.drop (i + 1) := punc_none fun x hx => by
    obtain ⟨j, hj, rfl⟩ := List.mem_iff_getElem.1 hx
    intro hc
    rw [List.length_drop] at hj
    have h3 : (xs.drop (i + 1))[j] = nd xs (i + 1 + j) := by rw [List.getElem_drop, nd_eq (by omega)]
    rw [h3] at hc
    have := one_in hv (by omega) hi hc hin
    omega
  conv => lhs; rw [e]
  rw [punc_append, h1]
  have h3 : punc sl sr (nd xs i :: xs.drop (i + 1)) n = wo sl sr (nd xs i) n ++ punc sl sr (xs.drop (i + 1)) n := by simp [punc]
  rw [h3, h2, List.append_assoc]

/-! ### In order there is one row only -/
abbrev atK (h : Held) : Int := h.at_
theorem okFrom.pairwise : ∀ {e : Int} {xs : List Held}, okFrom e xs → xs.Pairwise (fun a b => atK a < atK b) ∧ ∀ x ∈ xs, e ≤ atK x
  | _, [], _ => ⟨.nil, fun _ h => nomatch h⟩
  | e, x :: xs, ⟨h1, h2, h3⟩ => by
    obtain ⟨i1, i2⟩ := okFrom.pairwise h3
    have hp := many_pos x.depth
    refine ⟨List.pairwise_cons.2 ⟨fun y hy => ?_, i1⟩, fun y hy => ?_⟩
    · have := i2 y hy
      show x.at_ < _
      omega
    · rcases List.mem_cons.1 hy with rfl | hy
      · exact h2
      · have := i2 y hy; omega
theorem pairwise_unl {xs : List Held} (h : xs.Pairwise fun a b => atK a < atK b) : Unl Held.zero atK xs := by
  rw [unl_iff, List.nodup_iff_pairwise_ne, List.pairwise_map]
  exact h.imp fun hab => by omega
theorem srt_pairwise {xs : List Held} (h : Srt Held.zero atK 0 xs.length xs) (hu : Unl Held.zero atK xs) : xs.Pairwise fun a b => atK a < atK b := by
  rw [List.pairwise_iff_getElem]
  intro i j hi hj hij
  have h1 := h i j (Nat.zero_le _) hij hj
  have h2 := hu i j hij hj
  simp only [kk, List.getD_eq_getElem?_getD, List.getElem?_eq_getElem hi, List.getElem?_eq_getElem hj, Option.getD_some] at h1 h2
  omega
theorem one_order {xs ys : List Held} (hx : xs.Pairwise fun a b => atK a < atK b) (hy : ys.Pairwise fun a b => atK a < atK b) (hp : xs.Perm ys) : xs = ys :=
  List.Perm.eq_of_pairwise (fun a b _ _ h1 h2 => by omega) hx hy hp
/-- what is beside the way, in order, is what is held without the leaf -/
theorem sort_wo {h : Held} {n : Int} {zs : List Held} (hk : okN h) (hi : InN h n) (hp : zs.Perm (path sl sr (17 - h.depth).toNat h n).1) (hs : Srt Held.zero atK 0 zs.length zs) : zs = wo sl sr h n := by
  have hd : h.depth = 17 - ((17 - h.depth).toNat : Int) := by have := hk.1; have := hk.2.1; omega
  have hw := woF_perm (sl := sl) (sr := sr) (17 - h.depth).toNat h n hd hi
  have ho := woF_ok (sl := sl) (sr := sr) (17 - h.depth).toNat h n [] hd hk trivial
  rw [List.append_nil] at ho
  have hpw := (okFrom.pairwise ho).1
  have hperm : zs.Perm (wo sl sr h n) := hp.trans hw.symm
  have hu : Unl Held.zero atK zs := by
    rw [unl_iff]
    exact (hperm.map atK).nodup_iff.2 (unl_iff.1 (pairwise_unl hpw))
  exact one_order (srt_pairwise hs hu) hpw hperm
theorem path_unl {h : Held} {n : Int} (hk : okN h) (hi : InN h n) : Unl Held.zero atK (path sl sr (17 - h.depth).toNat h n).1 := by
  have hd : h.depth = 17 - ((17 - h.depth).toNat : Int) := by have := hk.1; have := hk.2.1; omega
  have hw := woF_perm (sl := sl) (sr := sr) (17 - h.depth).toNat h n hd hi
  have ho := woF_ok (sl := sl) (sr := sr) (17 - h.depth).toNat h n [] hd hk trivial
  rw [List.append_nil] at ho
  rw [unl_iff]
  exact (hw.map atK).nodup_iff.1 (unl_iff.1 (pairwise_unl (okFrom.pairwise ho).1))
theorem path_len : ∀ (k : Nat) (h : Held) (n : Int), (path sl sr k h n).1.length = k
  | 0, _,_ => rfl
  | k + 1, h, n => by
    by_cases hc : (kidR sr h).at_ ≤ n
    · rw [path_R sl sr hc]; simp [path_len k]
    · rw [path_L sl sr hc]; simp [path_len k]
theorem cut_take {α : Type} {xs : List α} {i : Nat} (hi : i ≤ xs.length) (ys : List α) : (xs.take i ++ ys).take i = xs.take i := by
  rw [List.take_append, List.take_of_length_le (by rw [List.length_take]; omega), List.length_take]
  have : i - min i xs.length = 0 := by omega
  rw [this]; simp
theorem cut_drop {α : Type} {xs : List α} {i : Nat} (hi : i ≤ xs.length) (ys : List α) : (xs.take i ++ ys).drop i = ys := by
  rw [List.drop_append, List.drop_of_length_le (by rw [List.length_take]; omega), List.length_take]
  have : i - min i xs.length = 0 := by omega
  rw [this]; simp
theorem has_of {xs : List Held} {n : Int} {i : Nat} (hi : i < xs.length) (h : InN (nd xs i) n) : ∃ x ∈ xs, InN x n := ⟨nd xs i, by rw [← nd_eq hi]; exact List.getElem_mem hi, h⟩
theorem not_has {xs : List Held} {n : Int} (h : ∀ j, j < xs.length → ¬ InN (nd xs j) n) : ¬ ∃ x ∈ xs, InN x n := by
  rintro ⟨x, hx, hi⟩
  obtain ⟨j, hj, rfl⟩ := nd_mem hx
  exact h j hj hi
theorem path_none {h : Held} {n : Int} (hk : okN h) (hi : InN h n) (he : (path sl sr (17 - h.depth).toNat h n).1 = []) : ([] : List Held) = wo sl sr h n :=
  sort_wo hk hi (by rw [he]) (fun p q _ _ h3 => by simp at h3)
end
end Go.Er


/-
  The plain law of layer 6: what is held behind any punctures depends on which leaves they were, and on nothing else.
-/
namespace Go.Er
open Go

section
variable (sl sr : Key → Key)
def hits (l : List Int) (h : Held) : Prop := ∃ n ∈ l, InN h n
instance (l : List Int) (h : Held) : Decidable (hits l h) := by unfold hits; infer_instance
/-- what is held of a node without some leaves -/
def canon (l : List Int) : Nat → Held → List Held
  | 0, h => if hits l h then [] else [h]
  | k + 1, h => if hits l h then canon l k (kidL sl h) ++ canon l k (kidR sr h) else [h]
variable {sl sr}
theorem canon_miss {l : List Int} {k : Nat} {h : Held} (hn : ¬ hits l h) : canon sl sr l k h = [h] := by cases k <;> simp [canon, hn]
theorem kid_in {h : Held} {n : Int} (hd : h.depth < 17) : (InN (kidL sl h) n → InN h n) ∧ (InN (kidR sr h) n → InN h n) := by
  have hm := kid_many hd
  have hp := many_pos (h.depth + 1)
  unfold InN kidL kidR
  dsimp only
  omega
theorem canon_congr {l l' : List Int} : ∀ (k : Nat) (h : Held), h.depth = 17 - k → (∀ n, InN h n → (n ∈ l ↔ n ∈ l')) → canon sl sr l k h = canon sl sr l' k h
  | 0, h, _, hc => by
    have e : hits l h ↔ hits l' h := ⟨fun ⟨n, h1, h2⟩ => ⟨n, (hc n h2).1 h1, h2⟩, fun ⟨n, h1, h2⟩ => ⟨n, (hc n h2).2 h1, h2⟩⟩
    simp only [canon, e]
  | k + 1, h, hd, hc => by
    have e : hits l h ↔ hits l' h := ⟨fun ⟨n, h1, h2⟩ => ⟨n, (hc n h2).1 h1, h2⟩, fun ⟨n, h1, h2⟩ => ⟨n, (hc n h2).2 h1, h2⟩⟩
    have hk := fun n => kid_in (sl := sl) (sr := sr) (h := h) (n := n) (by omega)
    simp only [canon, e, canon_congr k (kidL sl h) (by show h.depth + 1 = _; omega) (fun n hn => hc n ((hk n).1 hn)), canon_congr k (kidR sr h) (by show h.depth + 1 = _; omega) (fun n hn => hc n ((hk n).2 hn))]
theorem woF_canon : ∀ (k : Nat) (h : Held) (n : Int), woF sl sr k h n = canon sl sr [n] k h
  | 0, h, n => by simp [woF, canon, hits]
  | k + 1, h, n => by simp [woF, canon, hits, woF_canon k]
theorem hits_cons {l : List Int} {n : Int} {h : Held} : hits (n :: l) h ↔ InN h n ∨ hits l h := by
  constructor
  · rintro ⟨m, hm, hi⟩
    rcases List.mem_cons.1 hm with rfl | hm
    · exact .inl hi
    · exact .inr ⟨m, hm, hi⟩
  · rintro (h1 | ⟨m, hm, hi⟩)
    · exact ⟨n, List.mem_cons_self, h1⟩
    · exact ⟨m, List.mem_cons_of_mem _ hm, hi⟩
theorem wo_canon {k : Nat} {h : Held} {n : Int} {l : List Int} (hd : h.depth = 17 - k) (hn : ¬ hits l h) : wo sl sr h n = canon sl sr (n :: l) k h := by
  have e : (17 - h.depth).toNat = k := by omega
  unfold wo
  rw [e, woF_canon]
  refine canon_congr k h hd fun m hm => ?_
  simp only [List.mem_cons, List.not_mem_nil, or_false]
  exact ⟨.inl, fun h1 => h1.resolve_right fun h2 => hn ⟨m, h2, hm⟩⟩
theorem punc_canon {l : List Int} {n : Int} : ∀ (k : Nat) (h : Held), h.depth = 17 - k → punc sl sr (canon sl sr l k h) n = canon sl sr (n :: l) k h
  | 0, h, hd => by
    by_cases hh : hits l h
    · simp [canon, hh, hits_cons, punc]
    · rw [canon_miss hh, ← wo_canon hd hh]; simp [punc]
  | k + 1, h, hd => by
    by_cases hh : hits l h
    · have h1 : hits (n :: l) h := hits_cons.2 (.inr hh)
      simp only [canon, hh, h1, if_true]
      rw [punc_append, punc_canon k _ (by show h.depth + 1 = _; omega), punc_canon k _ (by show h.depth + 1 = _; omega)]
    · rw [canon_miss hh, ← wo_canon hd hh]; simp [punc]

/-- the node above all -/
def root (seed : Key) : Held := ⟨0, 0, seed⟩
/-- what a tree of a seed holds without some leaves -/
def tree0 (sl sr : Key → Key) (seed : Key) (l : List Int) : List Held := canon sl sr l 17 (root seed)
theorem tree0_nil {seed : Key} : tree0 sl sr seed [] = [root seed] := canon_miss (fun ⟨_, h, _⟩ => nomatch h)
theorem tree0_punc {seed : Key} {l : List Int} {n : Int} : punc sl sr (tree0 sl sr seed l) n = tree0 sl sr seed (n :: l) := punc_canon 17 _ rfl
theorem root_ok {seed : Key} : okN (root seed) := ⟨by show (0:Int) ≤ 0; omega, by show (0:Int) ≤ 17; omega, by show (0:Int) ≤ 0; omega, by rw [show (root seed).at_ = 0 from rfl]; exact Int.zero_emod _, by show (0:Int) < 131072; omega⟩
theorem tree0_valid {seed : Key} : ∀ (l : List Int), Valid (tree0 sl sr seed l)
  | [] => by rw [tree0_nil]; exact ⟨root_ok, Int.le_refl _, trivial⟩
  | n :: l => by rw [← tree0_punc]; exact punc_valid (tree0_valid l)

/-! ### Which leaves are left, and their keys -/
theorem canon_sub {l : List Int} : ∀ (k : Nat) (h : Held), h.depth = 17 - k → ∀ x ∈ canon sl sr l k h, ∀ n, InN x n → InN h n
  | 0, h, _, x, hx, n, hn => by
    by_cases hh : hits l h
    · simp [canon, hh] at hx
    · rw [canon_miss hh, List.mem_singleton] at hx; subst hx; exact hn
  | k + 1, h, hd, x, hx, n, hn => by
    by_cases hh : hits l h
    · have hk := kid_in (sl := sl) (sr := sr) (h := h) (n := n) (by omega)
      simp only [canon, hh, if_true, List.mem_append] at hx
      rcases hx with hx | hx
      · exact hk.1 (canon_sub k _ (by show h.depth + 1 = _; omega) x hx n hn)
      · exact hk.2 (canon_sub k _ (by show h.depth + 1 = _; omega) x hx n hn)
    · rw [canon_miss hh, List.mem_singleton] at hx; subst hx; exact hn
theorem canon_has {l : List Int} : ∀ (k : Nat) (h : Held), h.depth = 17 - k → ∀ n, InN h n → ((∃ x ∈ canon sl sr l k h, InN x n) ↔ n ∉ l)
  | 0, h, hd, n, hn => by
    have hone : ∀ m, InN h m → m = n := by
      intro m hm
      have : many h.depth = 1 := by rw [hd]; decide
      unfold InN at *; omega
    by_cases hh : hits l h
    · obtain ⟨m, hm, hi⟩ := hh
      have := hone m hi
      subst this
      simp only [canon, if_pos (show hits l h from ⟨m, hm, hi⟩)]
      exact ⟨fun ⟨_, h1, _⟩ => (nomatch h1), fun h1 => absurd hm h1⟩
    · rw [canon_miss hh]
      exact ⟨fun _ hm => hh ⟨n, hm, hn⟩, fun _ => ⟨h, List.mem_singleton.2 rfl, hn⟩⟩
  | k + 1, h, hd, n, hn => by
    by_cases hh : hits l h
    · simp only [canon, if_pos hh, List.mem_append]
      by_cases hc : (kidR sr h).at_ ≤ n
      · obtain ⟨h1, h2⟩ := inR (sl := sl) (by omega) hn hc
        rw [← canon_has k (kidR sr h) (by show h.depth + 1 = _; omega) n h2]
        constructor
        · rintro ⟨x, hx | hx, hi⟩
          · exact absurd (canon_sub k (kidL sl h) (by show h.depth + 1 = _; omega) x hx n hi) h1
          · exact ⟨x, hx, hi⟩
        · rintro ⟨x, hx, hi⟩; exact ⟨x, .inr hx, hi⟩
      · obtain ⟨h1, h2⟩ := inL (sl := sl) (by omega) hn hc
        rw [← canon_has k (kidL sl h) (by show h.depth + 1 = _; omega) n h1]
        constructor
        · rintro ⟨x, hx | hx, hi⟩
          · exact ⟨x, hx, hi⟩
          · exact absurd (canon_sub k (kidR sr h) (by show h.depth + 1 = _; omega) x hx n hi) h2
        · rintro ⟨x, hx, hi⟩; exact ⟨x, .inl hx, hi⟩
    · rw [canon_miss hh]
      exact ⟨fun _ hm => hh ⟨n, hm, hn⟩, fun _ => ⟨h, List.mem_singleton.2 rfl, hn⟩⟩
/-- the key of a leaf -/
def leafK (sl sr : Key → Key) (h : Held) (n : Int) : Key := (path sl sr (17 - h.depth).toNat h n).2.seed
/-! ### How many -/
theorem woF_len : ∀ (k : Nat) (h : Held) (n : Int), (woF sl sr k h n).length ≤ k + 1
  | 0, h, n => by simp only [woF]; split <;> simp
  | k + 1, h, n => by
    by_cases hi : InN h n
    · rw [woF, if_pos hi, List.length_append]
      by_cases h1 : InN (kidL sl h) n
      · have h2 : ¬ InN (kidR sr h) n := by
          have := many_pos (h.depth + 1)
          unfold InN kidL kidR at *
          dsimp only at *
          omega
        rw [woF_out h2]
        have := woF_len k (kidL sl h) n
        simp; omega
      · rw [woF_out h1]
        have := woF_len k (kidR sr h) n
        simp; omega
    · rw [woF_out hi]; simp
theorem punc_len {xs : List Held} {n : Int} (hv : Valid xs) {i : Nat} (hi : i < xs.length) (hin : InN (nd xs i) n) : (punc sl sr xs n).length ≤ xs.length + 17 := by
  have hk := hv.get hi
  rw [punc_hit hv hi hin, List.length_append, List.length_append, List.length_take, List.length_drop]
  have := woF_len (sl := sl) (sr := sr) (17 - (nd xs i).depth).toNat (nd xs i) n
  have := hk.1
  unfold wo
  omega
end
end Go.Er


/-
  Rows of nodes that are turned.
-/
namespace Go.Er
open Go
theorem hs_splice (ys : List Held) (sp : List Value) (x : Held) {off : Nat} (i : Nat) (hi : i < ys.length) (ho : off = i * 34) : splice (hsC ys ++ sp) off (hC x) = hsC (ys.set i x) ++ sp := by
  subst ho
  have e : ys = ys.take i ++ (ys[i] :: ys.drop (i + 1)) := by simp
  have hl : (hsC (ys.take i)).length = i * 34 := by rw [hsC_length]; simp; omega
  have h1 : hsC ys = hsC (ys.take i) ++ (hC ys[i] ++ hsC (ys.drop (i + 1))) := by rw [← hsC_cons, ← hsC_append, ← e]
  have h2 : hsC (ys.set i x) = hsC (ys.take i) ++ (hC x ++ hsC (ys.drop (i + 1))) := by
    rw [← hsC_cons, ← hsC_append]
    congr 1
    rw [List.set_eq_take_append_cons_drop, if_pos hi]
  unfold splice
  rw [h1, h2, List.append_assoc, List.append_assoc, List.take_append, List.take_of_length_le (by omega), hl, Nat.sub_self, List.take_zero, List.append_nil, List.drop_append, List.drop_of_length_le (by rw [hl, hC_length]; omega), List.nil_append, hl, hC_length]
  have h3 : i * 34 + 34 - i * 34 = 34 := by omega
  have h4 : ((hC ys[i] ++ hsC (ys.drop (i + 1))) ++ sp).drop 34 = hsC (ys.drop (i + 1)) ++ sp := by
    rw [List.append_assoc, List.drop_append, List.drop_of_length_le (by rw [hC_length]; omega), hC_length]
    simp
  rw [h3, h4]
  simp
theorem hs_room (ys : List Held) (sp : List Value) {off : Nat} (i : Nat) (hi : i < ys.length) (ho : off = i * 34) : off + 34 ≤ (hsC ys ++ sp).length := by
  subst ho; rw [List.length_append, hsC_length]; omega
theorem hs_ld (ys : List Held) (sp : List Value) {off : Nat} (i : Nat) (hi : i < ys.length) (ho : off = i * 34) : ((hsC ys ++ sp).drop off).take 34 = hC (nd ys i) := by
  subst ho
  have := hs_tdn [] ys sp 0 i rfl hi
  rw [Nat.zero_add] at this
  exact this
end Go.Er


/-
  copy, clear, append in place and of made elements; slices.overlaps.
-/
namespace Go.Er
open Go

section
variable {P : Program} {w0 w : World} {X : List Nat} {L L' : List (Nat × Obj)} {l : Fr} {d : Option Tmp} {ty : TypeId} {pos : String} {after : Array Edge} {g : Option (Nat × Bool)}
  {T T2 E : TypeId} {D2 : TypeDesc} {b off sz n m cap dl dc : Nat} {cs cs' xs sp vs : List Value} {x z : Value} {ti : TypeInfo} {args : List Operand}

theorem m_copy (H : St w0 X w L) (k : Nat) (hu : Und P T (.slice E)) (hs : Size P E sz) (ha : Evs l args [.slice (some ⟨b, off, none⟩) dl dc, x]) (hlen : (Builtin.lenOf x).run P w = .ok m w) (hmn : Nat.min m dl = n)
    (hcl : (Builtin.firstCells sz n x).run P w = .ok vs.toArray w) (h1 : ∀ v ∈ vs, v.oneCell' = true) (hk : L[k]? = some (b, .cells cs.toArray E (0, 0))) (ho : off + vs.length ≤ cs.length) (hset : splice cs off vs = cs') :
    ∃ v w', (execOp (evl l) ⟨d, .call ⟨.builtin .copy, args.toArray, [T, T2].toArray⟩, ty, pos, after, g⟩).run P w = .ok (.value v) w' ∧ St w0 X w' (L.set k (b, .cells cs'.toArray E (0, 0))) := by
  subst hset
  have hb := H.at k hk
  have hst := run_storeCells_at (P := P) b off E vs 0 cs.toArray w hb (by simpa using ho) h1
  refine ⟨.int .i64 (n : Int), w.setRow b (splice cs off vs).toArray, ?_, H.setRow k _ hk⟩
  have hrun : (execOp (evl l) ⟨d, .call ⟨.builtin .copy, args.toArray, [T, T2].toArray⟩, ty, pos, after, g⟩).run P w = ((Builtin.copy_ #[T, T2] ty #[.slice (some ⟨b, off, none⟩) dl dc, x]).run P w).andThen fun v w' => .ok (.value v) w' := by
    simp [execOp, resolve, invoke, builtin, ha.map]
  rw [hrun]
  simp only [Nat.add_zero] at hst
  simp only [Builtin.copy_, List.getElem?_toArray, List.getElem?_cons_zero, List.getElem?_cons_succ, Sem.run_bind, hu w, Result.andThen_ok, hlen, hmn, hs w, hcl, hst, Sem.run_pure, splice]
  rfl
theorem m_clear (H : St w0 X w L) (k : Nat) (hu : Und P T (.slice E)) (hz : Zero P E z) (ha : Evs l args [.slice (some ⟨b, off, none⟩) n dc]) (hvs : (Builtin.zeroCells z.cells n).toList = vs) (h1 : ∀ v ∈ vs, v.oneCell' = true)
    (hk : L[k]? = some (b, .cells cs.toArray E (0, 0))) (ho : off + vs.length ≤ cs.length) (h0 : 0 < n) (hset : splice cs off vs = cs') :
    ∃ v w', (execOp (evl l) ⟨d, .call ⟨.builtin .clear, args.toArray, [T].toArray⟩, ty, pos, after, g⟩).run P w = .ok (.value v) w' ∧ St w0 X w' (L.set k (b, .cells cs'.toArray E (0, 0))) := by
  subst hvs hset
  have hb := H.at k hk
  have hst := run_storeCells_at (P := P) b off E (Builtin.zeroCells z.cells n).toList 0 cs.toArray w hb (by simpa using ho) h1
  refine ⟨.tuple #[], w.setRow b (splice cs off (Builtin.zeroCells z.cells n).toList).toArray, ?_, H.setRow k _ hk⟩
  have hrun : (execOp (evl l) ⟨d, .call ⟨.builtin .clear, args.toArray, [T].toArray⟩, ty, pos, after, g⟩).run P w = ((Builtin.clear_ #[T] ty #[.slice (some ⟨b, off, none⟩) n dc]).run P w).andThen fun v w' => .ok (.value v) w' := by
    simp [execOp, resolve, invoke, builtin, ha.map]
  rw [hrun]
  simp only [Nat.add_zero] at hst
  obtain ⟨n', rfl⟩ : ∃ n', n = n' + 1 := ⟨n - 1, by omega⟩
  simp only [Builtin.clear_, List.getElem?_toArray, List.getElem?_cons_zero, Sem.run_bind, hu w, Result.andThen_ok, hz w, hst, Sem.run_pure, splice]
/-- append, where there is room -/
theorem m_append_fit (H : St w0 X w L) (k : Nat) (hu : Und P T (.slice E)) (hu2 : Und P T2 D2) (hD : ∀ q, D2 ≠ .int q) (hs : Size P E sz)
    (hk : L[k]? = some (b, .cells cs.toArray E (0, 0))) (hcap : cap * sz ≤ cs.length) (hfit : n + m ≤ cap) (ha : Evs l args [.slice (some ⟨b, 0, none⟩) n cap, x]) (hx : Src P w sz x m vs) (hset : splice cs (n * sz) vs = cs') :
    ∃ v w', (execOp (evl l) ⟨d, .call ⟨.builtin .append, args.toArray, [T, T2].toArray⟩, ty, pos, after, g⟩).run P w = .ok (.value v) w' ∧
      v = .slice (some ⟨b, 0, none⟩) (n + m) cap ∧ St w0 X w' (L.set k (b, .cells cs'.toArray E (0, 0))) := by
  subst hset
  have hb := H.at k hk
  have hrun : (execOp (evl l) ⟨d, .call ⟨.builtin .append, args.toArray, [T, T2].toArray⟩, ty, pos, after, g⟩).run P w = ((Builtin.append_ #[T, T2] ty #[.slice (some ⟨b, 0, none⟩) n cap, x]).run P w).andThen fun v w' => .ok (.value v) w' := by
    simp [execOp, resolve, invoke, builtin, ha.map]
  have hl := hx.len
  have hsz := hx.size
  have hlen : n * sz + vs.length ≤ cs.length := by
    rw [hsz, ← Nat.add_mul]
    exact Nat.le_trans (Nat.mul_le_mul_right _ hfit) hcap
  have hst := run_storeCells_at (P := P) b (n * sz) E vs 0 cs.toArray w hb (by simpa using hlen) hx.one
  simp only [Nat.add_zero] at hst
  refine ⟨_, w.setRow b (splice cs (n * sz) vs).toArray, ?_, rfl, H.setRow k _ hk⟩
  rw [hrun]
  have hadd : (⟨b, 0, none⟩ : Addr).add (n * sz) = ⟨b, n * sz, none⟩ := by rw [addr_add, Nat.zero_add]
  simp [Builtin.append_, hu w, hu2 w, hs w, hl, hfit, hx.cells w.drawn, hadd, hst, splice]
/-- append of m made elements, where there is no room -/
theorem m_append_zeros {q : IntKind} (H : St w0 X w L) (k : Nat) (hu : Und P T (.slice E)) (hu2 : Und P T2 (.int .i64)) (hs : Size P E sz) (hz : Zero P E z) (hzs : z.cells.size = sz) (hi : ∀ w, (typeInfo E).run P w = .ok ti w)
    (hk : L[k]? = some (b, .cells (xs ++ sp).toArray E (0, 0))) (hn : xs.length = n * sz) (hno : cap < n + m) (hby : 0 < ti.bytes) (hsz0 : 0 < sz) (hm : 0 < m) (hm2 : m ≤ 1000000000) (hroom : (n + m) * ti.bytes ≤ 140737488355328)
    (ha : Evs l args [.slice (some ⟨b, 0, none⟩) n cap, .int q (m : Int)]) :
    ∃ v w', (execOp (evl l) ⟨d, .call ⟨.builtin .append, args.toArray, [T, T2].toArray⟩, ty, pos, after, g⟩).run P w = .ok (.value v) w' ∧
      ∃ b' cap' sp', v = .slice (some ⟨b', 0, none⟩) (n + m) cap' ∧ cap' * sz ≤ (xs ++ (Builtin.zeroCells z.cells m).toList ++ sp').length ∧ n + m ≤ cap' ∧ St w0 X w' ((b', .cells (xs ++ (Builtin.zeroCells z.cells m).toList ++ sp').toArray E (0, 0)) :: L) := by
  have hb := H.at k hk
  have hrun : (execOp (evl l) ⟨d, .call ⟨.builtin .append, args.toArray, [T, T2].toArray⟩, ty, pos, after, g⟩).run P w = ((Builtin.append_ #[T, T2] ty #[.slice (some ⟨b, 0, none⟩) n cap, .int q (m : Int)]).run P w).andThen fun v w' => .ok (.value v) w' := by
    simp [execOp, resolve, invoke, builtin, ha.map]
  have hgrow := growslice_fits (need := n + m) (old := cap) (bytes := ti.bytes) (by omega) hroom
  let qn := Question.appendCap (n + m) cap E
  let nc := qn.cut (w.tape w.drawn qn)
  have hnc : n + m ≤ nc := Nat.le_add_right _ _
  let w1 : World := { w with drawn := w.drawn + 1 }
  let rest := (Builtin.zeroCells z.cells (nc - (n + m))).toList
  have H1 : St w0 X w1 L := H.drew (Nat.le_succ _)
  have H2 := H1.alloc (.cells (xs ++ (Builtin.zeroCells z.cells m).toList ++ rest).toArray E (0, 0))
  refine ⟨.slice (some ⟨w.heap.size, 0, none⟩) (n + m) nc, { w1 with heap := w1.heap.push (.cells (xs ++ (Builtin.zeroCells z.cells m).toList ++ rest).toArray E (0, 0)) }, ?_, w.heap.size, nc, rest, rfl, ?_, hnc, H2⟩
  · rw [hrun]
    have hold1 : (Builtin.firstCells sz n (.slice (some ⟨b, 0, none⟩) n cap)).run P w1 = .ok xs.toArray w1 := by
      simp only [Builtin.firstCells]
      exact run_loadRow (H1.at k hk) (by rw [List.drop_zero, List.take_append, List.take_of_length_le (by omega)]; have : n * sz - xs.length = 0 := by omega
                                         rw [this]; simp) hn
    have hch : (choose (.appendCap (n + m) cap E)).run P w = .ok nc w1 := by rw [run_choose, if_neg (by simp [Question.forced])]
    have hg2 : ¬ Builtin.nextslicecap (n + m) cap * ti.bytes > 2 ^ 48 := by
      have : (2 : Nat) ^ 48 = 281474976710656 := by decide
      omega
    have hz1 := hz w1
    have hfit : ¬ n + m ≤ cap := by omega
    have hw : IntKind.i64.wrap (m : Int) = (m : Int) := w_i64 (by omega) (by omega)
    have hmb : m * ti.bytes ≤ 140737488355328 := Nat.le_trans (Nat.mul_le_mul_right _ (Nat.le_add_left m n)) hroom
    have c0 : ¬ ((m : Int) < 0) := by omega
    have c2 : ¬ ((m : Int) * (ti.bytes : Int) > 2 ^ 48) := by
      have h48 : (2 : Int) ^ 48 = 281474976710656 := by decide
      have : (m : Int) * (ti.bytes : Int) = ((m * ti.bytes : Nat) : Int) := by simp
      omega
    have c3 : ¬ (m * sz = 0) := by
      have := Nat.mul_pos hm hsz0
      omega
    have c1 : ¬ (((n + m : Nat) : Int) > IntKind.i64.max ∧ (True ∨ ti.bytes = 0)) := by
      rintro ⟨h, _⟩
      have h2 : IntKind.i64.max = 9223372036854775807 := rfl
      have h3 : (n + m) * 1 ≤ (n + m) * ti.bytes := Nat.mul_le_mul_left _ hby
      omega
    have hasint : (asInt (Value.int q (m : Int))).run P w = .ok (m : Int) w := by simp [asInt, asIntOf]
    simp only [Builtin.append_, List.getElem?_toArray, List.getElem?_cons_zero, List.getElem?_cons_succ, Sem.run_bind, hu w, hu2 w, hs w, hi w, Result.andThen_ok, Sem.run_pure, hasint, hw, Sem.run_ite, if_true, if_neg c0, if_neg c2, Int.toNat_natCast, if_neg hfit]
    rw [if_neg c1]
    simp only [Result.andThen_ok, if_neg hg2, hch, hi w1, run_askRoom, hold1, Bool.not_true, Bool.false_eq_true, if_false, if_neg c3, hz1, newRow, Sem.run_bind, run_newObj, Sem.run_pure]
    simp [rest, w1]
    congr 2
    rw [← Array.toList_inj]
    simp
  · simp only [List.length_append, rest, Array.length_toList, zeroCells_size, hzs, hn]
    rw [← Nat.add_mul, ← Nat.add_mul]
    exact Nat.mul_le_mul_right _ (by omega)
theorem r_cap {a : Option Addr} (hu : Und P T (.slice E)) (ha : Evs l args [.slice a n cap]) : (execOp (evl l) ⟨d, .call ⟨.builtin .cap, args.toArray, [T].toArray⟩, ty, pos, after, g⟩).run P w = .ok (.value (.int .i64 cap)) w := by
  simp [execOp, resolve, invoke, builtin, ha.map, Builtin.cap_, hu w]
  try rfl
/-- slices.overlaps, of two blocks of one's own kind -/
theorem r_apart {f : FuncId} {fn : Func} {va vb : Nat} {TB : TypeId} {ca cb : List Value} {TA : TypeId} {oa ob la lb xa xb : Nat} {at_ : Array TypeId} (hf : P.funcs[f]? = some fn) (hname : (fn.name == "runtime.NumGoroutine") = false) (hbd : fn.body.isNone = true) (hn : Extern.findNext fn = none) (he : Extern.find fn = some (Extern.SlicesOverlaps.overlaps #[T, T] #[T2]))
    (hu : P.underlying T = some (.slice E)) (hs : Size P E sz) (ha : Evs l args [.slice (some ⟨va, oa, none⟩) la xa, .slice (some ⟨vb, ob, none⟩) lb xb]) (hne : va ≠ vb) (h1 : w.heap[va]? = some (.cells ca.toArray TA (0, 0))) (h2 : w.heap[vb]? = some (.cells cb.toArray TB (0, 0))) (h3 : 0 < cb.length) :
    (execOp (evl l) ⟨d, .call ⟨.value (.func f), args.toArray, at_⟩, ty, pos, after, g⟩).run P w = .ok (.value (.bool false)) w := by
  have hrun : (execOp (evl l) ⟨d, .call ⟨.value (.func f), args.toArray, at_⟩, ty, pos, after, g⟩).run P w = (callFunc f #[.slice (some ⟨va, oa, none⟩) la xa, .slice (some ⟨vb, ob, none⟩) lb xb]).run P w := by
    simp [execOp, resolve, invoke, evl, Deferred.ofValue, ha.map]
  rw [hrun, run_callFunc_extern hf hname hbd hn he, Lib.run_overlaps_apart w T T2 E hu sz hs ⟨va, oa, none⟩ ⟨vb, ob, none⟩ la xa lb xb hne TA TB ca.length cb.length (by simp [World.shape?, h1]) (by simp [World.shape?, h2]) (by omega) (by simp [World.frozen?, h1]) (by simp [World.frozen?, h1])]
  rfl
end

/-! ### The cells of Delete and Insert -/
theorem splice_at {A B vs : List Value} {off : Nat} (h : A.length = off) : splice (A ++ B) off vs = A ++ (vs ++ B.drop vs.length) := by
  subst h
  simp [splice, List.drop_append]
theorem splice_length' {cs vs : List Value} {off : Nat} (h : off + vs.length ≤ cs.length) : (splice cs off vs).length = cs.length := splice_length h
theorem hs_part (ys : List Held) (sp : List Value) (i : Nat) : hsC ys ++ sp = hsC (ys.take i) ++ (hsC (ys.drop i) ++ sp) := by
  rw [← List.append_assoc, ← hsC_append, List.take_append_drop]
theorem hs_take_len {ys : List Held} {i : Nat} (hi : i ≤ ys.length) : (hsC (ys.take i)).length = i * 34 := by rw [hsC_length, List.length_take]; omega
/-- a part of a row, behind number i -/
theorem src_drop {P : Program} {w : World} {b c n i : Nat} {o : Option Addr} {ys : List Held} {sp : List Value} {E : TypeId} (hb : w.heap[b]? = some (.cells (hsC ys ++ sp).toArray E (0, 0))) (hn : n = ys.length - i) (ho : o = cutA (some ⟨b, 0, none⟩) 34 c i) (hc : ys.length ≤ c) (hi : i ≤ ys.length) (c' : Nat) : Src P w 34 (.slice o n c') n (hsC (ys.drop i)) := by
  subst hn
  have hl : (hsC (ys.drop i)).length = (ys.length - i) * 34 := by rw [hsC_length, List.length_drop]; omega
  refine ⟨by simp [Builtin.lenOf], fun k => ?_, hl, hsC_one _⟩
  by_cases h : i < ys.length
  · have e : o = some ⟨b, i * 34, none⟩ := by rw [ho, cutA_at (o := i * 34) (by omega) (by omega)]
    subst e
    simp only [Builtin.firstCells]
    refine run_loadRow (w := { w with drawn := k }) hb ?_ hl
    rw [hs_part ys sp i, List.drop_append, List.drop_of_length_le (by rw [hs_take_len hi]; omega), List.nil_append, hs_take_len hi, Nat.sub_self, List.drop_zero, List.take_append, List.take_of_length_le (by omega)]
    have : (ys.length - i) * 34 - (hsC (ys.drop i)).length = 0 := by omega
    rw [this]; simp
  · have e : ys.drop i = [] := List.drop_of_length_le (by omega)
    have e2 : ys.length - i = 0 := by omega
    rw [e, e2, ho]
    unfold cutA
    split
    · simp only [Builtin.firstCells]
      exact run_loadCells_list (P := P) { w with drawn := k } _ [] fun j v hj => by simp at hj
    · simp only [Option.map_some, Builtin.firstCells]
      exact run_loadCells_list (P := P) { w with drawn := k } _ [] fun j v hj => by simp at hj
def delSp (ys : List Held) (sp : List Value) (i : Nat) : List Value := (hsC (ys.drop i) ++ sp).drop ((ys.length - (i + 1)) * 34)
theorem del_cells (ys : List Held) (sp : List Value) (i : Nat) (hi : i < ys.length) : splice (hsC ys ++ sp) (i * 34) (hsC (ys.drop (i + 1))) = hsC (ys.take i ++ ys.drop (i + 1)) ++ delSp ys sp i := by
  have hl : (hsC (ys.drop (i + 1))).length = (ys.length - (i + 1)) * 34 := by rw [hsC_length, List.length_drop]; omega
  rw [hs_part ys sp i, splice_at (hs_take_len (by omega)), hl, hsC_append, List.append_assoc]
  rfl
theorem delSp_length (ys : List Held) (sp : List Value) (i : Nat) (hi : i < ys.length) : (delSp ys sp i).length = 34 + sp.length := by
  unfold delSp
  rw [List.length_drop, List.length_append, hsC_length, List.length_drop]; omega
theorem hs_end (zs : List Held) (sp vs : List Value) {off : Nat} (h : zs.length * 34 = off) : splice (hsC zs ++ sp) off vs = hsC zs ++ (vs ++ sp.drop vs.length) := splice_at (by rw [hsC_length]; omega)
theorem hs_ins (a : List Held) (x : List Value) (vs : List Held) {off : Nat} (h : a.length * 34 = off) : splice (hsC a ++ x) off (hsC vs) = hsC (a ++ vs) ++ x.drop (34 * vs.length) := by
  rw [hs_end a x _ h, hsC_append, hsC_length, List.append_assoc]
theorem zeros_one (z : Array Value) : (Builtin.zeroCells z 1).toList = z.toList := by
  apply List.ext_getElem
  · simp [Builtin.zeroCells]
  · intro i h1 h2
    have h : i < z.size := by simpa using h2
    simp [Builtin.zeroCells, Nat.mod_eq_of_lt h, h]
theorem splice_right {A R D : List Value} {off k : Nat} (h : off = A.length + k) (_hk : k + D.length ≤ R.length) : splice (A ++ R) off D = A ++ splice R k D := by
  subst h
  unfold splice
  rw [List.take_append, List.take_of_length_le (by omega), Nat.add_sub_cancel_left, List.drop_append, List.drop_of_length_le (by omega), List.nil_append]
  have : A.length + k + D.length - A.length = k + D.length := by omega
  rw [this]; simp
theorem ins_cells (A V D R : List Held) (sp : List Value) (h : 34 * V.length + 34 * D.length ≤ (hsC R ++ sp).length) {off : Nat} (ho : off = A.length * 34) :
    splice (hsC A ++ splice (hsC R ++ sp) (34 * V.length) (hsC D)) off (hsC V) = hsC (A ++ V ++ D) ++ (hsC R ++ sp).drop (34 * V.length + 34 * D.length) := by
  rw [splice_at (by rw [hsC_length]; omega), hsC_append, hsC_append, hsC_length]
  have e : (splice (hsC R ++ sp) (34 * V.length) (hsC D)).drop (34 * V.length) = hsC D ++ (hsC R ++ sp).drop (34 * V.length + 34 * D.length) := by
    unfold splice
    rw [List.append_assoc, List.drop_append, List.drop_of_length_le (by rw [List.length_take]; omega), List.nil_append, hsC_length, List.length_take]
    have : 34 * V.length - min (34 * V.length) (hsC R ++ sp).length = 0 := by omega
    rw [this]; simp
  rw [e]; simp
theorem first_at {P : Program} {w : World} {b off n c m : Nat} {A : List Value} {D : List Held} {S : List Value} {E : TypeId} (hb : w.heap[b]? = some (.cells (A ++ (hsC D ++ S)).toArray E (0, 0))) (ho : A.length = off) (hn : n = D.length) : (Builtin.firstCells 34 n (.slice (some ⟨b, off, none⟩) m c)).run P w = .ok (hsC D).toArray w := by
  subst ho hn
  simp only [Builtin.firstCells]
  refine run_loadRow hb ?_ (by rw [hsC_length]; omega)
  rw [List.drop_append, List.drop_of_length_le (Nat.le_refl _), List.nil_append, Nat.sub_self, List.drop_zero, List.take_append, List.take_of_length_le (by rw [hsC_length]; omega)]
  have : D.length * 34 - (hsC D).length = 0 := by rw [hsC_length]; omega
  rw [this]; simp
theorem src_all {P : Program} {w : World} {b n : Nat} {ys : List Held} {sp : List Value} {E : TypeId} (hb : w.heap[b]? = some (.cells (hsC ys ++ sp).toArray E (0, 0))) (hn : n = ys.length) (c : Nat) : Src P w 34 (.slice (some ⟨b, 0, none⟩) n c) n (hsC ys) := by
  subst hn
  have hl : (hsC ys).length = ys.length * 34 := by rw [hsC_length]; omega
  refine Src.slice hb ?_ hl (hsC_one _)
  rw [List.drop_zero, List.take_append, List.take_of_length_le (by omega)]
  have : ys.length * 34 - (hsC ys).length = 0 := by omega
  rw [this]; simp
end Go.Er


/-
  A tree, as the blocks that it stands in; rows of whole numbers; what Key tells.
-/
namespace Go.Er
open Go
/-- a tree of a cipher that holds some nodes -/
def TreeN (TT TE : TypeId) (bt : Nat) (ci : Value) (xs : List Held) (N : List (Nat × Obj)) : Prop :=
  ∃ a cap N', N = (bt, .cells [ci, .slice a xs.length cap].toArray TT (0, 0)) :: N' ∧ RowN 34 TE (hsC xs) xs.length a cap N'
theorem St.ownsM {w0 w : World} {X : List Nat} {L N : List (Nat × Obj)} (h : St w0 X w L) (hs : N.Sublist L) : Go.Er.Own w N :=
  ⟨fun p hp => h.own p (hs.subset hp), (hs.map _).nodup h.nodup⟩
theorem TreeN.rd {TT TE : TypeId} {bt : Nat} {ci : Value} {xs : List Held} {N : List (Nat × Obj)} {w : World} (h : TreeN TT TE bt ci xs N) (ho : Go.Er.Own w N) : ∃ a cap, w.heap[bt]? = some (.cells [ci, .slice a xs.length cap].toArray TT (0, 0)) ∧ HRow w a xs := by
  obtain ⟨a, cap, N', rfl, hN⟩ := h
  exact ⟨a, cap, ho.own _ List.mem_cons_self, hN.hrowM ho.st (fun p hp => List.mem_cons_of_mem _ hp)⟩
/-- what Key tells -/
def KeyR (sl sr : Key → Key) (xs : List Held) (n : Int) (k : Key) (ok : Bool) : Prop :=
  (ok = true ∧ ∃ x ∈ xs, InN x n ∧ k = leafK sl sr x n) ∨ (ok = false ∧ k = By.zero 32 ∧ ¬ ∃ x ∈ xs, InN x n)
theorem Valid.mem {xs : List Held} (h : Valid xs) {x : Held} (hx : x ∈ xs) : okN x := by
  obtain ⟨i, hi, rfl⟩ := nd_mem hx
  exact h.get hi
/-! ### Rows of whole numbers of 64 bits -/
def uC (ns : List Int) : List Value := ns.map fun n => .int .u64 n
theorem uC_length (ns : List Int) : (uC ns).length = ns.length := by simp [uC]
def U64 (ns : List Int) : Prop := ∀ n ∈ ns, 0 ≤ n ∧ n < 18446744073709551616
def URow (w : World) (a : Option Addr) (ns : List Int) : Prop :=
  0 < ns.length → ∃ b off pre post T fz, a = some ⟨b, off, none⟩ ∧ w.heap[b]? = some (.cells (pre ++ uC ns ++ post).toArray T fz) ∧ pre.length = off
theorem u_get (pre : List Value) (ns : List Int) (post : List Value) {off o : Nat} (i : Nat) (ho : pre.length = off) (hi : i < ns.length) (he : o = off + i) : (pre ++ uC ns ++ post)[o]? = some (.int .u64 (ns.getD i 0)) := by
  subst he ho
  rw [List.append_assoc, List.getElem?_append_right (by omega)]
  have h1 : pre.length + i - pre.length = i := by omega
  rw [h1, List.getElem?_append_left (by rw [uC_length]; exact hi)]
  simp [uC, List.getD_eq_getElem?_getD, hi]
theorem U64.get {ns : List Int} (h : U64 ns) {i : Nat} (hi : i < ns.length) : 0 ≤ ns.getD i 0 ∧ ns.getD i 0 < 18446744073709551616 := by
  rw [List.getD_eq_getElem?_getD, List.getElem?_eq_getElem hi]
  exact h _ (List.getElem_mem hi)
theorem getD_mem {ns : List Int} {i : Nat} (hi : i < ns.length) : ns.getD i 0 ∈ ns := by
  rw [List.getD_eq_getElem?_getD, List.getElem?_eq_getElem hi]; exact List.getElem_mem hi

/-! ### The document's example -/
section
variable {sl sr : Key → Key} {r : Held} (hd : r.depth = 0) (ha : r.at_ = 0)
include hd ha
end
theorem punc_off {sl sr : Key → Key} {xs : List Held} {n : Int} (h : ¬ ∃ x ∈ xs, InN x n) : punc sl sr xs n = xs := punc_none fun x hx hi => h ⟨x, hx, hi⟩
theorem len_tree {sl sr : Key → Key} {xs : List Held} {n : Int} (hv : Valid xs) : (punc sl sr xs n).length ≤ xs.length + 17 := by
  by_cases h : ∃ x ∈ xs, InN x n
  · obtain ⟨x, hx, hi⟩ := h
    obtain ⟨i, hl, rfl⟩ := nd_mem hx
    exact punc_len hv hl hi
  · rw [punc_off h]; omega
end Go.Er


/-
  Keys that are equal; bits of numbers; two leaves beside one another.
-/
namespace Go.Er
open Go
instance {n : Nat} : DecidableEq (By n) := fun a b => decidable_of_iff (a.1 = b.1) ⟨By.ext, fun h => by rw [h]⟩
section
variable {w : World} {P : Program} {l : Fr} {T T' : TypeId} {d : Option Nat} {ty : TypeId} {pos : String} {after : Array Edge} {g : Option (Nat × Bool)} {x y : Operand}
/-- an array of 32 bytes -/
structure KeyT (P : Program) (T : TypeId) : Prop where
  grd : P.eqGuardType P.depth T = false
  el : ∃ e, P.underlying T = some (.array 32 e) ∧ P.underlying e = some (.int .u8) ∧ Size P e 1
theorem key_eq (h : KeyT P T) (a b : Key) : (Op.equalIn 10000 T (.agg (kC a).toArray) (.agg (kC b).toArray)).run P w = .ok (decide (a = b)) w := by
  obtain ⟨e, hu, he, hs⟩ := h.el
  have q := run_equalIn_bytes (P := P) w 9998 T e 32 hu he hs a.1 b.1 a.2 b.2
  have hd : decide (a = b) = (a.1 == b.1) := by
    rw [Bool.eq_iff_iff]
    simp only [decide_eq_true_eq, beq_iff_eq]
    exact ⟨fun h => by rw [h], fun h => By.ext h⟩
  rw [hd, ← q]
  rfl
theorem r_eqlK {a b : Key} (h : KeyT P T) (hx : evl l x = .agg (kC a).toArray) (hy : evl l y = .agg (kC b).toArray) : (execOp (evl l) ⟨d, .binOp .eql T x y T', ty, pos, after, g⟩).run P w = .ok (.value (.bool (decide (a = b)))) w := by
  simp only [execOp, hx, hy, Sem.run_bind, run_eqGuard_agg w .eql T x y _ _ h.grd, Result.andThen_ok, run_eql_struct, key_eq h, Sem.run_pure]
end
/-! ### Bits -/
/-! ### Two leaves beside one another -/
variable {sl sr : Key → Key}
/-! ### One held node -/
theorem HRow.one {w : World} {b : Nat} {x : Held} {T : TypeId} {fz : Nat × Nat} (h : w.heap[b]? = some (.cells (hC x).toArray T fz)) : HRow w (some ⟨b, 0, none⟩) [x] := fun _ => ⟨b, 0, [], [], T, fz, rfl, by rw [h, hsC_one1, List.nil_append, List.append_nil], rfl⟩
/-! ### A row that grows, maybe by nothing -/
section
variable {w0 w : World} {X : List Nat} {P : Program} {l : Fr} {T E : TypeId} {d : Option Nat} {ty : TypeId} {pos : String} {after : Array Edge} {g : Option (Nat × Bool)}
theorem m_append_row0 {L1 N : List (Nat × Obj)} {T2 : TypeId} {D2 : TypeDesc} {cs vs : List Value} {z u : Value} {ti : TypeInfo} {n m cap sz : Nat} {a : Option Addr} {args : List Operand}
    (H : St w0 X w (L1 ++ N)) (hN : RowN sz E cs n a cap N) (hu : Und P T (.slice E)) (hu2 : Und P T2 D2) (hD : ∀ q, D2 ≠ .int q) (hs : Size P E sz) (hz : Zero P E z) (hzs : z.cells.size = sz) (hi : ∀ w, (typeInfo E).run P w = .ok ti w)
    (hby : 0 < ti.bytes) (hroom : (n + m) * ti.bytes ≤ 140737488355328) (ha : Evs l args [.slice a n cap, u]) (hx : Src P w sz u m vs) :
    ∃ v w', (execOp (evl l) ⟨d, .call ⟨.builtin .append, args.toArray, [T, T2].toArray⟩, ty, pos, after, g⟩).run P w = .ok (.value v) w' ∧
      ∃ a' cap' N', v = .slice a' (n + m : Nat) cap' ∧ RowN sz E (cs ++ vs) (n + m) a' cap' N' ∧ St w0 X w' (L1 ++ N') := by
  rcases Nat.eq_zero_or_pos m with rfl | hm
  · have hl := hx.len
    have hv : vs = [] := List.length_eq_zero_iff.1 (by rw [hx.size, Nat.zero_mul])
    subst hv
    obtain ⟨hlen, hnc, ⟨rfl, rfl, rfl, rfl⟩ | ⟨b, sp, rfl, hcap, rfl⟩⟩ := id hN
    · refine ⟨.slice none 0 0, w, ?_, none, 0, [], rfl, by simpa using hN, H⟩
      have hrun : (execOp (evl l) ⟨d, .call ⟨.builtin .append, args.toArray, [T, T2].toArray⟩, ty, pos, after, g⟩).run P w = ((Builtin.append_ #[T, T2] ty #[.slice none 0 0, u]).run P w).andThen fun v w' => .ok (.value v) w' := by
        simp [execOp, resolve, invoke, builtin, ha.map]
      rw [hrun]
      simp [Builtin.append_, hu w, hu2 w, hs w, hl, hx.cells w.drawn]
    · have hk : (L1 ++ [(b, Obj.cells (cs ++ sp).toArray E (0, 0))])[L1.length]? = some (b, .cells (cs ++ sp).toArray E (0, 0)) := by simp
      obtain ⟨v, w', hr, b', cap', sp', rfl, hc, hnc', H'⟩ := m_append_own2 H L1.length hu hu2 hD hs hz hzs hi hk hlen hcap hby hroom ha hx
      refine ⟨_, w', hr, some ⟨b', 0, none⟩, cap', [(b', .cells (cs ++ [] ++ sp').toArray E (0, 0))], rfl, ⟨by simpa using hlen, hnc', .inr ⟨b', sp', rfl, hc, rfl⟩⟩, ?_⟩
      have e : (L1 ++ [(b, Obj.cells (cs ++ sp).toArray E (0, 0))]).eraseIdx L1.length = L1 := by
        rw [List.eraseIdx_append_of_length_le (Nat.le_refl _)]; simp
      rw [e] at H'
      exact H'.perm List.perm_append_comm
  · exact m_append_row H hN hu hu2 hD hs hz hzs hi hby hm hroom ha hx
end
end Go.Er


/-
  The plain law of reading bytes as nodes.
-/
namespace Go.Er
open Go

abbrev bt (bs : List UInt8) (i : Nat) : Int := ((bs.getD i 0).toNat : Int)
/-- have bytes the shape of nodes'? -/
def Shape (bs : List UInt8) : Prop := 2 ≤ bs.length ∧ (bs.length : Int) = 2 + 36 * (bt bs 0 * 256 + bt bs 1)
instance (bs : List UInt8) : Decidable (Shape bs) := by unfold Shape; infer_instance

theorem drop_getD (bs : List UInt8) (i k : Nat) : (bs.drop i).getD k 0 = bs.getD (i + k) 0 := by simp [List.getD_eq_getElem?_getD]
theorem RowN.hrow {w0 w : World} {X : List Nat} {L N : List (Nat × Obj)} {E : TypeId} {xs : List Held} {n cap : Nat} {a : Option Addr} (h : RowN 34 E (hsC xs) n a cap N) (H : St w0 X w (L ++ N)) : HRow w a xs := by
  intro hx
  obtain ⟨hl, _, ⟨rfl, _⟩ | ⟨b, sp, rfl, _, rfl⟩⟩ := h
  · rw [hsC_length] at hl; omega
  · exact ⟨b, 0, [], sp, E, (0, 0), rfl, H.own (b, _) (List.mem_append_right _ (List.mem_singleton.2 rfl)), rfl⟩
theorem BRow.part {w : World} {bs : List UInt8} {b off : Nat} (h : BRow w (some ⟨b, off, none⟩) bs) (i n : Nat) {o : Nat} (hn : i + n ≤ bs.length) (ho : off + i = o) : BRow w (some ⟨b, o, none⟩) ((bs.drop i).take n) := by
  have := h.cut (lo := i) (n := n) (cap := i + n + 1) hn (by omega)
  rw [cutA_at (o := o) (by omega) (by omega)] at this
  exact this
end Go.Er


/-
  Nodes that were written are read back; and small words for the laws.
-/
namespace Go.Er
open Go

/-! ### There and back -/
theorem u8m (d : Int) : ((UInt8.ofNat (d % 256).toNat).toNat : Int) = d % 256 := by rw [UInt8.toNat_ofNat']; omega
/-! ### Small words -/
section
variable {P : Program} {w0 w : World} {X : List Nat} {L L1 : List (Nat × Obj)} {l : Fr} {d : Option Tmp} {ty : TypeId} {pos : String} {after : Array Edge} {g : Option (Nat × Bool)}
  {x y z : Operand} {T T' E E' : TypeId} {b off sz len cap : Nat} {a : Option Addr}
theorem RowN.browM {bs : List UInt8} {n : Nat} {N : List (Nat × Obj)} (h : RowN 1 E (bC bs) n a cap N) (H : St w0 X w L) (hs : ∀ p ∈ N, p ∈ L) : BRow w a bs := by
  intro hx
  obtain ⟨hl, _, ⟨rfl, _⟩ | ⟨b, sp, rfl, _, rfl⟩⟩ := h
  · rw [bC_length] at hl; omega
  · exact ⟨b, 0, [], sp, E, (0, 0), rfl, H.own (b, _) (hs _ (List.mem_singleton.2 rfl)), rfl⟩
theorem r_textR {c : Nat} {bs : List UInt8} (hu : Und P T (.slice E)) (hu' : Und P T' .string) (he : Und P E (.int .u8)) (hx : evl l x = .slice a bs.length c) (h0 : 0 < bs.length) (hr : BRow w a bs) : (execOp (evl l) ⟨d, .convert T T' x, ty, pos, after, g⟩).run P w = .ok (.value (.string (bytesS bs))) w := by
  obtain ⟨b, off, pre, post, F, fz, rfl, hb, hp⟩ := hr h0
  refine r_text hu hu' he hx hb ?_
  have := bs_td pre bs post off 0 bs.length hp (by omega)
  rw [Nat.add_zero] at this
  rw [this, List.drop_zero, List.take_length]
end
end Go.Er


/-
  Arrays of bytes: parts of them, copies into them, equality; rows of elements that have all the same number of cells; a method as a value.
-/
namespace Go.Er
open Go
section
variable {P : Program} {w0 w : World} {X : List Nat} {L : List (Nat × Obj)} {l : Fr} {d : Option Tmp} {ty : TypeId} {pos : String} {after : Array Edge} {g : Option (Nat × Bool)}
  {x y z : Operand} {T T' E E' : TypeId} {b off sz : Nat}
/-- arr[lo:] -/
theorem r_sliceAL {k : IntKind} {n lo m o : Nat} {ilo : Int} (hu : Und P T (.array n E)) (hs : Size P E sz) (hx : evl l x = .pointer (some ⟨b, off, none⟩)) (hy : evl l y = .int k ilo) (h0 : ilo = (lo : Int)) (h2 : lo < n) (ho : off + lo * sz = o) (hm : n - lo = m) :
    (execOp (evl l) ⟨d, .slice T x (some y) none none, ty, pos, after, g⟩).run P w = .ok (.value (.slice (some ⟨b, o, none⟩) m m)) w := by
  subst ho hm
  have hne : ¬ n = lo := by omega
  simp only [execOp, Instr.sliceAt, Option.map_some, Option.map_none, hx, hy, Sem.run_bind, hu w, Result.andThen_ok, Instr.sureAddr, Instr.sliceBounds, Sem.run_pure, run_bound h0 (Nat.le_of_lt h2), hs w, if_neg hne, addr_add]
/-- an array of n bytes -/
structure ByT (P : Program) (n : Nat) (T : TypeId) : Prop where
  grd : P.eqGuardType P.depth T = false
  el : ∃ e, P.underlying T = some (.array n e) ∧ P.underlying e = some (.int .u8) ∧ Size P e 1
theorem by_eq {n : Nat} (h : ByT P n T) (a b : By n) : (Op.equalIn 10000 T (.agg (kC a).toArray) (.agg (kC b).toArray)).run P w = .ok (decide (a = b)) w := by
  obtain ⟨e, hu, he, hs⟩ := h.el
  have q := run_equalIn_bytes (P := P) w 9998 T e n hu he hs a.1 b.1 a.2 b.2
  have hd : decide (a = b) = (a.1 == b.1) := by
    rw [Bool.eq_iff_iff]
    simp only [decide_eq_true_eq, beq_iff_eq]
    exact ⟨fun h => by rw [h], fun h => By.ext h⟩
  rw [hd, ← q]
  rfl
theorem r_eqlB {n : Nat} {a b : By n} (h : ByT P n T) (hx : evl l x = .agg (kC a).toArray) (hy : evl l y = .agg (kC b).toArray) : (execOp (evl l) ⟨d, .binOp .eql T x y T', ty, pos, after, g⟩).run P w = .ok (.value (.bool (decide (a = b)))) w := by
  simp only [execOp, hx, hy, Sem.run_bind, run_eqGuard_agg w .eql T x y _ _ h.grd, Result.andThen_ok, run_eql_struct, by_eq h, Sem.run_pure]
/-- copy, of what a Src shows -/
theorem m_copyS {T2 : TypeId} {args : List Operand} {dl dc m : Nat} {u : Value} {cs cs' vs : List Value} (H : St w0 X w L) (k : Nat) (hu : Und P T (.slice E)) (hs : Size P E sz) (ha : Evs l args [.slice (some ⟨b, off, none⟩) dl dc, u]) (hx : Src P w sz u m vs) (hmn : m ≤ dl)
    (hk : L[k]? = some (b, .cells cs.toArray E' (0, 0))) (ho : off + vs.length ≤ cs.length) (hset : splice cs off vs = cs') :
    ∃ v w', (execOp (evl l) ⟨d, .call ⟨.builtin .copy, args.toArray, [T, T2].toArray⟩, ty, pos, after, g⟩).run P w = .ok (.value v) w' ∧ St w0 X w' (L.set k (b, .cells cs'.toArray E' (0, 0))) := by
  subst hset
  have hcl : (Builtin.firstCells sz m u).run P w = .ok vs.toArray w := hx.cells w.drawn
  have hlen := hx.len
  have hmn' : Nat.min m dl = m := Nat.min_eq_left hmn
  have hb := H.at k hk
  have hst := run_storeCells_at (P := P) b off E' vs 0 cs.toArray w hb (by simpa using ho) hx.one
  refine ⟨.int .i64 (m : Int), w.setRow b (splice cs off vs).toArray, ?_, H.setRow k _ hk⟩
  have hrun : (execOp (evl l) ⟨d, .call ⟨.builtin .copy, args.toArray, [T, T2].toArray⟩, ty, pos, after, g⟩).run P w = ((Builtin.copy_ #[T, T2] ty #[.slice (some ⟨b, off, none⟩) dl dc, u]).run P w).andThen fun v w' => .ok (.value v) w' := by
    simp [execOp, resolve, invoke, builtin, ha.map]
  rw [hrun]
  simp only [Nat.add_zero] at hst
  simp only [Builtin.copy_, List.getElem?_toArray, List.getElem?_cons_zero, List.getElem?_cons_succ, Sem.run_bind, hu w, Result.andThen_ok, hlen, hmn', hs w, hcl, hst, Sem.run_pure, splice]
  rfl
end
/-! ### Rows of elements -/
structure Elem {α : Type} (f : α → List Value) (sz : Nat) : Prop where
  len : ∀ x, (f x).length = sz
  one : ∀ x, ∀ v ∈ f x, v.oneCell' = true
def rowC {α : Type} (f : α → List Value) (xs : List α) : List Value := xs.flatMap f
section
variable {α : Type} {f : α → List Value} {sz : Nat}
theorem rowC_append (xs ys : List α) : rowC f (xs ++ ys) = rowC f xs ++ rowC f ys := by simp [rowC]
theorem rowC_one1 (x : α) : rowC f [x] = f x := by simp [rowC]
theorem rowC_length (h : Elem f sz) (xs : List α) : (rowC f xs).length = xs.length * sz := by
  induction xs with
  | nil => simp [rowC]
  | cons x xs ih => simp only [rowC, List.flatMap_cons, List.length_append, h.len, List.length_cons] at ih ⊢; rw [ih, Nat.add_mul, Nat.one_mul, Nat.add_comm]
theorem rowC_oneC (h : Elem f sz) (xs : List α) : ∀ v ∈ rowC f xs, v.oneCell' = true := by
  intro v hv
  obtain ⟨x, _, hv⟩ := List.mem_flatMap.1 hv
  exact h.one x v hv
theorem row_split {xs : List α} {i : Nat} {x : α} (hx : xs[i]? = some x) : xs = xs.take i ++ x :: xs.drop (i + 1) := by
  have hi : i < xs.length := by
    rcases Nat.lt_or_ge i xs.length with h | h
    · exact h
    · rw [List.getElem?_eq_none h] at hx; cases hx
  have : xs[i] = x := by rw [List.getElem?_eq_getElem hi] at hx; exact Option.some.inj hx
  rw [← this]; simp
theorem row_cells (h : Elem f sz) {xs : List α} {i : Nat} {x : α} (hx : xs[i]? = some x) : ∃ A B, rowC f xs = A ++ (f x ++ B) ∧ A.length = i * sz := by
  have hi : i < xs.length := by
    rcases Nat.lt_or_ge i xs.length with h | h
    · exact h
    · rw [List.getElem?_eq_none h] at hx; cases hx
  refine ⟨rowC f (xs.take i), rowC f (xs.drop (i + 1)), ?_, ?_⟩
  · conv => lhs; rw [row_split hx]
    unfold rowC
    rw [List.flatMap_append, List.flatMap_cons]
  · rw [rowC_length h, List.length_take, Nat.min_eq_left (by omega)]
theorem row_td (h : Elem f sz) (pre : List Value) {xs : List α} (post : List Value) {off o i : Nat} {x : α} (ho : pre.length = off) (hx : xs[i]? = some x) (he : o = off + i * sz) : ((pre ++ rowC f xs ++ post).drop o).take sz = f x := by
  subst he ho
  obtain ⟨A, B, hA, hl⟩ := row_cells h hx
  have hlx := h.len x
  rw [hA, ← hl]
  have e : pre ++ (A ++ (f x ++ B)) ++ post = (pre ++ A) ++ (f x ++ (B ++ post)) := by simp
  rw [e, ← List.length_append, List.drop_append, List.drop_of_length_le (Nat.le_refl _), List.nil_append, Nat.sub_self, List.drop_zero, List.take_append, List.take_of_length_le (by omega), hlx, Nat.sub_self]
  simp
theorem row_get (h : Elem f sz) (pre : List Value) {xs : List α} (post : List Value) {off o i j : Nat} {x : α} (ho : pre.length = off) (hx : xs[i]? = some x) (hj : j < sz) (he : o = off + i * sz + j) : (pre ++ rowC f xs ++ post)[o]? = (f x)[j]? := by
  subst he ho
  obtain ⟨A, B, hA, hl⟩ := row_cells h hx
  have hlx := h.len x
  rw [hA, ← hl]
  have e : pre ++ (A ++ (f x ++ B)) ++ post = (pre ++ A) ++ (f x ++ (B ++ post)) := by simp
  rw [e, List.getElem?_append_right (by rw [List.length_append]; omega), List.length_append]
  have e2 : pre.length + A.length + j - (pre.length + A.length) = j := by omega
  rw [e2, List.getElem?_append_left (by omega)]
/-- a row that a slice shows -/
def RRow (f : α → List Value) (w : World) (a : Option Addr) (xs : List α) : Prop :=
  0 < xs.length → ∃ b off pre post T fz, a = some ⟨b, off, none⟩ ∧ w.heap[b]? = some (.cells (pre ++ rowC f xs ++ post).toArray T fz) ∧ pre.length = off
variable {P : Program} {w0 w : World} {X : List Nat} {L N : List (Nat × Obj)} {a : Option Addr} {E : TypeId} {n cap : Nat}
theorem RRow.st {xs : List α} (h : RRow f w0 a xs) (H : St w0 [] w L) : RRow f w a xs := by
  intro hx
  obtain ⟨b, off, pre, post, T, fz, e, hb, hp⟩ := h hx
  exact ⟨b, off, pre, post, T, fz, e, H.rd0 hb, hp⟩
theorem RRow.src {xs : List α} (he : Elem f sz) (h : RRow f w a xs) (c : Nat) : Src P w sz (.slice a xs.length c) xs.length (rowC f xs) := by
  refine ⟨by simp [Builtin.lenOf], fun k => ?_, rowC_length he xs, rowC_oneC he xs⟩
  by_cases h0 : 0 < xs.length
  · obtain ⟨b, off, pre, post, T, fz, rfl, hb, hp⟩ := h h0
    simp only [Builtin.firstCells]
    refine run_loadRow (w := { w with drawn := k }) hb ?_ (rowC_length he xs)
    subst hp
    rw [List.append_assoc, List.drop_append, List.drop_of_length_le (Nat.le_refl _), List.nil_append, Nat.sub_self, List.drop_zero, List.take_append, List.take_of_length_le (by rw [rowC_length he]; exact Nat.le_refl _), rowC_length he, Nat.sub_self]
    simp
  · have e : xs = [] := List.length_eq_zero_iff.1 (by omega)
    subst e
    cases a with
    | none => simp [Builtin.firstCells, rowC]
    | some a =>
      simp only [Builtin.firstCells, List.length_nil, Nat.zero_mul]
      refine run_loadCells_list (P := P) { w with drawn := k } a [] fun j v hj => ?_
      simp at hj
theorem RowN.rrowM {xs : List α} (h : RowN sz E (rowC f xs) n a cap N) (h0 : 0 < xs.length → 0 < n) (H : St w0 X w L) (hs : ∀ p ∈ N, p ∈ L) : RRow f w a xs := by
  intro hx
  have hn := h0 hx
  obtain ⟨hl, _, ⟨rfl, _⟩ | ⟨b, sp, rfl, _, rfl⟩⟩ := h
  · omega
  · exact ⟨b, 0, [], sp, E, (0, 0), rfl, H.own (b, _) (hs _ (List.mem_singleton.2 rfl)), rfl⟩
end
end Go.Er


/-
  The plain law of sealed sectors: the little sum, a sealed sector, what it has.
-/
namespace Go.Er
open Go

/-! ### The little cipher's sum -/
def ls1 (x : Int) (b : UInt8) : Int := (x + (b.toNat : Int)) % 18446744073709551616 * 1099511628211 % 18446744073709551616
def ls2 (x : Int) (b : UInt8) : Int := ((x + (b.toNat : Int)) % 18446744073709551616 + 1) % 18446744073709551616 * 1099511628211 % 18446744073709551616
def ls3 (x : Int) : Int := (x * 6364136223846793005 % 18446744073709551616 + 1442695040888963407) % 18446744073709551616
def lsK (k : List UInt8) (x : Int) : Nat → Int
  | 0 => x
  | i + 1 => ls1 (lsK k x i) (k.getD i 0)
def lsB (bs : List UInt8) (x : Int) : Nat → Int
  | 0 => x
  | i + 1 => ls2 (lsB bs x i) (bs.getD i 0)
def lsY (x : Int) : Nat → Int
  | 0 => x
  | i + 1 => ls3 (lsY x i)
def lsX (k : Key) (bs : List UInt8) : Int := lsB bs (lsK k.1 bs.length 32) bs.length
def lsO (k : Key) (bs : List UInt8) (i : Nat) : UInt8 := UInt8.ofNat (lsY (lsX k bs) (i + 1) / 72057594037927936).toNat
def litSum (k : Key) (bs : List UInt8) : By 16 := ⟨(List.range 16).map (lsO k bs), by simp⟩
/-! ### Sealed sectors -/
abbrev Sec := By 128
def secL (l : List UInt8) (h : l.length = 128) : Sec := ⟨l, h⟩
def headS (gen : Int) (body : List UInt8) : List UInt8 := putB gen 8 ++ (UInt8.ofNat body.length :: (body ++ List.replicate (103 - body.length) 0))
theorem headS_length {gen : Int} {body : List UInt8} (h : body.length ≤ 103) : (headS gen body).length = 112 := by
  simp only [headS, List.length_append, putB_length, List.length_cons, List.length_replicate]; omega
def sealL (at_ gen : Int) (body : List UInt8) : List UInt8 := (litSum (By.zero 32) (putB at_ 4 ++ headS gen body)).1 ++ headS gen body
theorem sealL_length {at_ gen : Int} {body : List UInt8} (h : body.length ≤ 103) : (sealL at_ gen body).length = 128 := by
  rw [sealL, List.length_append, headS_length h, (litSum _ _).2]
def sealS (at_ gen : Int) (body : List UInt8) : Sec := if h : body.length ≤ 103 then secL (sealL at_ gen body) (sealL_length h) else By.zero 128
theorem sealS_val {at_ gen : Int} {body : List UInt8} (h : body.length ≤ 103) : (sealS at_ gen body).1 = sealL at_ gen body := by unfold sealS; rw [dif_pos h]; rfl
/-- what a sector has: its generation, its body -/
def lenU (s : Sec) : Nat := (s.1.getD 24 0).toNat
def genU (s : Sec) : Int := getN ((s.1.drop 16).take 8)
def bodyU (s : Sec) : List UInt8 := (s.1.drop 25).take (lenU s)
def Sealed (at_ : Int) (s : Sec) : Prop := lenU s ≤ 103 ∧ s = sealS at_ (genU s) (bodyU s)
instance (at_ : Int) (s : Sec) : Decidable (Sealed at_ s) := by unfold Sealed; infer_instance
theorem getN_put8 {n : Int} (h0 : 0 ≤ n) (h1 : n < 18446744073709551616) : getN (putB n 8) = n := by
  have e : putB n 8 = [UInt8.ofNat (n / 72057594037927936 % 256).toNat, UInt8.ofNat (n / 281474976710656 % 256).toNat, UInt8.ofNat (n / 1099511627776 % 256).toNat, UInt8.ofNat (n / 4294967296 % 256).toNat, UInt8.ofNat (n / 16777216 % 256).toNat, UInt8.ofNat (n / 65536 % 256).toNat, UInt8.ofNat (n / 256 % 256).toNat, UInt8.ofNat (n % 256).toNat] := by
    simp [putB, List.range_succ]
  rw [e]
  simp only [getN, List.foldl_cons, List.foldl_nil, u8m]
  omega
section
variable {at_ gen : Int} {body : List UInt8} (h : body.length ≤ 103)
include h
theorem seal_drop : (sealS at_ gen body).1.drop 16 = headS gen body := by
  rw [sealS_val h, sealL, List.drop_append, List.drop_of_length_le (by rw [(litSum _ _).2]; exact Nat.le_refl _), (litSum _ _).2]
  simp
theorem seal_len : lenU (sealS at_ gen body) = body.length := by
  unfold lenU
  have e : (sealS at_ gen body).1.getD 24 0 = (headS gen body).getD 8 0 := by
    rw [← seal_drop h (at_ := at_), drop_getD]
  rw [e]
  simp only [headS, List.getD_eq_getElem?_getD]
  rw [List.getElem?_append_right (by rw [putB_length]; omega), putB_length]
  simp only [Nat.sub_self, List.getElem?_cons_zero, Option.getD_some, UInt8.toNat_ofNat']
  omega
theorem seal_gen (h0 : 0 ≤ gen) (h1 : gen < 18446744073709551616) : genU (sealS at_ gen body) = gen := by
  unfold genU
  rw [seal_drop h, headS, List.take_append, List.take_of_length_le (by rw [putB_length]; exact Nat.le_refl _), putB_length]
  simp only [Nat.sub_self, List.take_zero, List.append_nil]
  exact getN_put8 h0 h1
theorem seal_body : bodyU (sealS at_ gen body) = body := by
  unfold bodyU
  rw [seal_len h]
  have e : (sealS at_ gen body).1.drop 25 = (headS gen body).drop 9 := by
    rw [← seal_drop h (at_ := at_), List.drop_drop]
  rw [e, headS, List.drop_append, List.drop_of_length_le (by rw [putB_length]; omega), putB_length]
  show (List.drop 1 (UInt8.ofNat body.length :: (body ++ List.replicate (103 - body.length) 0))).take body.length = body
  simp
theorem seal_ok (h0 : 0 ≤ gen) (h1 : gen < 18446744073709551616) : Sealed at_ (sealS at_ gen body) := by
  refine ⟨by rw [seal_len h]; exact h, ?_⟩
  rw [seal_gen h h0 h1, seal_body h]
end
theorem zero_gen : genU (By.zero 128) = 0 := by decide
/-! ### The ways of a sector that is packed -/
section
variable {P : Program} {w : World} {b : Nat} {T : TypeId} {fz : Nat × Nat}
end
end Go.Er


/-
  What Key tells is one; a row of one node; two trees' blocks behind one another.
-/
namespace Go.Er
open Go
section
variable {sl sr : Key → Key}
theorem valid_uniq {n : Int} : ∀ {xs : List Held} {e : Int}, okFrom e xs → ∀ x ∈ xs, ∀ y ∈ xs, InN x n → InN y n → x = y
  | [], _,_, x, hx, _,_,_,_ => nomatch hx
  | h :: t, e, hv, x, hx, y, hy, hxn, hyn => by
    have far : ∀ z ∈ t, InN h n → InN z n → False := by
      intro z hz h1 h2
      obtain ⟨i, hi, rfl⟩ := nd_mem hz
      have := (hv.2.2.get i hi).2
      unfold InN at h1 h2; omega
    rcases List.mem_cons.1 hx with rfl | hx'
    · rcases List.mem_cons.1 hy with rfl | hy'
      · rfl
      · exact absurd hyn (fun h2 => far y hy' hxn h2)
    · rcases List.mem_cons.1 hy with rfl | hy'
      · exact absurd hxn (fun h2 => far x hx' hyn h2)
      · exact valid_uniq hv.2.2 x hx' y hy' hxn hyn
theorem keyR_ok {xs : List Held} {n : Int} {k : Key} {ok : Bool} (h : KeyR sl sr xs n k ok) : ok = decide (∃ x ∈ xs, InN x n) := by
  rcases h with ⟨rfl, x, hx, hi, _⟩ | ⟨rfl, _, h⟩
  · exact (decide_eq_true ⟨x, hx, hi⟩).symm
  · exact (decide_eq_false h).symm
theorem keyR_uniq {xs : List Held} {n : Int} {k k' : Key} {ok ok' : Bool} (hv : Valid xs) (h : KeyR sl sr xs n k ok) (h' : KeyR sl sr xs n k' ok') : k' = k := by
  rcases h with ⟨_, x, hx, hi, hk⟩ | ⟨_, hk, hn⟩
  · rcases h' with ⟨_, y, hy, hj, hk'⟩ | ⟨_,_, hn⟩
    · rw [hk, hk', valid_uniq hv y hy x hx hj hi]
    · exact absurd ⟨x, hx, hi⟩ hn
  · rcases h' with ⟨_, y, hy, hj, _⟩ | ⟨_, hk', _⟩
    · exact absurd ⟨y, hy, hj⟩ hn
    · rw [hk, hk']
end
theorem RowN.one {E : TypeId} {b : Nat} {x : Held} : RowN 34 E (hsC [x]) [x].length (Option.some ⟨b, 0, none⟩) 1 [(b, .cells (hC x).toArray E (0, 0))] := by
  have h := RowN.mk (sz := 34) (E := E) (cap := 1) (n := 1) (b := b) (cs := hsC [x]) (sp := []) (by rw [hsC_length]; rfl) (Nat.le_refl _) (by rw [List.append_nil, hsC_length]; exact Nat.le_refl _)
  rw [List.append_nil] at h
  have e : hsC [x] = hC x := hsC_one1 x
  rw [e] at h ⊢
  exact h
section
variable {w0 w w' : World} {X : List Nat} {Na Nb N : List (Nat × Obj)} {p q : Nat × Obj}
end
theorem gone {sl sr : Key → Key} {seed : Key} {l : List Int} {n : Int} (hn : n ∈ l) : ¬ ∃ x ∈ tree0 sl sr seed l, InN x n := by
  rintro ⟨x, hx, hi⟩
  exact (canon_has (sl := sl) (sr := sr) (l := l) 17 (root seed) rfl n (canon_sub 17 (root seed) rfl x hx n hi)).1 ⟨x, hx, hi⟩ hn
theorem Valid.inR {xs : List Held} (h : Valid xs) : ∀ i, i < xs.length → InR (nd xs i) := by
  intro i hi
  obtain ⟨d0, d1, a0, a1, a2⟩ := h.get hi
  exact ⟨by omega, by omega, a0, by omega⟩
end Go.Er


/-
  Rows of whole numbers that are appended.
-/
namespace Go.Er
open Go
section
variable {P : Program} {w w0 : World} {X : List Nat} {L N : List (Nat × Obj)} {a : Option Addr}
theorem uC_one (ns : List Int) : ∀ v ∈ uC ns, v.oneCell' = true := by
  intro v hv
  obtain ⟨n, _, rfl⟩ := List.mem_map.1 hv
  rfl
theorem URow.src {ns : List Int} (h : URow w a ns) (c : Nat) : Src P w 1 (.slice a ns.length c) ns.length (uC ns) := by
  refine ⟨by simp [Builtin.lenOf], fun k => ?_, by rw [uC_length]; omega, uC_one ns⟩
  by_cases h0 : 0 < ns.length
  · obtain ⟨b, off, pre, post, T, fz, rfl, hb, hp⟩ := h h0
    simp only [Builtin.firstCells]
    refine run_loadRow (w := { w with drawn := k }) hb ?_ (by rw [uC_length]; omega)
    subst hp
    rw [List.append_assoc, List.drop_append, List.drop_of_length_le (Nat.le_refl _), List.nil_append, Nat.sub_self, List.drop_zero, List.take_append, List.take_of_length_le (by rw [uC_length]; omega)]
    have : ns.length * 1 - (uC ns).length = 0 := by rw [uC_length]; omega
    rw [this]; simp
  · have e : ns = [] := List.length_eq_zero_iff.1 (by omega)
    subst e
    cases a with
    | none => simp [Builtin.firstCells, uC]
    | some a =>
      simp only [Builtin.firstCells]
      refine run_loadCells_list (P := P) { w with drawn := k } a [] fun j v hj => ?_
      simp at hj
theorem URow.st {ns : List Int} (h : URow w0 a ns) (H : St w0 [] w L) : URow w a ns := by
  intro hx
  obtain ⟨b, off, pre, post, T, fz, e, hb, hp⟩ := h hx
  exact ⟨b, off, pre, post, T, fz, e, H.rd0 hb, hp⟩
theorem U64.cons {ns : List Int} {q : Int} (h0 : 0 ≤ q) (h1 : q < 18446744073709551616) (h : U64 ns) : U64 (q :: ns) := by
  intro n hn
  rcases List.mem_cons.1 hn with rfl | hn
  · exact ⟨h0, h1⟩
  · exact h n hn
end
end Go.Er


/-
  More operations: the greater, the less, rows that are made, empty maps by whole numbers, pairs of numbers that are compared.
-/
namespace Go.Er
open Go
open Go.ChangeMaps (setBlock)
section
variable {P : Program} {w0 w : World} {X : List Nat} {L : List (Nat × Obj)} {l : Fr} {d : Option Tmp} {ty : TypeId} {pos : String} {after : Array Edge} {g : Option (Nat × Bool)}
  {x y z : Operand} {T T2 T' E K : TypeId} {b off sz : Nat}
/-! ### A row that is made -/
/-! ### Empty maps -/
def mapZ : Obj := .map #[] 0
/-! ### Two numbers -/
end
end Go.Er


/-
  A range over a function whose body may leave it by a return.
-/
namespace Go.Er
open Go
section
variable {P : Program} {Q : Exit → Act → World → Prop} {w0 w : World} {X : List Nat} {L : List (Nat × Obj)} {l l' l1 l2 : List Value} {n : Nat} {ops : List Oper}
/-- the loop's record, with a jump that waits -/
def LJ (st : LoopState) (j : Option Code) (fn : FuncId) (l : List Value) (ps : List Tmp) (assign body : Code) (D : Nat) : Obj :=
  .loop { state := st, pending := j, fn, tmps := l.toArray, params := ps.toArray, assign, body, defers := D }

theorem c_rangeR {g : Operand} {ps : List Tmp} {assign body : Code} {gf : FuncId} {lb : List Value} (H : St w0 X w L) (hg : evj l g = some (.func (.func gf) #[] lb.toArray)) (he : Ent P gf)
    (h : ∀ fn w' b, St w0 X w' ((b + 1, LJ .ready none fn l ps assign body b) :: (b, .deferred (some [])) :: L) →
      Calls P gf (.func (.yield (b + 1)) #[] #[] :: lb).toArray w' fun e w'' => ∃ v, e = .returned v ∧
        ((∃ L', St w0 X w'' ((b + 1, LJ .ready none fn l ps assign body b) :: (b, .deferred (some [])) :: L') ∧
          (∀ w3, St w0 X w3 ((b + 1, LJ .exhausted none fn l ps assign body b) :: (b, .deferred (some [])) :: L') → Q .normal ⟨l.toArray, mark1 b⟩ w3)) ∨
         (∃ L', St w0 X w'' ((b + 1, LJ .done (some .ret) fn l ps assign body b) :: (b, .deferred (some [])) :: L') ∧
          (∀ w3, St w0 X w3 ((b + 1, LJ .exhausted (some .ret) fn l ps assign body b) :: (b, .deferred (some [])) :: L') → Q .ret ⟨l.toArray, mark1 b⟩ w3)))) :
    (Code.rangeFunc g ps.toArray assign body).wp P Q ⟨l.toArray, []⟩ w := by
  refine (wpIn_wide (n := 0)).1 (wpIn_rangeFunc ?_)
  intro fn _
  have hev : Act.eval ⟨l.toArray, []⟩ g = .func (.func gf) #[] lb.toArray := evj_of hg
  have H2 : St w0 X ((w.alloc (.deferred (some []))).alloc (LJ .ready none fn l ps assign body w.heap.size)) ((w.heap.size + 1, LJ .ready none fn l ps assign body w.heap.size) :: (w.heap.size, .deferred (some [])) :: L) := by
    have H1 := (H.alloc (.deferred (some []))).alloc (LJ .ready none fn l ps assign body w.heap.size)
    have hsz : (w.heap.push (Obj.deferred (some []))).size = w.heap.size + 1 := by simp
    simp only [hsz] at H1
    exact H1
  have hent : (Instr.enterLoop fn l.toArray ps.toArray assign body none).run P w = .ok (w.heap.size + 1, mark1 w.heap.size) ((w.alloc (.deferred (some []))).alloc (LJ .ready none fn l ps assign body w.heap.size)) := run_enterLoop_outer _ _ _ _ _
  generalize ((w.alloc (.deferred (some []))).alloc (LJ .ready none fn l ps assign body w.heap.size)) = W1 at H2 hent
  refine ⟨w.heap.size + 1, mark1 w.heap.size, W1, { target := .fn (.func gf) lb.toArray, args := #[.func (.yield (w.heap.size + 1)) #[] #[]] }, W1, gf,
    (.func (.yield (w.heap.size + 1)) #[] #[] :: lb).toArray, W1, hent, ?_, fun _ _ => trivial, ?_, fun h => by simp [Fence.wide] at h, ?_⟩
  · simp only [resolve, hev]
    simp [go_sem]
  · have e2 := he (#[.func (.yield (w.heap.size + 1)) #[] #[]] ++ lb.toArray) W1
    have e3 : (#[.func (.yield (w.heap.size + 1)) #[] #[]] ++ lb.toArray : Array Value) = (.func (.yield (w.heap.size + 1)) #[] #[] :: lb).toArray := by simp
    rw [e3] at e2
    simp [invoke, go_sem]
    simpa using e2
  · refine callsIn_wide.2 ?_
    refine (h fn _ w.heap.size H2).mono fun e w'' hp => ?_
    obtain ⟨v, rfl, ⟨L', HC, hq⟩ | ⟨L', HC, hq⟩⟩ := hp
    · have hl := HC.at 0 rfl
      refine ⟨none, _, run_endLoop hl (by simp), ?_⟩
      exact hq _ (HC.putObj 0 (LJ .exhausted none fn l ps assign body w.heap.size) rfl)
    · have hl := HC.at 0 rfl
      refine ⟨some .ret, _, run_endLoop hl (by simp), ?_⟩
      exact wpIn_ret (hq _ (HC.putObj 0 (LJ .exhausted (some .ret) fn l ps assign body w.heap.size) rfl))

theorem c_roundR {r : Nat} {fn : FuncId} {ps : List Tmp} {assign body : Code} {D : Nat} {args : List Value} {M M2 : List (Nat × Obj) → World → Prop} (K : Act → World → Prop) (H : St w0 X w ((r, LJ .ready none fn l ps assign body D) :: L)) (ha : args.length = ps.length)
    (hl1 : ((ps.zip args).foldl (fun t (p : Tmp × Value) => t.set p.1 p.2) l) = l1)
    (has : assign.wpIn (Fence.wide.inRound r) 0 P (Exit.then K (fun _ _ _ => False)) ⟨l1.toArray, []⟩ w)
    (hb : ∀ a w1, K a w1 → ∃ L1, St w0 X w1 ((r, LJ .ready none fn l ps assign body D) :: L1) ∧ ∀ w2, St w0 X w2 ((r, LJ .busy none fn l ps assign body D) :: L1) → body.wpIn (Fence.wide.inRound r) 0 P (fun e _ w2 =>
      (e = .normal ∧ ∃ L', St w0 X w2 ((r, LJ .busy none fn l ps assign body D) :: L') ∧ (∀ w3, St w0 X w3 ((r, LJ .ready none fn l ps assign body D) :: L') → M L' w3)) ∨
      (e = .ret ∧ ∃ L', St w0 X w2 ((r, LJ .busy none fn l ps assign body D) :: L') ∧ (∀ w3, St w0 X w3 ((r, LJ .done (some .ret) fn l ps assign body D) :: L') → M2 L' w3))) a w2) :
    ∃ fn' tmps assign' body', (Instr.yield r args.toArray).run P w = .ok (.round r fn' tmps assign' body') w ∧
      RoundIn Fence.wide 0 P r fn' tmps assign' body' w fun e w' => (e = .returned (.bool true) ∧ ∃ L', St w0 X w' ((r, LJ .ready none fn l ps assign body D) :: L') ∧ M L' w') ∨
        (e = .returned (.bool false) ∧ ∃ L', St w0 X w' ((r, LJ .done (some .ret) fn l ps assign body D) :: L') ∧ M2 L' w') := by
  have hr := H.at 0 rfl
  have hf : ((ps.toArray.zip args.toArray).foldl (fun tmps (t, a) => tmps.setIfInBounds t a) l.toArray) = l1.toArray := by
    subst hl1
    have : ∀ (zs : List (Tmp × Value)) (l : List Value), zs.toArray.foldl (fun tmps (p : Tmp × Value) => tmps.setIfInBounds p.1 p.2) l.toArray = (zs.foldl (fun t (p : Tmp × Value) => t.set p.1 p.2) l).toArray := by
      intro zs
      induction zs with
      | nil => intro l; rfl
      | cons z zs ih => intro l; have := ih (l.set z.1 z.2); simpa using this
    have h2 := this (ps.zip args) l
    rw [← h2]
    simp
  refine ⟨fn, _, assign, body, run_yield hr (by simp [ha]), roundIn_of_wpIn trivial ?_⟩
  simp only [hf]
  refine wpIn_mono has ?_
  intro e a w1 hk
  cases e with
  | normal =>
    have hk : K a w1 := hk
    obtain ⟨L1, H1, hbody⟩ := hb a w1 hk
    have hr1 := H1.at 0 rfl
    refine ⟨_, run_beginRound hr1 rfl, ?_⟩
    refine wpIn_mono (hbody _ (H1.putObj 0 (LJ .busy none fn l ps assign body D) rfl)) ?_
    rintro e a w2 (⟨rfl, L', H2, hM⟩ | ⟨rfl, L', H2, hM⟩)
    · have hr2 := H2.at 0 rfl
      have H3 := H2.putObj 0 (LJ .ready none fn l ps assign body D) rfl
      exact ⟨_,_, run_endRound none hr2, .inl ⟨rfl, L', H3, hM _ H3⟩⟩
    · have hr2 := H2.at 0 rfl
      have H3 := H2.putObj 0 (LJ .done (some .ret) fn l ps assign body D) rfl
      exact ⟨_,_, run_endRound (some .ret) hr2, .inr ⟨rfl, L', H3, hM _ H3⟩⟩
  | _ => exact hk
theorem c_roundA {r : Nat} {fn : FuncId} {ps : List Tmp} {assign body : Code} {D : Nat} {args : List Value} {M M2 : List (Nat × Obj) → World → Prop} (dst : Nat) (o : Obj) (H : St w0 X w ((r, LJ .ready none fn l ps assign body D) :: L)) (ha : args.length = ps.length)
    (hl1 : ((ps.zip args).foldl (fun t (p : Tmp × Value) => t.set p.1 p.2) l) = l1)
    (has : assign.wpIn (Fence.wide.inRound r) 0 P (Exit.then (fun a w1 => ∃ b, a = ⟨(l1.set dst (.pointer (some ⟨b, 0, none⟩))).toArray, []⟩ ∧ St w0 X w1 ((b, o) :: (r, LJ .ready none fn l ps assign body D) :: L)) (fun _ _ _ => False)) ⟨l1.toArray, []⟩ w)
    (hb : ∀ b l2 w2, l1.set dst (.pointer (some ⟨b, 0, none⟩)) = l2 → St w0 X w2 ((b, o) :: (r, LJ .busy none fn l ps assign body D) :: L) → body.wpIn (Fence.wide.inRound r) 0 P (fun e _ w2 =>
      (e = .normal ∧ ∃ L', St w0 X w2 ((r, LJ .busy none fn l ps assign body D) :: L') ∧ (∀ w3, St w0 X w3 ((r, LJ .ready none fn l ps assign body D) :: L') → M L' w3)) ∨
      (e = .ret ∧ ∃ L', St w0 X w2 ((r, LJ .busy none fn l ps assign body D) :: L') ∧ (∀ w3, St w0 X w3 ((r, LJ .done (some .ret) fn l ps assign body D) :: L') → M2 L' w3))) ⟨l2.toArray, []⟩ w2) :
    ∃ fn' tmps assign' body', (Instr.yield r args.toArray).run P w = .ok (.round r fn' tmps assign' body') w ∧
      RoundIn Fence.wide 0 P r fn' tmps assign' body' w fun e w' => (e = .returned (.bool true) ∧ ∃ L', St w0 X w' ((r, LJ .ready none fn l ps assign body D) :: L') ∧ M L' w') ∨
        (e = .returned (.bool false) ∧ ∃ L', St w0 X w' ((r, LJ .done (some .ret) fn l ps assign body D) :: L') ∧ M2 L' w') := by
  refine c_roundR _ H ha hl1 has ?_
  rintro a w1 ⟨b, rfl, H1⟩
  refine ⟨_, H1.perm (.swap _ _ _), fun w2 H2 => hb b _ w2 rfl (H2.perm (.swap _ _ _))⟩
theorem in_if {F : Fence} {m : Nat} {c : Operand} {x y : Code} {p : Prop} [Decidable p] (hc : evj l c = some (.bool (decide p))) (ht : p → x.wpIn F m P Q ⟨l.toArray, []⟩ w) (hf : ¬ p → y.wpIn F m P Q ⟨l.toArray, []⟩ w) : (Code.cond c x y).wpIn F m P Q ⟨l.toArray, []⟩ w := by
  have e : Act.eval ⟨l.toArray, []⟩ c = .bool (decide p) := evj_of hc
  exact wpIn_cond_split (t := decide p) e (fun h => ht (of_decide_eq_true h)) (fun h => hf (of_decide_eq_false h))
theorem r_yieldL2 {d : Option Tmp} {ty : TypeId} {pos : String} {after : Array Edge} {g : Option (Nat × Bool)} {x y z : Operand} {v u : Value} {at_ : Array TypeId} {r : Nat} {R : Result Next}
    (hx : evj l x = some (.func (.yield r) #[] #[])) (hy : evj l y = some v) (hz : evj l z = some u) (hr : (Instr.yield r #[v, u]).run P w = R) : (execOp (Act.eval ⟨l.toArray, []⟩) ⟨d, .call ⟨.value x, #[y, z], at_⟩, ty, pos, after, g⟩).run P w = R := by
  subst hr
  simp [execOp, resolve, evj_of hx, evj_of hy, evj_of hz, Deferred.ofValue, invoke]
end
end Go.Er


/-
  Devices: what stands on them, what waits; their blocks.
-/
namespace Go.Er
open Go
def wC (p : Int × Sec) : List Value := .int .i64 p.1 :: kC p.2
def zS : Sec := By.zero 128
def sd (ss : List Sec) (k : Nat) : Sec := ss.getD k zS
theorem sd_set {ss : List Sec} {k j : Nat} {s : Sec} (hk : k < ss.length) : sd (ss.set k s) j = if k = j then s else sd ss j := by
  unfold sd
  rw [List.getD_eq_getElem?_getD, List.getD_eq_getElem?_getD, List.getElem?_set]
  split
  · rfl
  · rfl
/-- what stands on a device when all that waits is done -/
def apW (ss : List Sec) (ws : List (Int × Sec)) : List Sec := ws.foldl (fun ss p => ss.set p.1.toNat p.2) ss
/-- waits are within -/
def InW (m : Nat) (ws : List (Int × Sec)) : Prop := ∀ p ∈ ws, 0 ≤ p.1 ∧ p.1 < (m : Int)
/-! ### Blocks -/
def dC (bp bs m : Nat) (aw : Option Addr) (k capw : Nat) : List Value := [.pointer (some ⟨bp, 0, none⟩), .slice (some ⟨bs, 0, none⟩) m m, .slice aw k capw, .int .i64 0, .int .i64 0, .bool false, .bool false]
def pC (left : Int) (ac : Option Addr) (nc cc : Nat) : List Value := [.bool false, .int .i64 left, .bool false, .slice ac nc cc]
/-- power that is on, and doesn't fail -/
def PowR (w : World) (bp : Nat) : Prop := ∃ left ac nc cc T fz, w.heap[bp]? = some (.cells (pC left ac nc cc).toArray T fz)
theorem PowR.st {w0 w : World} {L : List (Nat × Obj)} {bp : Nat} (h : PowR w0 bp) (H : St w0 [] w L) : PowR w bp := by
  obtain ⟨a, b, c, d, T, fz, hb⟩ := h
  exact ⟨a, b, c, d, T, fz, H.rd0 hb⟩
/-- a device as it is read -/
def DevR (w : World) (bd : Nat) (C : List Sec) : Prop := ∃ bp bs aw capw ss ws T fz T2 fz2, w.heap[bd]? = some (.cells (dC bp bs ss.length aw ws.length capw).toArray T fz) ∧ w.heap[bs]? = some (.cells (rowC kC ss).toArray T2 fz2) ∧ RRow wC w aw ws ∧ PowR w bp ∧
  apW ss ws = C ∧ InW ss.length ws ∧ ws.length ≤ 1000000
theorem DevR.st {w0 w : World} {L : List (Nat × Obj)} {bd : Nat} {C : List Sec} (h : DevR w0 bd C) (H : St w0 [] w L) : DevR w bd C := by
  obtain ⟨bp, bs, aw, capw, ss, ws, T, fz, T2, fz2, h1, h2, h3, h4, h5, h6, h7⟩ := h
  exact ⟨bp, bs, aw, capw, ss, ws, T, fz, T2, fz2, H.rd0 h1, H.rd0 h2, h3.st H, h4.st H, h5, h6, h7⟩
/-- a device as blocks of one's own -/
def DevN (E : TypeId) (bd bp : Nat) (C : List Sec) (q : Nat) (N : List (Nat × Obj)) : Prop := ∃ bs aw capw ss ws T T2 Nw, N = (bd, .cells (dC bp bs ss.length aw ws.length capw).toArray T (0, 0)) :: (bs, .cells (rowC kC ss).toArray T2 (0, 0)) :: Nw ∧ RowN 129 E (rowC wC ws) ws.length aw capw Nw ∧
  apW ss ws = C ∧ InW ss.length ws ∧ ws.length ≤ q
theorem DevN.rd {w : World} {E : TypeId} {bd bp q : Nat} {C : List Sec} {N : List (Nat × Obj)} (h : DevN E bd bp C q N) (hq : q ≤ 1000000) (hp : PowR w bp) (H : Own w N) : DevR w bd C := by
  obtain ⟨bs, aw, capw, ss, ws, T, T2, Nw, rfl, hw, hC, hin, hl⟩ := h
  refine ⟨bp, bs, aw, capw, ss, ws, T, (0, 0), T2, (0, 0), H.own (bd, _) List.mem_cons_self, H.own (bs, _) (List.mem_cons_of_mem _ List.mem_cons_self), ?_, hp, hC, hin, by omega⟩
  refine RowN.rrowM hw (fun h => h) (St.refl w |> fun _ => H.st) (fun p hp => List.mem_cons_of_mem _ (List.mem_cons_of_mem _ hp))
theorem InW.snoc {m : Nat} {ws : List (Int × Sec)} (h : InW m ws) {n : Int} {s : Sec} (h0 : 0 ≤ n) (h1 : n < (m : Int)) : InW m (ws ++ [(n, s)]) := by
  intro p hp
  rcases List.mem_append.1 hp with hp | hp
  · exact h p hp
  · rw [List.mem_singleton] at hp; subst hp; exact ⟨h0, h1⟩
theorem InW.nil {m : Nat} : InW m [] := fun _ h => nomatch h
section
variable {P : Program} {w0 : World} {X : List Nat} {A : Prop} {x y : Nat × Obj} {Lr : List (Nat × Obj)} {F : List (Nat × Obj) → Prop} {r : Nat} {args : Array Value} {w : World}
end
end Go.Er


/-
  Mirrors: two devices of one content, no place stale.
-/
namespace Go.Er
open Go
def bI (x y : Nat) (i : Nat) : Nat := if i = 0 then x else y
def mC (ba ma bb mb n : Nat) (g : Value) : List Value := [.pointer (some ⟨ba, 0, none⟩), .map (some ma), .pointer (some ⟨bb, 0, none⟩), .map (some mb), .int .i64 (n : Nat), g]
/-- what tells whether a sector may stand at a place -/
def GoodR (fG : FuncId) (TC TL : TypeId) (w : World) (g : Value) : Prop := ∃ bg cs, g = .func (.func fG) #[] #[.pointer (some ⟨bg, 0, none⟩)] ∧ w.heap[bg]? = some (.cells [.iface TL (.agg (cs : List Value).toArray)].toArray TC (0, 0))
theorem GoodR.st {fG : FuncId} {TC TL : TypeId} {w0 w : World} {L : List (Nat × Obj)} {g : Value} (h : GoodR fG TC TL w0 g) (H : St w0 [] w L) : GoodR fG TC TL w g := by
  obtain ⟨a, b, e, hb⟩ := h
  exact ⟨a, b, e, H.rd0 hb⟩
/-- a mirror as it is read -/
def MirR (fG : FuncId) (TC TL : TypeId) (w : World) (bm : Nat) (C : List Sec) : Prop := ∃ ba ma bb mb g T fz, w.heap[bm]? = some (.cells (mC ba ma bb mb C.length g).toArray T fz) ∧ (∀ i, DevR w (bI ba bb i) C) ∧ (∀ i, w.heap[bI ma mb i]? = some mapZ) ∧ GoodR fG TC TL w g ∧ C.length ≤ 4096
theorem MirR.st {fG : FuncId} {TC TL : TypeId} {w0 w : World} {L : List (Nat × Obj)} {bm : Nat} {C : List Sec} (h : MirR fG TC TL w0 bm C) (H : St w0 [] w L) : MirR fG TC TL w bm C := by
  obtain ⟨ba, ma, bb, mb, g, T, fz, h1, h2, h3, h4, h5⟩ := h
  exact ⟨ba, ma, bb, mb, g, T, fz, H.rd0 h1, fun i => (h2 i).st H, fun i => H.rd0 (h3 i), h4.st H, h5⟩
section
variable {P : Program} {w : World} {l : Fr} {x y : Operand} {T T' : TypeId} {d : Option Nat} {ty : TypeId} {pos : String} {after : Array Edge} {g : Option (Nat × Bool)}
theorem r_minE {args : List Operand} {k k' : IntKind} {p q r : Int} {at_ : Array TypeId} (ha : Evs l args [.int k p, .int k' q]) (hr : (if q < p then q else p) = r) :
    (execOp (evl l) ⟨d, .call ⟨.builtin .min, args.toArray, at_⟩, ty, pos, after, g⟩).run P w = .ok (.value (.int k r)) w := by
  subst hr
  simp [execOp, resolve, invoke, builtin, Builtin.min_, Builtin.min2, ha.map]
end
theorem DevN.mono {E : TypeId} {bd bp q q' : Nat} {C : List Sec} {N : List (Nat × Obj)} (h : DevN E bd bp C q N) (hq : q ≤ q') : DevN E bd bp C q' N := by
  obtain ⟨bs, aw, capw, ss, ws, T, T2, Nw, rfl, hw, hC, hin, hl⟩ := h
  exact ⟨bs, aw, capw, ss, ws, T, T2, Nw, rfl, hw, hC, hin, by omega⟩
/-- a mirror as blocks of one's own -/
def MirN (E : TypeId) (fG : FuncId) (TC TL : TypeId) (ba bb : Nat) (bm : Nat) (C : List Sec) (q : Nat) (N : List (Nat × Obj)) : Prop := ∃ ma mb bg cs bp lf ac nc cc T Tp Na Nb,
  N = (bm, .cells (mC ba ma bb mb C.length (.func (.func fG) #[] #[.pointer (some ⟨bg, 0, none⟩)])).toArray T (0, 0)) :: (ma, mapZ) :: (mb, mapZ) :: (bg, .cells [.iface TL (.agg (cs : List Value).toArray)].toArray TC (0, 0)) :: (bp, .cells (pC lf ac nc cc).toArray Tp (0, 0)) :: (Na ++ Nb) ∧
  DevN E ba bp C q Na ∧ DevN E bb bp C q Nb ∧ C.length ≤ 4096
section
variable {w0 w w' : World} {X : List Nat} {A Na Nb N2 : List (Nat × Obj)} {p p' : Nat × Obj}
end
end Go.Er


/-
  Logs: what a log knows, its blocks.
-/
namespace Go.Er
open Go
structure LS where
  C : List Sec
  gens : List Int
  head : Int
  slot : Int
  known : Int
  g : Int
  z : Int
def lgC (bm : Nat) (ci : Value) (g z : Int) (bu n : Nat) (h s k : Int) : List Value := [.pointer (some ⟨bm, 0, none⟩), ci, .int .i64 g, .int .i64 z, .slice (some ⟨bu, 0, none⟩) n n, .int .i64 h, .int .i64 s, .int .u64 k]
structure LogF (x : LS) : Prop where
  g0 : 3 ≤ x.g
  g1 : x.g ≤ 64
  z0 : 1 ≤ x.z
  z1 : x.z ≤ 32
  gl : (x.gens.length : Int) = x.g
  cl : 2 + x.g * x.z ≤ (x.C.length : Int)
  u : U64 x.gens
  h : -1 ≤ x.head ∧ x.head < x.g
  s : 0 ≤ x.slot ∧ x.slot ≤ x.z
  k : 0 ≤ x.known ∧ x.known < 1000000000
  kg : ∀ n ∈ x.gens, n ≤ x.known
/-- a log as it is read -/
def LogR (fG : FuncId) (TC TL : TypeId) (w : World) (bl : Nat) (x : LS) : Prop := ∃ bm cs bu T fz T2 fz2, w.heap[bl]? = some (.cells (lgC bm (.iface TL (.agg (cs : List Value).toArray)) x.g x.z bu x.gens.length x.head x.slot x.known).toArray T fz) ∧ w.heap[bu]? = some (.cells (uC x.gens).toArray T2 fz2) ∧ MirR fG TC TL w bm x.C ∧ LogF x
theorem LogR.st {fG : FuncId} {TC TL : TypeId} {w0 w : World} {L : List (Nat × Obj)} {bl : Nat} {x : LS} (h : LogR fG TC TL w0 bl x) (H : St w0 [] w L) : LogR fG TC TL w bl x := by
  obtain ⟨bm, cs, bu, T, fz, T2, fz2, h1, h2, h3, h4⟩ := h
  exact ⟨bm, cs, bu, T, fz, T2, fz2, H.rd0 h1, H.rd0 h2, h3.st H, h4⟩
/-- a log as blocks of one's own -/
def LogN (E : TypeId) (fG : FuncId) (TC TL : TypeId) (ba bb : Nat) (bl : Nat) (x : LS) (q : Nat) (N : List (Nat × Obj)) : Prop := ∃ bm cs bu T T2 Nm, N = (bl, .cells (lgC bm (.iface TL (.agg (cs : List Value).toArray)) x.g x.z bu x.gens.length x.head x.slot x.known).toArray T (0, 0)) :: (bu, .cells (uC x.gens).toArray T2 (0, 0)) :: Nm ∧ MirN E fG TC TL ba bb bm x.C q Nm ∧ LogF x
/-- how many slots the first segments leave -/
def rmL (ns : List Int) (z n0 : Int) : Nat → Int
  | 0 => n0
  | i + 1 => if ns.getD i 0 = 0 then rmL ns z n0 i + z else rmL ns z n0 i
theorem U64.set {ns : List Int} (h : U64 ns) {i : Nat} {y : Int} (h0 : 0 ≤ y) (h1 : y < 18446744073709551616) : U64 (ns.set i y) := by
  intro n hn
  rcases List.mem_or_eq_of_mem_set hn with h2 | rfl
  · exact h n h2
  · exact ⟨h0, h1⟩
theorem LogF.free {x : LS} (h : LogF x) (i : Nat) : LogF { x with gens := x.gens.set i 0 } := by
  refine ⟨h.g0, h.g1, h.z0, h.z1, by show ((x.gens.set i 0).length : Int) = _; rw [List.length_set]; exact h.gl, h.cl, h.u.set (by omega) (by omega), h.h, h.s, h.k, ?_⟩
  intro n hn
  rcases List.mem_or_eq_of_mem_set hn with h2 | rfl
  · exact h.kg n h2
  · exact h.k.1
/-- a body is put into a slot -/
def putL (x : LS) (s t gn : Int) (body : List UInt8) : LS :=
  { x with C := x.C.set (2 + s * x.z + t).toNat (sealS (2 + s * x.z + t) gn body), gens := x.gens.set s.toNat gn, head := s, slot := t + 1, known := if gn > x.known then gn else x.known }
theorem LogF.put {x : LS} (h : LogF x) {s t gn : Int} {body : List UInt8} (hs0 : 0 ≤ s) (hs1 : s < x.g) (ht0 : 0 ≤ t) (ht1 : t < x.z) (hg0 : 0 ≤ gn) (hg1 : gn ≤ x.known + 1) (hk : x.known + 1 < 1000000000) : LogF (putL x s t gn body) := by
  have hk0 := h.k.1
  refine ⟨h.g0, h.g1, h.z0, h.z1, by show ((x.gens.set s.toNat gn).length : Int) = _; rw [List.length_set]; exact h.gl, by show 2 + x.g * x.z ≤ ((x.C.set _ _).length : Int); rw [List.length_set]; exact h.cl, h.u.set hg0 (by omega), ⟨by show -1 ≤ s; omega, hs1⟩, ⟨by show 0 ≤ t + 1; omega, by show t + 1 ≤ x.z; omega⟩, ?_, ?_⟩
  · show 0 ≤ (if gn > x.known then gn else x.known) ∧ (if gn > x.known then gn else x.known) < 1000000000
    split <;> omega
  · intro n hn
    show n ≤ (if gn > x.known then gn else x.known)
    rcases List.mem_or_eq_of_mem_set hn with h2 | rfl
    · have := h.kg n h2
      split <;> omega
    · split <;> omega
def room (x : LS) : Int := rmL x.gens x.z (if 0 ≤ x.head then x.z - x.slot else 0) x.gens.length
end Go.Er


/-
  Bytes of nodes that are cut short, or have more.
-/
namespace Go.Er
open Go
section
variable {P : Program} {w : World} {a : Option Addr}
theorem BRow.src {bs : List UInt8} (h : BRow w a bs) (c : Nat) : Src P w 1 (.slice a bs.length c) bs.length (bC bs) := by
  refine ⟨by simp [Builtin.lenOf], fun k => ?_, by rw [bC_length]; omega, bC_one bs⟩
  by_cases h0 : 0 < bs.length
  · obtain ⟨b, off, pre, post, T, fz, rfl, hb, hp⟩ := h h0
    simp only [Builtin.firstCells]
    refine run_loadRow (w := { w with drawn := k }) hb ?_ (by rw [bC_length]; omega)
    subst hp
    rw [List.append_assoc, List.drop_append, List.drop_of_length_le (Nat.le_refl _), List.nil_append, Nat.sub_self, List.drop_zero, List.take_append, List.take_of_length_le (by rw [bC_length]; omega)]
    have : bs.length * 1 - (bC bs).length = 0 := by rw [bC_length]; omega
    rw [this]; simp
  · have e : bs = [] := List.length_eq_zero_iff.1 (by omega)
    subst e
    cases a with
    | none => simp [Builtin.firstCells, bC]
    | some a =>
      simp only [Builtin.firstCells]
      refine run_loadCells_list (P := P) { w with drawn := k } a [] fun j v hj => ?_
      simp at hj
end
end Go.Er


/-
  The document's log; what is done to a log; a rig.
-/
namespace Go.Er
open Go
/-! ### The document's log -/
theorem RowN.urowM {w0 w : World} {X : List Nat} {L : List (Nat × Obj)} {E : TypeId} {ns : List Int} {n : Nat} {a : Option Addr} {cap : Nat} {N : List (Nat × Obj)} (h : RowN 1 E (uC ns) n a cap N) (H : St w0 X w L) (hs : ∀ p ∈ N, p ∈ L) : URow w a ns := by
  intro hx
  obtain ⟨hl, _, ⟨rfl, _⟩ | ⟨b, sp, rfl, _, rfl⟩⟩ := h
  · rw [uC_length] at hl; omega
  · exact ⟨b, 0, [], sp, E, (0, 0), rfl, H.own (b, _) (hs _ (List.mem_singleton.2 rfl)), rfl⟩
/-! ### What is appended -/
/-! ### Bytes referred to -/
structure Bd where
  a : Option Addr
  b : List UInt8
  c : Nat
def bdV (y : Bd) : Value := .slice y.a y.b.length y.c
def bdZ : Bd := ⟨none, [], 0⟩
theorem getD_set {α : Type} (xs : List α) (i j : Nat) (x d : α) (hi : i < xs.length) : (xs.set i x).getD j d = if i = j then x else xs.getD j d := by
  rw [List.getD_eq_getElem?_getD, List.getD_eq_getElem?_getD, List.getElem?_set]
  by_cases h : i = j
  · subst h; rw [if_pos rfl, if_pos hi, if_pos rfl]; rfl
  · rw [if_neg h, if_neg h]
structure DoL where
  kind : Int
  n : Int
  body : Bd
def doZ : DoL := ⟨0, 0, bdZ⟩
def dl (ys : List DoL) (i : Nat) : DoL := ys.getD i doZ
/-! ### A rig -/
/-! ### What was appended at the places -/
def PL (C : List Sec) (k : Int) (gs : List Int) (bs : List Bd) (at_ : Nat) : Prop :=
  (sd C at_ = zS ∧ gs.getD at_ 0 = 0) ∨ (0 ≤ gs.getD at_ 0 ∧ gs.getD at_ 0 ≤ k ∧ (bs.getD at_ bdZ).b.length ≤ 103 ∧ sd C at_ = sealS (at_ : Nat) (gs.getD at_ 0) (bs.getD at_ bdZ).b)
theorem PL.new {C : List Sec} {k : Int} {gs : List Int} {bs : List Bd} {at_ : Nat} (h : sd C at_ = zS) (h2 : gs.getD at_ 0 = 0) : PL C k gs bs at_ := .inl ⟨h, h2⟩
theorem PL.mono {C : List Sec} {k k' : Int} {gs : List Int} {bs : List Bd} {at_ : Nat} (h : PL C k gs bs at_) (hk : k ≤ k') : PL C k' gs bs at_ := by
  rcases h with h | ⟨a, b, c⟩
  · exact .inl h
  · exact .inr ⟨a, by omega, c⟩
theorem PL.put {C : List Sec} {k k' : Int} {gs : List Int} {bs : List Bd} {at_ n : Nat} {gn : Int} {y : Bd} (h : PL C k gs bs at_) (hk : k ≤ k') (hn : n < C.length) (hg : n < gs.length) (hb : n < bs.length) (h0 : 0 ≤ gn) (h1 : gn ≤ k') (hy : y.b.length ≤ 103) :
    PL (C.set n (sealS (n : Nat) gn y.b)) k' (gs.set n gn) (bs.set n y) at_ := by
  unfold PL
  rw [sd_set hn, getD_set _ _ _ _ _ hg, getD_set _ _ _ _ _ hb]
  by_cases e : n = at_
  · subst e
    rw [if_pos rfl, if_pos rfl, if_pos rfl]
    exact .inr ⟨h0, h1, hy, rfl⟩
  · rw [if_neg e, if_neg e, if_neg e]
    exact h.mono hk
/-- what a reading finds is what was appended, just if the generations are one -/
theorem PL.read {C : List Sec} {k : Int} {gs : List Int} {bs : List Bd} {at_ : Nat} {gn : Int} (h : PL C k gs bs at_) (hk : k < 1000000000) (hg : gn ≠ 0) :
    (gs.getD at_ 0 = gn → Sealed (at_ : Nat) (sd C at_) ∧ genU (sd C at_) = gn ∧ bodyU (sd C at_) = (bs.getD at_ bdZ).b) ∧ (gs.getD at_ 0 ≠ gn → ¬ (Sealed (at_ : Nat) (sd C at_) ∧ genU (sd C at_) = gn)) := by
  rcases h with ⟨h1, h2⟩ | ⟨h0, h1, h2, h3⟩
  · refine ⟨fun h => absurd (h.symm.trans h2) hg, fun _ h => hg ?_⟩
    rw [← h.2, h1]; exact zero_gen
  · have e := seal_gen (at_ := (at_ : Nat)) h2 (gen := gs.getD at_ 0) h0 (by omega)
    refine ⟨fun h => ⟨?_, ?_, ?_⟩, fun h hs => h ?_⟩
    · rw [h3]; exact seal_ok h2 h0 (by omega)
    · rw [h3, e]; exact h
    · rw [h3]; exact seal_body h2
    · rw [← e, ← h3]; exact hs.2
/-! ### Small words -/
section
variable {P : Program} {w0 w : World} {X : List Nat} {L : List (Nat × Obj)} {l : Fr} {d : Option Tmp} {ty : TypeId} {pos : String} {after : Array Edge} {g : Option (Nat × Bool)} {x y : Operand} {T T' E : TypeId} {b : Nat} {a : Option Addr}
theorem r_textB {c : Nat} {bs : List UInt8} (hu : Und P T (.slice E)) (hu' : Und P T' .string) (he : Und P E (.int .u8)) (hx : evl l x = .slice a bs.length c) (hr : BRow w a bs) : (execOp (evl l) ⟨d, .convert T T' x, ty, pos, after, g⟩).run P w = .ok (.value (.string (bytesS bs))) w := by
  rcases Nat.eq_zero_or_pos bs.length with hz | hp
  · have : bs = [] := List.length_eq_zero_iff.1 hz
    subst this
    cases a with
    | none => exact r_text0 hu hu' he hx
    | some a =>
      have h2 := run_bytesToString (P := P) w a 0 c [] rfl
      rw [List.foldl_nil] at h2
      have hx' : evl l x = .slice (some a) 0 c := hx
      have e2 : ByteArray.empty = bytesS [] := rfl
      rw [e2] at h2
      simp [execOp, convert, hx', hu w, hu' w, he w, h2]
  · exact r_textR hu hu' he hx hp hr
end
/-! ### A region whose kept state has what is not known -/
theorem St.one {w0 w : World} {X : List Nat} {L : List (Nat × Obj)} (H : St w0 X w L) (k : Nat) {b : Nat} {o : Obj} (hk : L[k]? = some (b, o)) : St w0 X w [(b, o)] :=
  H.sub (List.singleton_sublist.2 (List.mem_of_getElem? hk))
theorem d_beginS {P : Program} {Q : Exit → Act → World → Prop} {w0 w : World} {X : List Nat} {L : List (Nat × Obj)} {l : List Value} {ops : List Oper} {n : Nat} (S : World → Prop) {id sz : Nat} (hz : l.length = sz ∧ Nat.ble sz 1000 = true) (hm : P.follows .mixedOrders = true) (H : St w0 X w L) (_ : S w) (hn : ops.length = n)
    (h : ∀ w, St w0 X w L → RG P ops Q S n (List.replicate n false) ⟨[], l, sz, hz⟩ w) : (Code.region id ops.toArray true).wp P Q ⟨l.toArray, []⟩ w := by
  refine wp_region_held (S := S) hm ?_
  have h' := h { w with drawn := w.drawn + 1 } (H.drew (Nat.le_succ _))
  subst hn
  unfold RG at h'
  rw [Fr.all_nil] at h'
  simpa using h'
/-! ### The example -/
section
variable {w0 w : World} {X : List Nat} {x y a b c d e f p : Nat × Obj} {A B C T : List (Nat × Obj)}
end
end Go.Er


/-
  Sets of whole numbers, kept as maps to truth values: made, written, asked, counted, ranged over.
-/
namespace Go.Er
open Go
open Go.ChangeMaps (setBlock)

def mE (l : List Int) : List MapEntry := l.zipIdx.map fun p => { key := .int .u64 p.1, val := .bool true, born := p.2 }
def mapO (l : List Int) : Obj := .map (mE l).toArray l.length
/-- a number put into a set -/
def ins (l : List Int) (n : Int) : List Int := if n ∈ l then l else l ++ [n]
theorem mem_ins {l : List Int} {n m : Int} : m ∈ ins l n ↔ m ∈ l ∨ m = n := by
  unfold ins
  split
  · rename_i h
    exact ⟨Or.inl, fun h' => h'.elim id (fun e => e ▸ h)⟩
  · rw [List.mem_append, List.mem_singleton]
theorem mE_snoc (l : List Int) (n : Int) : mE (l ++ [n]) = mE l ++ [{ key := .int .u64 n, val := .bool true, born := l.length }] := by
  simp [mE, List.zipIdx_append]
def eOf (p : Int × Nat) : MapEntry := { key := .int .u64 p.1, val := .bool true, born := p.2 }
theorem find_none {n : Int} : ∀ {l : List Int} (k j : Nat), n ∉ l → Instr.findNow (.int .u64) (.int .u64 n) ((l.zipIdx k).map eOf) j = some none
  | [], _,_,_ => rfl
  | x :: l, k, j, h => by
    have hx : n ≠ x := fun e => h (e ▸ List.mem_cons_self)
    have hb : (n == x) = false := by rw [beq_eq_false_iff_ne]; exact hx
    rw [List.zipIdx_cons, List.map_cons]
    simp only [Instr.findNow, eOf, Instr.sameNow, if_true, hb]
    exact find_none (k + 1) (j + 1) (fun hm => h (List.mem_cons_of_mem _ hm))
theorem find_some {n : Int} : ∀ {l : List Int} (k j : Nat), n ∈ l → ∃ i, l[i]? = some n ∧ Instr.findNow (.int .u64) (.int .u64 n) ((l.zipIdx k).map eOf) j = some (some (j + i, .bool true))
  | x :: l, k, j, h => by
    rw [List.zipIdx_cons, List.map_cons]
    by_cases hx : n = x
    · subst hx
      refine ⟨0, rfl, ?_⟩
      simp only [Instr.findNow, eOf, Instr.sameNow, if_true, BEq.rfl, Nat.add_zero]
    · have hb : (n == x) = false := by rw [beq_eq_false_iff_ne]; exact hx
      obtain ⟨i, hi, hf⟩ := find_some (l := l) (k + 1) (j + 1) ((List.mem_cons.1 h).resolve_left hx)
      refine ⟨i + 1, hi, ?_⟩
      simp only [Instr.findNow, eOf, Instr.sameNow, if_true, hb]
      have e : j + (i + 1) = j + 1 + i := by omega
      rw [e]; exact hf

section
variable {P : Program} {w0 w : World} {X : List Nat} {L : List (Nat × Obj)} {l : Fr} {d : Option Tmp} {ty : TypeId} {pos : String} {after : Array Edge} {g : Option (Nat × Bool)}
  {x y z : Operand} {T K E : TypeId} {b r : Nat} {ls : List Int} {n : Int}
theorem run_check (hk : Und P K (.int .u64)) (e : Bool) (w : World) : (Instr.checkKey e 10000 K (.int .u64 n)).run P w = .ok () w := by
  have h : ∀ m : Nat, (Instr.checkKey e (m + 1) K (.int .u64 n)).run P w = .ok () w := fun m => by simp [Instr.checkKey, hk w]
  exact h 9999
theorem run_get (hb : w.heap[b]? = some (mapO ls)) : (getObj b).run P w = .ok (.map (mE ls).toArray ls.length) w := by
  have hb' : w.heap[b]? = some (.map (mE ls).toArray ls.length) := hb
  simp [getObj, Sem.run, hb']
theorem run_findK (hk : Und P K (.int .u64)) (w : World) : (Instr.findKey K (.int .u64 n) (mE ls)).run P w = .ok (if n ∈ ls then ((Instr.findNow (.int .u64) (.int .u64 n) (mE ls) 0).getD none) else none) w := by
  by_cases h : n ∈ ls
  · obtain ⟨i, _, hf⟩ := find_some (n := n) (l := ls) 0 0 h
    have hf' : Instr.findNow (.int .u64) (.int .u64 n) (mE ls) 0 = some (some (0 + i, .bool true)) := hf
    simp [Instr.findKey, hk w, hf', h]
  · have hf : Instr.findNow (.int .u64) (.int .u64 n) (mE ls) 0 = some none := find_none 0 0 h
    simp [Instr.findKey, hk w, hf, h]
theorem m_makeMap (H : St w0 X w L) : ∃ w' b, (execOp (evl l) ⟨d, .makeMap T none, ty, pos, after, g⟩).run P w = .ok (.value (.map (some b))) w' ∧ St w0 X w' ((b, mapO []) :: L) := by
  refine ⟨_, w.heap.size, ?_, H.alloc (mapO [])⟩
  simp [execOp, Instr.makeMap, mapO, mE]
theorem r_lookup (hu : Und P T (.map K E)) (hk : Und P K (.int .u64)) (hz : Zero P E (.bool false)) (hx : evl l x = .map (some b)) (hy : evl l y = .int .u64 n) (hb : w.heap[b]? = some (mapO ls)) :
    (execOp (evl l) ⟨d, .lookup T x y false, ty, pos, after, g⟩).run P w = .ok (.value (.bool (decide (n ∈ ls)))) w := by
  have hf := run_findK (P := P) (n := n) (ls := ls) hk w
  by_cases h : n ∈ ls
  · obtain ⟨i, _, hg⟩ := find_some (n := n) (l := ls) 0 0 h
    have hg' : Instr.findNow (.int .u64) (.int .u64 n) (mE ls) 0 = some (some (0 + i, .bool true)) := hg
    rw [if_pos h, hg'] at hf
    simp [execOp, Instr.lookup, hu w, hx, hy, run_get hb, run_check hk, hf, h]
  · rw [if_neg h] at hf
    simp [execOp, Instr.lookup, hu w, hx, hy, run_get hb, run_check hk, hf, h, hz w]
theorem set_heap {w : World} {b : Nat} {o o' : Obj} (hb : w.heap[b]? = some o) : (setBlock w b o').heap[b]? = some o' := by
  have hlt : b < w.heap.size := by
    rcases Nat.lt_or_ge b w.heap.size with h | h
    · exact h
    · simp [Array.getElem?_eq_none h] at hb
  simp [setBlock, hlt]
theorem set_other {w : World} {b c : Nat} {o' : Obj} (h : c ≠ b) : (setBlock w b o').heap[c]? = w.heap[c]? := by
  simp only [setBlock, Array.getElem?_setIfInBounds]
  rw [if_neg (by omega)]
theorem St.setB {o o' : Obj} (h : St w0 X w L) (k : Nat) (hk : L[k]? = some (b, o)) : St w0 X (setBlock w b o') (L.set k (b, o')) :=
  h.put k hk rfl rfl rfl rfl (by simp [setBlock]) (set_heap (h.at k hk)) (fun _ hc => set_other hc)
theorem run_setMap {es : Array MapEntry} {c : Nat} {o' : Obj} (hb : w.heap[b]? = some (.map es c)) : (setObj b o').run P w = .ok () (setBlock w b o') := by
  simp [setObj, Sem.run, hb, setBlock]
theorem m_mapUpdate (H : St w0 X w L) (k : Nat) (hu : Und P T (.map K E)) (hk : Und P K (.int .u64)) (hx : evl l x = .map (some b)) (hy : evl l y = .int .u64 n) (hv : evl l z = .bool true) (hL : L[k]? = some (b, mapO ls)) :
    ∃ w', (execOp (evl l) ⟨d, .mapUpdate T x y z, ty, pos, after, g⟩).run P w = .ok .skip w' ∧ St w0 X w' (L.set k (b, mapO (ins ls n))) := by
  have hb := H.at k hL
  have hf := run_findK (P := P) (n := n) (ls := ls) hk w
  refine ⟨setBlock w b (mapO (ins ls n)), ?_, H.setB k hL⟩
  by_cases h : n ∈ ls
  · obtain ⟨i, hi, hg⟩ := find_some (n := n) (l := ls) 0 0 h
    have hg' : Instr.findNow (.int .u64) (.int .u64 n) (mE ls) 0 = some (some (i, .bool true)) := by rw [Nat.zero_add] at hg; exact hg
    rw [if_pos h, hg'] at hf
    have hil : i < ls.length := by
      rcases Nat.lt_or_ge i ls.length with h' | h'
      · exact h'
      · rw [List.getElem?_eq_none h'] at hi; cases hi
    have hm : (mE ls)[i]? = some { key := .int .u64 n, val := .bool true, born := i } := by
      simp [mE, List.getElem?_map, List.getElem?_zipIdx, hi]
    have he : (mE ls).modify i (fun e => { key := .int .u64 n, val := .bool true, born := e.born }) = mE ls := by
      apply List.ext_getElem?
      intro j
      rw [List.getElem?_modify]
      split
      · rename_i hj
        subst hj
        simp [hm]
      · simp
    have hi2 : ins ls n = ls := by unfold ins; rw [if_pos h]
    have hset := run_setMap (P := P) (o' := mapO (ins ls n)) hb
    rw [hi2] at hset ⊢
    have hs : Instr.sameBits 10000 (.int .u64 n) (.int .u64 n) = true := by simp [Instr.sameBits]
    have hks : (Instr.keyThatStays (.int .u64 n) (.int .u64 n)).run P w = .ok (.int .u64 n) w := by simp [Instr.keyThatStays, hs]
    simp only [mapO] at hset
    simp [execOp, Instr.mapUpdate, hu w, hx, hy, hv, run_get hb, mapO, run_check hk, hf, hm, hks]
    rw [he, hset]; rfl
  · have hi2 : ins ls n = ls ++ [n] := by unfold ins; rw [if_neg h]
    rw [if_neg h] at hf
    have hset := run_setMap (P := P) (o' := mapO (ins ls n)) hb
    rw [hi2] at hset ⊢
    simp only [mapO, mE_snoc, List.length_append, List.length_singleton] at hset
    simp [execOp, Instr.mapUpdate, hu w, hx, hy, hv, run_get hb, mapO, run_check hk, hf, mE_snoc]
    rw [hset]; rfl
/-! ### Ranging over a set -/
/-- how many are left -/
def leftN (m : Nat) (seen : List Nat) : Nat := ((List.range m).filter fun i => !seen.contains i).length
theorem leftN_lt {m i : Nat} {seen : List Nat} (hi : i < m) (hs : i ∉ seen) : leftN m (seen ++ [i]) < leftN m seen := by
  unfold leftN
  have hp : ∀ l : List Nat, (l.filter fun j => !(seen ++ [i]).contains j).length ≤ (l.filter fun j => !seen.contains j).length := by
    intro l
    induction l with
    | nil => simp
    | cons x xs ih =>
      rw [List.filter_cons, List.filter_cons]
      by_cases h1 : x ∈ seen
      · have a1 : (!(seen ++ [i]).contains x) = false := by simp [h1]
        have a2 : (!seen.contains x) = false := by simp [h1]
        rw [a1, a2]; exact ih
      · have a2 : (!seen.contains x) = true := by simp [h1]
        rw [a2]
        split
        · simpa using ih
        · simp only [if_true, List.length_cons]; omega
  have key : ∀ l : List Nat, i ∈ l → (l.filter fun j => !(seen ++ [i]).contains j).length < (l.filter fun j => !seen.contains j).length := by
    intro l
    induction l with
    | nil => intro h; cases h
    | cons x xs ih =>
      intro h
      rw [List.filter_cons, List.filter_cons]
      by_cases hx : x = i
      · subst hx
        have a1 : (!(seen ++ [x]).contains x) = false := by simp
        have a2 : (!seen.contains x) = true := by simp [hs]
        rw [a1, a2]
        have := hp xs
        simp only [Bool.false_eq_true, if_false, if_true, List.length_cons]
        omega
      · have ih' := ih ((List.mem_cons.1 h).resolve_left (fun e => hx e.symm))
        by_cases h1 : x ∈ seen
        · have a1 : (!(seen ++ [i]).contains x) = false := by simp [h1]
          have a2 : (!seen.contains x) = false := by simp [h1]
          rw [a1, a2]; exact ih'
        · have a1 : (!(seen ++ [i]).contains x) = true := by simp [h1, hx]
          have a2 : (!seen.contains x) = true := by simp [h1]
          rw [a1, a2]; simpa using ih'
  exact key _ (List.mem_range.2 hi)
end
end Go.Er

