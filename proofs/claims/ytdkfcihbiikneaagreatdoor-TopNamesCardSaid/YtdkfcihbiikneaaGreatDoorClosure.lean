/- The closure of the row's function, reckoned once over a table, and the row's facts that go by it. No condition. -/
import Derived.Test.YtdkfcihbiikneaaGreatDoorRows
import Derived.Test.YtdkfcihbiikneaaGreatDoorEvD
import Derived.JoinedOf
import GoSem.ClaimGoes
namespace Go.Ev
noncomputable section
/-- the closure over a table, what was seen as the bits of a number; with the steps that it takes -/
def cvA (adj : Tr (List Nat)) (n : Nat) : List Nat → Nat → List Nat → Option (List Nat) :=
  Nat.rec (motive := fun _ => List Nat → Nat → List Nat → Option (List Nat)) (fun _ _ _ => none)
    (fun _ ih todo m seen => match todo with
      | [] => some seen
      | f :: todo => sel (bit m f) (ih todo m seen) (match adj.get f with
        | none => none
        | some l => ih (l ++ todo) (Nat.lor m (Nat.shiftLeft 1 f)) (f :: seen))) n
end
theorem cvA_eq {P : Program} {adj : Tr (List Nat)} (ha : ∀ f l, adj.get f = some l → (P.funcs[f]?).elim [] P.leadsTo = l) : ∀ (n N : Nat) (todo : List Nat) (m : Nat) (seen r : List Nat), n ≤ N → (∀ f, bit m f = true ↔ f ∈ seen) →
    cvA adj n todo m seen = some r → P.closureVia N todo seen = r.reverse
  | 0, _, _, _, _, _, _, _, h => by cases h
  | n + 1, 0, _, _, _, _, hn, _, _ => by omega
  | n + 1, N + 1, [], m, seen, r, _, _, h => by
    have h' : some seen = some r := h
    cases h'
    rfl
  | n + 1, N + 1, f :: todo, m, seen, r, hn, hm, h => by
    have h' : sel (bit m f) (cvA adj n todo m seen) (match adj.get f with
        | none => none
        | some l => cvA adj n (l ++ todo) (Nat.lor m (Nat.shiftLeft 1 f)) (f :: seen)) = some r := h
    rw [sel_eq] at h'
    unfold Program.closureVia
    split at h'
    · rename_i hb
      have hc : seen.contains f = true := List.contains_iff_mem.2 ((hm f).1 hb)
      rw [if_pos hc]
      exact cvA_eq ha n N todo m seen r (by omega) hm h'
    · rename_i hb
      have hc : ¬ (seen.contains f = true) := fun hc => hb ((hm f).2 (List.contains_iff_mem.1 hc))
      rw [if_neg hc]
      split at h'
      · cases h'
      · rename_i l hl
        rw [ha f l hl]
        refine cvA_eq ha n N (l ++ todo) _ (f :: seen) r (by omega) (fun g => ?_) h'
        rw [bit_eq, List.mem_cons, ← hm g, bit_eq]
        show (m ||| (1 <<< f)).testBit g = true ↔ _
        rw [Nat.testBit_or, Nat.testBit_shiftLeft]
        by_cases hg : g = f
        · subst hg; simp
        · simp only [Bool.or_eq_true, Bool.and_eq_true, decide_eq_true_eq, hg, false_or]
          constructor
          · rintro (h1 | ⟨h1, h2⟩)
            · exact h1
            · exfalso
              have := Nat.testBit_one_eq_true_iff_self_eq_zero.1 h2
              have h3 : f ≤ g := by simpa using h1
              omega
          · exact fun h1 => .inl h1
theorem closure_of {P : Program} {adj : Tr (List Nat)} {n : Nat} {f : FuncId} {r : List Nat} (ha : ∀ f l, adj.get f = some l → (P.funcs[f]?).elim [] P.leadsTo = l)
    (hn : Nat.ble n (1 + (P.funcs.toList.map fun g => (P.leadsTo g).length + 1).sum) = true) (hs : cvA adj n [f] 0 [] = some r) : P.closure f = r.reverse :=
  cvA_eq ha n _ [f] 0 [] r (Nat.le_of_ble_eq_true hn) (fun g => by rw [bit_eq]; simp) hs
end Go.Ev
namespace Go.Proofs.YtdkfcihbiikneaaGreatDoor
open Go Go.Ev
set_option maxRecDepth 1000000
noncomputable section
def adj0 : List (List Nat) := [
  [], [], [1], [4, 5], [], [6, 7, 8, 9, 10, 11, 12], [13], [14, 14, 15, 15, 16], [17, 17, 18, 20, 19, 21], [22, 23], [15, 15, 14, 15, 16], [25, 24, 26, 24, 27], [28, 30, 31, 29, 32, 22, 33, 35, 34, 37, 9, 36], [], [15], [38], [], [39], [40, 41], [39],
  [18], [], [28, 42, 44, 43, 45, 46, 44, 43, 47, 48, 44], [], [49], [50], [], [], [51, 52, 53, 54, 55], [56], [], [], [45, 44, 57, 58, 44], [53, 59, 60, 62, 63, 64, 65, 66], [67], [68], [69], [], [], [18],
  [], [], [30, 70, 71, 72, 29], [45, 73], [74], [74], [75, 75, 76, 77, 78, 80, 79, 81, 83, 82, 84, 85, 84, 86, 87, 88, 89, 91, 90], [45], [74, 92], [93], [94, 95, 96, 24, 95, 27], [97, 98, 99], [], [100, 101, 102], [103, 52], [74, 104, 105, 106, 105, 107, 108, 109, 110], [], [111], [75, 112, 75, 81, 113, 114, 75, 116, 117, 115], [99],
  [61], [118, 119, 120], [121], [118, 104, 122, 106, 122, 107, 123, 123, 123], [118, 124], [118, 92], [118], [], [], [125], [127, 126], [], [], [74, 128, 129], [], [74], [81, 130], [132, 131, 133, 136, 135, 134], [133, 137, 116, 138, 139, 140, 141, 131, 135, 134], [142, 144, 143, 145],
  [], [142], [146, 147], [], [142], [148, 70], [148, 149], [142], [150, 151, 70], [74], [152, 153, 154, 70], [155, 89, 156, 157], [], [], [158, 159, 160, 160]]
def adj1 : List (List Nat) := [
  [49], [161], [162, 163, 164, 165], [163], [], [166, 166, 166, 166, 166, 166, 166, 166, 166, 166, 166], [167, 52, 168, 52], [167, 52, 167, 52], [74, 119, 120], [169], [142, 104, 170], [], [], [], [171], [172, 173, 139, 175, 174, 177, 176, 174, 178, 179, 180], [], [75, 76, 132, 131, 133, 136, 135, 134, 139, 140, 131, 135, 134], [181, 182], [],
  [183], [142], [184], [], [185, 186, 187, 187, 188, 189, 190], [152, 191, 153, 192, 193, 195, 194, 197, 198, 196], [], [122], [], [200, 199, 201, 202, 203, 204], [], [205, 206, 207, 208, 209, 210, 211, 212, 213, 126, 126], [214, 215], [216, 217], [218, 219, 220, 57, 221, 222], [146], [223], [74, 224], [74], [131],
  [225, 227, 226, 229, 230, 228], [225], [142, 30], [], [225], [225, 184], [116, 231, 232], [], [234, 233], [], [211, 235, 235], [], [236, 237], [], [238], [240, 239], [], [], [], [241, 242, 242],
  [133, 243, 136, 135, 139, 140, 135, 89, 244], [248], [], [249], [250], [159], [251], [], [], [151], [], [252], [253, 254, 255, 255, 104], [256, 257], [258], [259, 171, 260, 261, 170, 263, 262], [142, 264], [265, 262], [172, 266, 267, 267, 268, 269], [104, 270, 271, 272, 139, 273, 139, 274, 275, 57, 276, 277, 270, 277, 278],
  [280, 279, 279], [280, 279, 175], [], [281], [267, 282, 283, 284, 283, 283], [139, 285, 286, 287, 280, 177, 279, 279, 175, 174, 173, 288, 289, 290, 291, 292], [146, 293, 294], [296], [], [], [297, 298, 299, 301, 300], [185, 302], [], [304, 303, 190, 305], [306, 187, 187, 307, 187]]
def adj2 : List (List Nat) := [
  [], [], [241], [], [241, 308, 309, 309], [310], [], [311, 311], [], [175, 312, 177, 176, 312, 313, 201, 313, 123, 123, 313, 314, 313, 315, 313, 316, 317, 318, 319], [], [], [320, 321, 312], [202, 322, 321, 312, 323], [323, 324, 325], [211], [326, 326], [327, 328], [329, 329, 329, 330], [],
  [211, 211, 211], [331, 331], [211, 211], [211, 211, 211, 211], [], [], [248], [332, 332, 332], [333, 335, 334, 336, 337, 334], [281, 333, 335, 337, 338, 339, 334], [340, 108, 333, 335, 341, 337], [342, 108, 343, 109, 333, 139, 109, 333, 282, 335, 267, 282], [344, 180, 344, 110, 180, 110, 290, 345], [267, 346, 87, 149, 172, 346, 347, 346, 348], [349], [], [228], [], [350], [351, 231],
  [350, 350], [352], [142, 353, 354], [183], [], [], [], [], [150, 355], [356, 357], [151], [], [358, 359], [74], [246, 245], [56], [247], [248], [152], [],
  [360], [361, 362, 363, 364], [365], [366], [367, 368, 369, 370, 254, 279], [], [372, 371], [104, 373, 271, 280, 374, 375, 373, 376, 377], [378, 258], [265, 340], [142, 379, 264], [142, 380, 381, 264, 264], [346, 267], [267], [382], [142, 267, 266, 353, 346, 268, 353, 346], [], [266], [238], [267, 267, 383],
  [280, 175], [384, 385], [136, 135, 267], [139, 140], [386, 387], [388, 389], [390, 108, 105, 391, 386, 389, 108, 139, 109, 110], [392], [], [280, 393], [], [142, 394, 263, 354], [139, 275], [292], [172, 395, 283, 178, 283]]
def adj3 : List (List Nat) := [
  [317], [290, 278, 278, 396, 139, 109, 110, 283, 283, 334, 397], [152], [152], [152, 398, 399], [273, 278, 274, 400, 275, 139, 275], [248, 153, 401, 399], [402, 108, 390, 108], [], [295], [331, 331], [403, 404], [104, 104, 405, 406], [408, 407, 407, 407, 408, 407], [410, 409, 411, 412, 413, 414], [], [], [], [416, 187], [],
  [187, 417, 303, 418, 187], [419, 187, 187, 307, 187, 307, 187], [187], [], [358, 420], [], [104, 421, 311], [104, 321, 271, 324, 422, 122, 423, 123, 324, 277, 321, 277, 323], [], [424, 200, 313, 315, 123], [123, 123, 123], [424, 123, 123, 123], [], [204, 323, 323, 425, 426, 427, 428, 202, 429], [287, 430, 312, 431, 424, 432, 204], [433, 104], [280, 175], [104, 434, 24, 24, 436, 435, 434, 24, 437], [], [],
  [432, 438], [211, 211], [127], [], [330], [439, 439, 439], [], [440], [441], [391, 108, 290], [442], [172, 395, 346, 341, 443, 108, 290], [109, 260, 108], [142, 394, 265, 263, 354, 262], [444, 290, 338], [142, 381, 354], [261, 108], [225, 445, 446, 138, 447, 448, 448], [225, 230, 228], [449],
  [292, 442, 267, 139, 275, 450, 451, 452], [266], [453], [453, 267, 84, 454, 84, 383, 347], [], [231], [350], [], [130, 113], [264], [150], [455], [456, 457, 356, 458], [459, 460], [], [461], [], [215, 462, 463], [], [464, 465],
  [], [466, 467], [255, 468, 469, 470, 469, 177, 471, 472, 473], [255, 474, 255, 475], [476, 365], [476], [477, 478, 94, 252], [479], [280, 175], [], [374, 375], [175, 176, 317, 480, 279, 175], [104, 373, 421, 375, 373, 176, 481], [482, 482], [150, 483]]
def adj4 : List (List Nat) := [
  [148, 379, 484], [485, 130, 354], [], [486, 268], [104], [488, 487], [142, 138, 489, 490, 130], [491], [491], [142, 492], [142, 493, 130, 138, 138], [142, 265, 265, 494], [104, 435, 24, 437], [], [172, 346, 269], [172, 266, 267, 268, 269], [172, 173, 175, 174, 177, 176, 174, 270, 174, 495], [496, 175, 174, 174, 497, 498, 498, 499, 500], [241, 501], [247, 401],
  [139, 173, 291, 502, 275], [241, 501], [225, 184, 445], [], [295], [503], [], [], [384, 385], [504], [505], [300], [], [127, 506], [295, 295, 415], [], [418], [], [], [507, 187, 507, 187, 507],
  [508, 509], [384, 487, 106], [], [510], [], [200, 175, 312, 177, 176, 312, 321, 312, 511, 123], [424, 123], [424, 123, 123, 123], [423, 204], [175, 312, 312, 512, 513, 513, 514, 515], [280, 177, 279, 279, 175], [200, 516, 288, 289, 291], [517, 122, 423, 518, 122, 123, 511, 123, 123], [200, 106, 433], [], [519, 24, 519, 24, 50, 24, 520, 521, 50, 24, 522, 95], [106, 436], [434, 27], [523, 524, 122, 511, 423], [211],
  [], [525, 526], [525, 231], [142, 265, 265, 262, 527, 262, 262, 528], [172, 265, 346, 346, 529], [530, 530, 351], [], [531], [526], [136, 532, 136, 533, 448], [496], [290, 260, 108, 524, 534, 261, 108, 338, 338, 334], [535, 322, 270, 174, 278], [142, 353], [486], [], [536], [537], [539, 538], [],
  [295], [], [], [], [], [540, 541], [159, 542, 543, 544], [545, 546, 159, 547, 159, 547, 159, 546, 159, 548, 159, 547, 159, 546, 549], [479], [], [550, 551, 472, 551, 472, 552, 550, 279], [106], [553, 280, 554, 555, 556, 279], [255, 557, 553, 177, 558, 370, 254, 279, 472], [255, 255]]
def adj5 : List (List Nat) := [
  [477], [478], [], [], [], [104, 280, 177, 279], [374, 374, 374], [], [559], [], [146, 560, 562, 561, 563], [148], [487], [106], [142, 138, 138, 564, 354], [146, 560, 560], [225], [146, 560, 560, 565], [146], [262, 262, 527, 566, 527, 566, 346, 346, 267, 267, 269, 263, 354, 263, 354, 494],
  [261, 108, 281, 338, 338, 139, 109, 110], [535, 270, 174], [277, 270, 174, 278], [257, 174, 119, 270, 174, 120, 108], [261, 260, 108, 338, 338, 257, 174, 288, 281, 281, 173, 289, 567, 291, 290], [568, 280, 177, 279, 279, 175, 174, 174, 290, 534, 534, 334], [569, 569, 569], [491], [], [], [], [570, 571, 572, 573, 574, 575, 576, 577, 506, 506], [578, 303, 190, 418, 507, 187, 579, 303, 187], [], [580], [200, 200, 581, 581, 510, 582], [], [277, 321, 312, 323], [257, 312, 119, 321, 312, 120], [200, 313, 523, 511, 200, 320, 257, 312, 431, 517, 583, 122, 423, 584, 324, 204],
  [568, 430, 312, 312, 204, 122, 122, 423, 204], [310], [585, 197], [586], [587], [588, 95, 522, 95, 435, 95], [95, 435, 95, 589, 591, 590, 593, 590], [95, 435], [], [595], [225, 533], [352], [346], [346, 529, 267, 596], [262, 346, 269, 263, 354, 529], [], [], [225, 530], [136, 351], [105, 108],
  [142, 265, 597, 104], [598, 599, 600, 601, 602], [603, 598, 604, 605, 600], [], [], [], [], [606], [607], [608], [543, 159], [], [159], [547, 609], [543, 610], [254, 556], [474], [554, 611, 280, 551, 254, 556, 612], [474, 255], [254, 551, 254],
  [], [551], [477], [255, 474, 474, 474, 613], [], [], [], [], [], [138, 231], [563], [528], [517, 614, 390, 108, 105, 391, 386, 389, 108, 584], [615, 616, 617, 618, 616, 616, 617], [358]]
def adj6 : List (List Nat) := [
  [], [619, 619], [327, 328], [620, 620, 620, 621], [], [], [], [], [], [], [622, 622, 622], [623], [], [624, 280, 279, 104], [585], [152, 248], [], [625], [384, 421], [475, 626, 557],
  [95, 95], [592], [369, 589, 370, 627, 24, 50, 24, 370, 627], [594], [50, 24, 370, 627], [], [531], [262, 266, 628, 267, 177, 267, 268, 280, 269, 263, 354, 597], [], [], [], [], [629, 599, 630, 631, 599, 632, 633, 632, 631, 604, 600, 601], [], [], [634, 599, 635, 635], [], [636], [542, 636, 637, 542, 636, 638, 637, 542, 636, 639], [640, 641],
  [642], [], [524, 279], [255, 475, 557, 553], [624, 280, 279, 421], [], [643, 644], [280, 175, 645], [646, 647, 648, 649, 650], [], [621], [651, 651, 651], [], [200, 653, 652], [654, 518, 654, 279, 279, 421], [361, 362, 363, 364], [], [655, 656, 590], [106], [],
  [], [], [], [], [], [], [], [], [], [657], [658], [659, 660, 661, 662], [547, 543, 663], [664], [104], [], [666, 665, 666, 665, 666, 665, 666, 665, 666, 665], [667, 668, 665, 669, 665, 669, 665, 670, 671, 672, 667, 673, 674, 675], [676, 677, 280, 667], [666, 678, 177, 667, 666, 666, 677, 666, 679, 679, 666, 679, 667, 666, 679, 680, 279, 667],
  [666, 677, 666, 679, 666, 677, 666, 679, 665, 667], [], [681], [623], [280], [682], [435], [], [683, 683, 683, 683, 683, 683, 684], [685], [685], [685, 519, 686], [685, 519, 686], [658, 641], []]
def adj7 : List (List Nat) := [
  [], [], [687], [688, 689], [384, 384, 690], [676, 677, 665, 665, 665, 665], [280, 666, 678, 691, 612, 667, 588, 666, 677, 669, 679, 692], [271, 680, 643, 693, 694], [695, 645, 177, 667], [666, 677, 666, 679, 177, 667], [696, 645, 665], [104, 697], [175, 645], [666, 280], [176, 645], [106], [], [475, 557], [], [683, 683, 683, 683, 683, 683],
  [], [], [698], [], [699, 104, 421, 421, 700, 701], [702, 690], [703], [666, 677, 666, 679, 667, 666, 679, 617, 279, 667], [104], [384, 643, 704, 705, 487, 384], [104, 280, 175, 706], [707, 695, 695, 708, 707], [295, 295, 295, 709, 415, 697], [], [], [710, 711, 711, 712, 712, 700, 702], [699], [], [], [384],
  [421, 106], [713, 175, 714, 715, 480, 176, 714, 716], [], [], [717, 717], [], [], [718], [719], [], [], [706, 720, 706, 721], [], [722, 643, 718], [280, 279, 175, 714], [713, 723, 713, 708, 713], [713, 713, 724, 713, 713, 725], [718], [], [723, 723, 719, 713],
  [719, 713, 713, 726, 713], [], [], [], [], [], [], [], [], [], [], [], [], [], [], [], [], [], [], [],
  [], [], [], [], [], [], [], [], [], [], [], [], [], [], [686, 686]]
def adjs : List (List Nat) := adj0 ++ adj1 ++ adj2 ++ adj3 ++ adj4 ++ adj5 ++ adj6 ++ adj7
def theClosure : List Nat := [
  3, 4, 5, 6, 13, 7, 14, 15, 38, 16, 8, 17, 39, 18, 40, 41, 20, 19, 21, 9,
  22, 28, 51, 97, 162, 163, 164, 151, 165, 98, 99, 52, 53, 100, 166, 252, 365, 101, 167, 253,
  366, 466, 159, 250, 360, 461, 542, 606, 543, 607, 636, 544, 608, 637, 638, 639, 657, 467, 545, 546,
  547, 548, 609, 640, 658, 683, 684, 641, 659, 685, 660, 661, 519, 587, 625, 361, 362, 215, 462, 463,
  363, 364, 464, 465, 540, 541, 686, 662, 549, 610, 642, 663, 254, 367, 255, 468, 479, 469, 470, 550,
  556, 551, 474, 472, 553, 280, 554, 555, 279, 393, 552, 611, 612, 524, 595, 177, 471, 106, 473, 557,
  477, 558, 613, 475, 370, 476, 478, 368, 369, 104, 169, 258, 378, 482, 168, 256, 372, 371, 94, 158,
  249, 160, 257, 373, 175, 271, 384, 385, 488, 487, 374, 375, 376, 176, 317, 480, 377, 421, 481, 102,
  54, 103, 74, 119, 185, 297, 405, 503, 406, 298, 408, 407, 299, 410, 505, 409, 504, 411, 300, 412,
  413, 127, 214, 506, 570, 571, 619, 572, 327, 328, 573, 620, 621, 651, 574, 575, 576, 577, 414, 295,
  331, 415, 301, 186, 302, 187, 188, 304, 303, 416, 418, 190, 305, 417, 189, 306, 419, 507, 578, 579,
  307, 120, 152, 191, 153, 192, 241, 193, 195, 310, 194, 308, 309, 358, 459, 460, 420, 508, 509, 580,
  622, 197, 311, 198, 196, 55, 105, 142, 170, 259, 265, 267, 266, 353, 130, 146, 113, 181, 293, 294,
  182, 296, 403, 404, 346, 268, 238, 150, 240, 239, 356, 455, 357, 456, 536, 598, 599, 600, 601, 602,
  629, 630, 631, 632, 633, 604, 457, 537, 603, 605, 634, 635, 458, 539, 538, 355, 340, 381, 485, 560,
  562, 561, 563, 354, 264, 382, 171, 260, 379, 483, 559, 261, 380, 148, 484, 263, 262, 107, 108, 109,
  110, 172, 173, 269, 383, 486, 139, 225, 174, 270, 272, 136, 135, 227, 226, 228, 350, 231, 352, 229,
  351, 230, 273, 140, 184, 274, 386, 138, 489, 564, 490, 387, 491, 275, 388, 389, 492, 565, 57, 111,
  276, 390, 493, 391, 494, 527, 566, 528, 529, 596, 531, 277, 392, 435, 24, 49, 93, 50, 95, 96,
  161, 251, 27, 520, 588, 522, 521, 589, 626, 591, 592, 627, 655, 682, 656, 590, 593, 594, 437, 434,
  278, 178, 281, 394, 179, 282, 283, 292, 402, 445, 530, 284, 395, 180, 285, 286, 290, 400, 291, 248,
  401, 501, 569, 399, 247, 502, 396, 495, 338, 334, 397, 496, 535, 597, 628, 497, 498, 499, 288, 289,
  398, 567, 517, 585, 614, 624, 654, 518, 586, 584, 500, 568, 615, 616, 643, 664, 644, 617, 645, 618,
  646, 666, 665, 647, 667, 687, 698, 668, 688, 689, 699, 700, 710, 711, 712, 718, 722, 702, 701, 669,
  690, 670, 676, 697, 709, 717, 677, 671, 678, 691, 703, 679, 692, 672, 680, 693, 694, 704, 705, 673,
  695, 706, 713, 719, 714, 715, 716, 720, 723, 708, 721, 724, 725, 726, 674, 675, 696, 707, 648, 649,
  650, 534, 287, 42, 30, 70, 126, 205, 211, 206, 326, 207, 208, 329, 330, 439, 209, 210, 212, 213,
  71, 72, 29, 56, 44, 43, 45, 73, 128, 216, 217, 332, 440, 129, 218, 333, 441, 525, 533, 526,
  335, 442, 336, 341, 443, 337, 219, 339, 444, 220, 221, 342, 446, 447, 448, 343, 222, 344, 449, 532,
  345, 450, 451, 452, 322, 436, 46, 75, 76, 81, 77, 132, 224, 349, 131, 223, 87, 149, 347, 453,
  348, 84, 454, 133, 134, 78, 137, 116, 141, 232, 80, 79, 144, 143, 234, 233, 183, 145, 235, 83,
  82, 147, 236, 237, 85, 86, 88, 89, 91, 155, 243, 244, 246, 245, 156, 157, 90, 154, 242, 359,
  47, 48, 92, 23, 10, 11, 25, 26, 12, 31, 32, 58, 112, 114, 117, 115, 33, 59, 60, 61,
  118, 62, 121, 63, 122, 123, 64, 124, 200, 199, 312, 321, 324, 422, 423, 510, 581, 623, 653, 652,
  681, 582, 323, 313, 201, 314, 424, 315, 316, 318, 204, 325, 432, 511, 438, 523, 425, 426, 427, 428,
  202, 320, 433, 429, 512, 513, 514, 431, 516, 583, 515, 430, 319, 203, 65, 66, 35, 68, 34, 67,
  37, 36, 69, 125]
end
/-- a stretch of the table, as the program has it -/
noncomputable def stretch (a : Nat) (l : List (List Nat)) : Bool := List.rec (motive := fun _ => Nat → Bool) (fun _ => true) (fun x _ ih i => sel (natsEq ((Tryz.prog.funcs[i]?).elim [] Tryz.prog.leadsTo) x) (ih (Nat.add i 1)) false) l a
theorem stretch_eq : ∀ {l : List (List Nat)} {a : Nat}, stretch a l = true → ∀ j x, l[j]? = some x → (Tryz.prog.funcs[a + j]?).elim [] Tryz.prog.leadsTo = x
  | [], _, _, j, x, hx => by simp at hx
  | y :: l, a, h, j, x, hx => by
    obtain ⟨h1, h2⟩ := sel_false_eq.1 (show sel (natsEq ((Tryz.prog.funcs[a]?).elim [] Tryz.prog.leadsTo) y) (stretch (a + 1) l) false = true from h)
    cases j with
    | zero => simp at hx; subst hx; exact (natsEq_iff _ _).1 h1
    | succ j => have := stretch_eq h2 j x (by simpa using hx); rwa [show a + 1 + j = a + (j + 1) by omega] at this
theorem stretch0 : stretch 0 adj0 = true := by kernel_rfl
theorem long0 : adj0.length = 95 := by kernel_rfl
theorem stretch1 : stretch 95 adj1 = true := by kernel_rfl
theorem long1 : adj1.length = 95 := by kernel_rfl
theorem stretch2 : stretch 190 adj2 = true := by kernel_rfl
theorem long2 : adj2.length = 95 := by kernel_rfl
theorem stretch3 : stretch 285 adj3 = true := by kernel_rfl
theorem long3 : adj3.length = 95 := by kernel_rfl
theorem stretch4 : stretch 380 adj4 = true := by kernel_rfl
theorem long4 : adj4.length = 95 := by kernel_rfl
theorem stretch5 : stretch 475 adj5 = true := by kernel_rfl
theorem long5 : adj5.length = 95 := by kernel_rfl
theorem stretch6 : stretch 570 adj6 = true := by kernel_rfl
theorem long6 : adj6.length = 95 := by kernel_rfl
theorem stretch7 : stretch 665 adj7 = true := by kernel_rfl
theorem long7 : adj7.length = 95 := by kernel_rfl
theorem table_ok : ∀ f l, (Tr.ofList adjs).get f = some l → (Tryz.prog.funcs[f]?).elim [] Tryz.prog.leadsTo = l := by
  intro f l hl
  rw [Tr.get_ofList] at hl
  unfold adjs at hl
  by_cases h7 : f < 665
  case neg => 
    rw [List.getElem?_append_right (by simp only [List.length_append, long0, long1, long2, long3, long4, long5, long6]; omega)] at hl
    have e : f = 665 + (f - 665) := by omega
    rw [e]
    refine stretch_eq stretch7 _ _ ?_
    simpa only [List.length_append, long0, long1, long2, long3, long4, long5, long6, Nat.reduceAdd] using hl
  rw [List.getElem?_append_left (by simp only [List.length_append, long0, long1, long2, long3, long4, long5, long6]; omega)] at hl
  by_cases h6 : f < 570
  case neg => 
    rw [List.getElem?_append_right (by simp only [List.length_append, long0, long1, long2, long3, long4, long5]; omega)] at hl
    have e : f = 570 + (f - 570) := by omega
    rw [e]
    refine stretch_eq stretch6 _ _ ?_
    simpa only [List.length_append, long0, long1, long2, long3, long4, long5, Nat.reduceAdd] using hl
  rw [List.getElem?_append_left (by simp only [List.length_append, long0, long1, long2, long3, long4, long5]; omega)] at hl
  by_cases h5 : f < 475
  case neg => 
    rw [List.getElem?_append_right (by simp only [List.length_append, long0, long1, long2, long3, long4]; omega)] at hl
    have e : f = 475 + (f - 475) := by omega
    rw [e]
    refine stretch_eq stretch5 _ _ ?_
    simpa only [List.length_append, long0, long1, long2, long3, long4, Nat.reduceAdd] using hl
  rw [List.getElem?_append_left (by simp only [List.length_append, long0, long1, long2, long3, long4]; omega)] at hl
  by_cases h4 : f < 380
  case neg => 
    rw [List.getElem?_append_right (by simp only [List.length_append, long0, long1, long2, long3]; omega)] at hl
    have e : f = 380 + (f - 380) := by omega
    rw [e]
    refine stretch_eq stretch4 _ _ ?_
    simpa only [List.length_append, long0, long1, long2, long3, Nat.reduceAdd] using hl
  rw [List.getElem?_append_left (by simp only [List.length_append, long0, long1, long2, long3]; omega)] at hl
  by_cases h3 : f < 285
  case neg => 
    rw [List.getElem?_append_right (by simp only [List.length_append, long0, long1, long2]; omega)] at hl
    have e : f = 285 + (f - 285) := by omega
    rw [e]
    refine stretch_eq stretch3 _ _ ?_
    simpa only [List.length_append, long0, long1, long2, Nat.reduceAdd] using hl
  rw [List.getElem?_append_left (by simp only [List.length_append, long0, long1, long2]; omega)] at hl
  by_cases h2 : f < 190
  case neg => 
    rw [List.getElem?_append_right (by simp only [List.length_append, long0, long1]; omega)] at hl
    have e : f = 190 + (f - 190) := by omega
    rw [e]
    refine stretch_eq stretch2 _ _ ?_
    simpa only [List.length_append, long0, long1, Nat.reduceAdd] using hl
  rw [List.getElem?_append_left (by simp only [List.length_append, long0, long1]; omega)] at hl
  by_cases h1 : f < 95
  case neg => 
    rw [List.getElem?_append_right (by simp only [long0]; omega)] at hl
    have e : f = 95 + (f - 95) := by omega
    rw [e]
    refine stretch_eq stretch1 _ _ ?_
    simpa only [long0] using hl
  rw [List.getElem?_append_left (by simp only [long0]; omega)] at hl
  have := stretch_eq stretch0 f l hl
  rwa [Nat.zero_add] at this
theorem steps_ok : cvA (Tr.ofList adjs) 2594 [3] 0 [] = some theClosure.reverse := by kernel_rfl
theorem fuel_ok : Nat.ble 2594 (1 + (Tryz.prog.funcs.toList.map fun g => (Tryz.prog.leadsTo g).length + 1).sum) = true := by kernel_rfl
theorem closure_eq : Tryz.prog.closure 3 = theClosure := (closure_of (P := Tryz.prog) table_ok fuel_ok steps_ok).trans (List.reverse_reverse theClosure)
theorem fact9 : (Rows.topNamesRow.inPlace == Tryz.prog.inPlace 3) = true := by
  unfold Program.inPlace
  rw [closure_eq]
  kernel_rfl
theorem goesOn : Tryz.prog.unfollowed 3 = true := by
  unfold Program.unfollowed
  rw [closure_eq]
  kernel_rfl
theorem fact10 : (Rows.topNamesRow.unfollowed == Tryz.prog.unfollowed 3) = true := by rw [goesOn]; rfl
theorem fact11 : (Rows.topNamesRow.recurses == Tryz.prog.recurses 3) = true := by
  unfold Program.recurses
  rw [goesOn]
  rfl
theorem fact12 : (Rows.topNamesRow.named == Tryz.prog.varsNamed 3) = true := by
  unfold Program.varsNamed
  rw [closure_eq]
  kernel_rfl
/-- a stretch of the types -/
noncomputable def fineFrom (n : Nat) : Nat → Bool := Nat.rec (motive := fun _ => Nat → Bool) (fun _ => true) (fun _ ih i => sel (rowFine Tryz.prog i) (ih (Nat.add i 1)) false) n
theorem fineFrom_eq : ∀ {n i : Nat}, fineFrom n i = true → ∀ t, i ≤ t → t < i + n → rowFine Tryz.prog t = true
  | 0, _, _, t, h1, h2 => by omega
  | n + 1, i, h, t, h1, h2 => by
    obtain ⟨h3, h4⟩ := sel_false_eq.1 (show sel (rowFine Tryz.prog i) (fineFrom n (i + 1)) false = true from h)
    by_cases he : t = i
    · subst he; exact h3
    · exact fineFrom_eq h4 t (by omega) (by omega)
theorem fine0 : fineFrom 100 0 = true := by kernel_rfl
theorem fine1 : fineFrom 100 100 = true := by kernel_rfl
theorem fine2 : fineFrom 100 200 = true := by kernel_rfl
theorem fine3 : fineFrom 100 300 = true := by kernel_rfl
theorem fine4 : fineFrom 100 400 = true := by kernel_rfl
theorem fine5 : fineFrom 100 500 = true := by kernel_rfl
theorem fine6 : fineFrom 100 600 = true := by kernel_rfl
theorem fine7 : fineFrom 95 700 = true := by kernel_rfl
theorem sized : Tryz.prog.types.size = 795 := by kernel_rfl
theorem fine_all : ((List.range Tryz.prog.types.size).all (rowFine Tryz.prog)) = true := by
  rw [sized, List.all_eq_true]
  intro t ht
  have ht := List.mem_range.1 ht
  by_cases h0 : t < 100
  · exact fineFrom_eq fine0 t (by omega) (by omega)
  by_cases h1 : t < 200
  · exact fineFrom_eq fine1 t (by omega) (by omega)
  by_cases h2 : t < 300
  · exact fineFrom_eq fine2 t (by omega) (by omega)
  by_cases h3 : t < 400
  · exact fineFrom_eq fine3 t (by omega) (by omega)
  by_cases h4 : t < 500
  · exact fineFrom_eq fine4 t (by omega) (by omega)
  by_cases h5 : t < 600
  · exact fineFrom_eq fine5 t (by omega) (by omega)
  by_cases h6 : t < 700
  · exact fineFrom_eq fine6 t (by omega) (by omega)
  exact fineFrom_eq fine7 t (by omega) (by omega)
theorem globals_typed : (Tryz.prog.globals.all fun g => decide (g.type < Tryz.prog.types.size)) = true := by kernel_rfl
theorem params_typed : (Tryz.prog.funcs.all fun f => f.params.all fun t => decide (t < Tryz.prog.types.size)) = true := by rw [sized]; kernel_rfl
theorem fact1 : laidOutB Tryz.prog = true := by unfold laidOutB; rw [fine_all, globals_typed, params_typed]; rfl
end Go.Proofs.YtdkfcihbiikneaaGreatDoor
