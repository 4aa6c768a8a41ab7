import PyProof.Rows.All
import HandS.HeadEnd
import HandS.HeadHook4
import HandS.HeadWalk
import HandS.Head0
import HandS.Head1
import HandS.Head2
import Wide.All
import OpenK.AllK
import Wide.FinOn
import HandS.ForMost
import HandS.Exc
import HandS.ExcOwn
import HandS.ExcCtx
import HandS.TryOnly
import HandS.Words
import HandS.WordsList
import HandS.WordsExc
import HandS.IsInst
import HandS.TupAny
import HandS.TupMul
import HandS.Sort
import HandS.Evl
import HandS.Walk
import HandS.Flow
import HandS.Zip
import HandS.Defaults
import KE.GoesNew
import PySem.Challenge.RW_evenhues_k94_whole_desk
import PySem.PyData
import HandS.ExcInit
import HandS.Codes
import HandS.Replace
import HandS.More
import HandS.HotCalls
import KE.KExcIs
import HandS.Lambda
set_option Elab.async false
set_option linter.all false
set_option maxRecDepth 100000
namespace EH
open PySem PySem.Spec PyProof.Rows L2
def top (i : Nat) : Stmt := PySem.Challenge.pw_evenhues_k94_whole_desk.main.body.getD i (.Pass ⟨0, 0, 0, 0⟩)
def plainW : List Str := ["cut", "run", "back", "draft", "sizes", "clean", "stuck", "fillings", "first", "far"]
def kinds : List Str := ["NoStrip", "NoSizes", "NoNumber", "NoPlace", "NoHue", "NoDraft", "NoPaper", "NoFit", "TooGreat", "NoLot", "NoRing", "NoRound", "NoStand", "NoText", "NoDeed", "NoLine"]
def errs : List Str := ["NoPlace", "NoDeed", "TooGreat"]
end EH
set_option Elab.async false
set_option linter.all false
set_option maxRecDepth 100000
set_option maxHeartbeats 4000000
namespace EH
open PySem PySem.Spec PyProof.Rows L2 LamX
/-! ### a Hook that looks at listed addresses: the statics, and what the module's names reach in four steps (adr.py) -/
def asY : List Addr := [2, 3, 6, 4, 24, 37, 49, 61, 73, 85, 97, 109, 121, 133, 145, 157, 169, 181, 193, 205, 224, 233, 240, 245, 252, 257, 262, 269, 274, 281, 286, 291, 296,
  303, 310, 315, 322, 327, 332, 339, 346, 353, 360, 367, 372, 377, 384, 391, 398, 405, 410, 417, 424, 431, 438, 445, 452, 457, 464, 469, 474, 479, 486,
  493, 498, 505, 510, 515, 522, 523, 524, 574, 585, 592, 599, 606, 613, 618, 623, 630, 637, 642, 649, 654, 661, 666, 671, 0, 23, 36, 48, 60, 72, 84, 96,
  108, 120, 132, 144, 156, 168, 180, 192, 204, 223, 232, 239, 244, 251, 256, 261, 268, 273, 280, 285, 290, 295, 302, 309, 314, 321, 326, 331, 338, 345,
  352, 359, 366, 371, 376, 383, 390, 397, 404, 409, 416, 423, 430, 437, 444, 451, 456, 463, 468, 473, 478, 485, 492, 497, 504, 509, 514, 521, 573, 584,
  591, 598, 605, 612, 617, 622, 629, 636, 641, 648, 653, 660, 665, 670, 22, 25, 35, 47, 59, 71, 83, 95, 107, 119, 131, 143, 155, 167, 179, 191, 203,
  221, 222, 227, 228, 229, 230, 231, 234, 235, 236, 237, 238, 241, 242, 243, 246, 247, 248, 249, 250, 253, 254, 255, 258, 259, 260, 263, 264, 265, 266,
  267, 270, 271, 272, 275, 276, 277, 278, 279, 282, 283, 284, 287, 288, 289, 292, 293, 294, 297, 298, 299, 300, 301, 304, 305, 306, 307, 308, 311, 312,
  313, 316, 317, 318, 319, 320, 323, 324, 325, 328, 329, 330, 333, 334, 335, 336, 337, 340, 341, 342, 343, 344, 347, 348, 349, 350, 351, 354, 355, 356,
  357, 358, 361, 362, 363, 364, 365, 368, 369, 370, 373, 374, 375, 378, 379, 380, 381, 382, 385, 386, 387, 388, 389, 392, 393, 394, 395, 396, 399, 400,
  401, 402, 403, 406, 407, 408, 411, 412, 413, 414, 415, 418, 419, 420, 421, 422, 425, 426, 427, 428, 429, 432, 433, 434, 435, 436, 439, 440, 441, 442,
  443, 446, 447, 448, 449, 450, 453, 454, 455, 458, 459, 460, 461, 462, 465, 466, 467, 470, 471, 472, 475, 476, 477, 480, 481, 482, 483, 484, 487, 488,
  489, 490, 491, 494, 495, 496, 499, 500, 501, 502, 503, 506, 507, 508, 511, 512, 513, 516, 517, 518, 519, 520, 538, 543, 550, 557, 564, 571, 572, 575,
  576, 579, 580, 581, 582, 583, 586, 587, 588, 589, 590, 593, 594, 595, 596, 597, 600, 601, 602, 603, 604, 607, 608, 609, 610, 611, 614, 615, 616, 619,
  620, 621, 624, 625, 626, 627, 628, 631, 632, 633, 634, 635, 638, 639, 640, 643, 644, 645, 646, 647, 650, 651, 652, 655, 656, 657, 658, 659, 662, 663,
  664, 667, 668, 669, 220, 537, 542, 549, 556, 563, 570]
abbrev frY (g : Addr → Option Obj) : PySem.W.Frag := He.frT g asY
def obsY (fa : List He.Fa) (fn : List He.DefD) (ts : List He.Tab) (tf : List He.Defn) (ex : PySem.W.Frag → Bool) (g : Addr → Option Obj) : He.AlX := (He.obsT fa fn ts (frY g), ex (frY g) && He.tabsB g tf (frY g))
theorem saysY {fa : List He.Fa} {fn : List He.DefD} {ts : List He.Tab} {tf : List He.Defn} {ex : PySem.W.Frag → Bool} {w : World} {h : Heap} (e : obsY fa fn ts tf ex h.get? = He.valX fn ts w) : He.SaysX fa fn ts tf ex w h (frY h.get?) := by
  have hb : (ex (frY h.get?) && He.tabsB h.get? tf (frY h.get?)) = true := congrArg Prod.snd e
  have hx := He.ba hb
  have one : ∀ p ∈ tf, PySem.W.codeHdIn (frY h.get?) (He.cT (frY h.get?) p).1 (He.cT (frY h.get?) p).2 = true ∧ ∃ o, h.get? (He.cT (frY h.get?) p).2 = some o ∧ He.emptyTab o = true := by
    intro p hp
    have hq := He.ba (List.all_eq_true.mp hx.2 p hp)
    refine ⟨hq.1, ?_⟩
    cases hg : h.get? (He.cT (frY h.get?) p).2 with
    | none =>
      have z := hq.2
      rw [hg] at z
      cases z
    | some o =>
      have z := hq.2
      rw [hg] at z
      exact ⟨o, rfl, z⟩
  refine ⟨congrArg Prod.fst e, hx.1, fun p hp => (one p hp).1, fun p hp => ?_, fun p hp => ?_⟩
  · obtain ⟨_, o, h1, h2⟩ := one p hp
    exact He.frT_none h1 h2
  · obtain ⟨_, o, h1, h2⟩ := one p hp
    rw [h1, He.emptyTab_eq h2]
def hookY (fa : List He.Fa) (fn : List He.DefD) (ts : List He.Tab) (tf : List He.Defn) (ex : PySem.W.Frag → Bool) : PySem.W.Hook := { α := He.AlX, obs := fun z => obsY fa fn ts tf ex z.heap.get?, val := fun v => He.valX fn ts v, says := fun v z => ∃ K : PySem.W.Frag, K.In z ∧ He.SaysX fa fn ts tf ex v z K, of := fun _ _ q => ⟨_, He.frT_in, saysY q⟩, keeps := fun _ _ _ ⟨K, i, c⟩ k => ⟨K, PySem.W.Frag.In.keeps i k, ⟨c.t, c.more, c.hd, c.out, fun p hp => k _ _ (c.empty p hp)⟩⟩ }
theorem obsY_eq {fa : List He.Fa} {fn : List He.DefD} {ts : List He.Tab} {tf : List He.Defn} {ex : PySem.W.Frag → Bool} {g : Addr → Option Obj} {z : Shared} (h : ∀ a, g a = z.heap.get? a) : obsY fa fn ts tf ex g = (hookY fa fn ts tf ex).obs z := by
  rw [show g = z.heap.get? from funext h]
  rfl
/-! ### a run that looks at the top's end, and one that looks at the Hook's facts -/
theorem map_join {α β γ δ ζ : Type} {o : Option α} {f : α → β} {g : α → γ} {x : β} {y : γ} {a : α → δ} {z : α → ζ} {va : δ} {vz : ζ} (h1 : o.map (fun s => (f s, g s, a s)) = some (x, y, va)) (h2 : o.map z = some vz) : o.map (fun s => (f s, g s, z s)) = some (x, y, vz) := by
  cases o with
  | none => cases h1
  | some s =>
    have q1 : (f s, g s, a s) = (x, y, va) := Option.some.inj h1
    injection q1 with r1 r2
    injection r2 with r2 r3
    show some (f s, g s, z s) = some (x, y, vz)
    rw [r1, r2, Option.some.inj h2]
end EH

set_option Elab.async false
set_option linter.all false
set_option maxRecDepth 100000
set_option maxHeartbeats 0
/-! ### the head: facts by names, the run -/
namespace EH
open PySem PySem.Spec PyProof.Rows L2 LamX
def d_is_whole : He.DefD := ⟨("is_whole", none), "is_whole", "is_whole", defArgs (top 21), defBody (top 21), defScope (top 21), [], []⟩
def d_is_between : He.DefD := ⟨("is_between", none), "is_between", "is_between", defArgs (top 22), defBody (top 22), defScope (top 22), [], []⟩
def d_is_strip : He.DefD := ⟨("is_strip", none), "is_strip", "is_strip", defArgs (top 23), defBody (top 23), defScope (top 23), [], []⟩
def d_need_strip : He.DefD := ⟨("need_strip", none), "need_strip", "need_strip", defArgs (top 24), defBody (top 24), defScope (top 24), [], []⟩
def d_row_places : He.DefD := ⟨("row_places", none), "row_places", "row_places", defArgs (top 28), defBody (top 28), defScope (top 28), [], []⟩
def d_lying_rows : He.DefD := ⟨("lying_rows", none), "lying_rows", "lying_rows", defArgs (top 29), defBody (top 29), defScope (top 29), [], []⟩
def d_rows_through : He.DefD := ⟨("rows_through", none), "rows_through", "rows_through", defArgs (top 30), defBody (top 30), defScope (top 30), [], []⟩
def d_are_sizes : He.DefD := ⟨("are_sizes", none), "are_sizes", "are_sizes", defArgs (top 32), defBody (top 32), defScope (top 32), [], []⟩
def d_need_sizes : He.DefD := ⟨("need_sizes", none), "need_sizes", "need_sizes", defArgs (top 33), defBody (top 33), defScope (top 33), [], []⟩
def d_has_hue : He.DefD := ⟨("has_hue", none), "has_hue", "has_hue", defArgs (top 34), defBody (top 34), defScope (top 34), [], []⟩
def d_wrong_rows : He.DefD := ⟨("wrong_rows", none), "wrong_rows", "wrong_rows", defArgs (top 35), defBody (top 35), defScope (top 35), [], []⟩
def d_good_draft : He.DefD := ⟨("good_draft", none), "good_draft", "good_draft", defArgs (top 38), defBody (top 38), defScope (top 38), [], []⟩
def d_need_draft : He.DefD := ⟨("need_draft", none), "need_draft", "need_draft", defArgs (top 39), defBody (top 39), defScope (top 39), [], []⟩
def d_clean : He.DefD := ⟨("clean", none), "clean", "clean", defArgs (top 40), defBody (top 40), defScope (top 40), [], []⟩
def d_blanks : He.DefD := ⟨("blanks", none), "blanks", "blanks", defArgs (top 41), defBody (top 41), defScope (top 41), [], []⟩
def d_with_hue : He.DefD := ⟨("with_hue", none), "with_hue", "with_hue", defArgs (top 42), defBody (top 42), defScope (top 42), [], []⟩
def d_bars_at : He.DefD := ⟨("bars_at", none), "bars_at", "bars_at", defArgs (top 43), defBody (top 43), defScope (top 43), [], []⟩
def d_open_at : He.DefD := ⟨("open_at", none), "open_at", "open_at", defArgs (top 44), defBody (top 44), defScope (top 44), [], []⟩
def d_is_blank : He.DefD := ⟨("is_blank", none), "is_blank", "is_blank", defArgs (top 45), defBody (top 45), defScope (top 45), [], []⟩
def d_need_blank : He.DefD := ⟨("need_blank", none), "need_blank", "need_blank", defArgs (top 46), defBody (top 46), defScope (top 46), [], []⟩
def d_open_hues : He.DefD := ⟨("open_hues", none), "open_hues", "open_hues", defArgs (top 47), defBody (top 47), defScope (top 47), [], []⟩
def d_product_of : He.DefD := ⟨("product_of", none), "product_of", "product_of", defArgs (top 50), defBody (top 50), defScope (top 50), [], []⟩
def d_need_small : He.DefD := ⟨("need_small", none), "need_small", "need_small", defArgs (top 51), defBody (top 51), defScope (top 51), [], []⟩
def d_may_follow : He.DefD := ⟨("may_follow", none), "may_follow", "may_follow", defArgs (top 52), defBody (top 52), defScope (top 52), [], []⟩
def d_longer_ones : He.DefD := ⟨("longer_ones", none), "longer_ones", "longer_ones", defArgs (top 53), defBody (top 53), defScope (top 53), [], []⟩
def d_layers : He.DefD := ⟨("layers", none), "layers", "layers", defArgs (top 54), defBody (top 54), defScope (top 54), [], []⟩
def d_farthest : He.DefD := ⟨("farthest", none), "farthest", "farthest", defArgs (top 55), defBody (top 55), defScope (top 55), [], []⟩
def d_ways_to_put : He.DefD := ⟨("ways_to_put", none), "ways_to_put", "ways_to_put", defArgs (top 58), defBody (top 58), defScope (top 58), [], []⟩
def d_need_few : He.DefD := ⟨("need_few", none), "need_few", "need_few", defArgs (top 59), defBody (top 59), defScope (top 59), [], []⟩
def d_fillings_of : He.DefD := ⟨("fillings_of", none), "fillings_of", "fillings_of", defArgs (top 60), defBody (top 60), defScope (top 60), [], []⟩
def d_all_fillings : He.DefD := ⟨("all_fillings", none), "all_fillings", "all_fillings", defArgs (top 61), defBody (top 61), defScope (top 61), [], []⟩
def d_fillings_many : He.DefD := ⟨("fillings_many", none), "fillings_many", "fillings_many", defArgs (top 62), defBody (top 62), defScope (top 62), [], []⟩
def d_first_filling : He.DefD := ⟨("first_filling", none), "first_filling", "first_filling", defArgs (top 63), defBody (top 63), defScope (top 63), [], []⟩
def d_first_narrow : He.DefD := ⟨("first_narrow", none), "first_narrow", "first_narrow", defArgs (top 65), defBody (top 65), defScope (top 65), [], []⟩
def d_run_of : He.DefD := ⟨("run_of", none), "run_of", "run_of", defArgs (top 66), defBody (top 66), defScope (top 66), [], []⟩
def d_run : He.DefD := ⟨("run", none), "run", "run", defArgs (top 67), defBody (top 67), defScope (top 67), [], []⟩
def d_is_lot : He.DefD := ⟨("is_lot", none), "is_lot", "is_lot", defArgs (top 70), defBody (top 70), defScope (top 70), [], []⟩
def d_need_lot : He.DefD := ⟨("need_lot", none), "need_lot", "need_lot", defArgs (top 71), defBody (top 71), defScope (top 71), [], []⟩
def d_strip_text : He.DefD := ⟨("strip_text", none), "strip_text", "strip_text", defArgs (top 77), defBody (top 77), defScope (top 77), [], []⟩
def d_draft_text : He.DefD := ⟨("draft_text", none), "draft_text", "draft_text", defArgs (top 78), defBody (top 78), defScope (top 78), [], []⟩
def d_numbers_text : He.DefD := ⟨("numbers_text", none), "numbers_text", "numbers_text", defArgs (top 79), defBody (top 79), defScope (top 79), [], []⟩
def d_sizes_text : He.DefD := ⟨("sizes_text", none), "sizes_text", "sizes_text", defArgs (top 80), defBody (top 80), defScope (top 80), [], []⟩
def d_lot_text : He.DefD := ⟨("lot_text", none), "lot_text", "lot_text", defArgs (top 81), defBody (top 81), defScope (top 81), [], []⟩
def d_hues_in : He.DefD := ⟨("hues_in", none), "hues_in", "hues_in", defArgs (top 82), defBody (top 82), defScope (top 82), [], []⟩
def d_draft_read : He.DefD := ⟨("draft_read", none), "draft_read", "draft_read", defArgs (top 83), defBody (top 83), defScope (top 83), [], []⟩
def d_number_in : He.DefD := ⟨("number_in", none), "number_in", "number_in", defArgs (top 84), defBody (top 84), defScope (top 84), [], []⟩
def d_numbers_in : He.DefD := ⟨("numbers_in", none), "numbers_in", "numbers_in", defArgs (top 85), defBody (top 85), defScope (top 85), [], []⟩
def d_sizes_read : He.DefD := ⟨("sizes_read", none), "sizes_read", "sizes_read", defArgs (top 86), defBody (top 86), defScope (top 86), [], []⟩
def d_law_cell_at : He.DefD := ⟨("_law_cell_at", none), "_law_cell_at", "_law_cell_at", defArgs (top 92), defBody (top 92), defScope (top 92), [], []⟩
def d_law_pen : He.DefD := ⟨("_law_pen", none), "_law_pen", "_law_pen", defArgs (top 93), defBody (top 93), defScope (top 93), [], []⟩
def d_law_draw : He.DefD := ⟨("_law_draw", none), "_law_draw", "_law_draw", defArgs (top 94), defBody (top 94), defScope (top 94), [], []⟩
def d_law_kind : He.DefD := ⟨("_law_kind", none), "_law_kind", "_law_kind", defArgs (top 95), defBody (top 95), defScope (top 95), [], []⟩
def d_law_got : He.DefD := ⟨("_law_got", none), "_law_got", "_law_got", defArgs (top 96), defBody (top 96), defScope (top 96), [], []⟩
def d_law_hues_text : He.DefD := ⟨("_law_hues_text", none), "_law_hues_text", "_law_hues_text", defArgs (top 97), defBody (top 97), defScope (top 97), [], []⟩
def d_law_numbers_text : He.DefD := ⟨("_law_numbers_text", none), "_law_numbers_text", "_law_numbers_text", defArgs (top 98), defBody (top 98), defScope (top 98), [], []⟩
def d_law_sizes : He.DefD := ⟨("_law_sizes", none), "_law_sizes", "_law_sizes", defArgs (top 99), defBody (top 99), defScope (top 99), [], []⟩
def d_law_shown : He.DefD := ⟨("_law_shown", none), "_law_shown", "_law_shown", defArgs (top 100), defBody (top 100), defScope (top 100), [], []⟩
def d_law_begun : He.DefD := ⟨("_law_begun", none), "_law_begun", "_law_begun", defArgs (top 101), defBody (top 101), defScope (top 101), [], []⟩
def d_law_answers : He.DefD := ⟨("_law_answers", none), "_law_answers", "_law_answers", defArgs (top 103), defBody (top 103), defScope (top 103), [], []⟩
def d_law_another : He.DefD := ⟨("_law_another", none), "_law_another", "_law_another", defArgs (top 104), defBody (top 104), defScope (top 104), [], []⟩
def d_law_filled : He.DefD := ⟨("_law_filled", none), "_law_filled", "_law_filled", defArgs (top 105), defBody (top 105), defScope (top 105), [], []⟩
def d_law : He.DefD := ⟨("law", none), "law", "law", defArgs (top 106), defBody (top 106), defScope (top 106), [], []⟩
def m_init : He.DefD := ⟨("Desk", some "__init__"), "__init__", "Desk.__init__", defArgs (inClass (top 90) 0), defBody (inClass (top 90) 0), defScope (inClass (top 90) 0), [], []⟩
def m_say : He.DefD := ⟨("Desk", some "say"), "say", "Desk.say", defArgs (inClass (top 90) 1), defBody (inClass (top 90) 1), defScope (inClass (top 90) 1), [], []⟩
def m_put : He.DefD := ⟨("Desk", some "put"), "put", "Desk.put", defArgs (inClass (top 90) 2), defBody (inClass (top 90) 2), defScope (inClass (top 90) 2), [], []⟩
def m_deed : He.DefD := ⟨("Desk", some "deed"), "deed", "Desk.deed", defArgs (inClass (top 90) 3), defBody (inClass (top 90) 3), defScope (inClass (top 90) 3), [], []⟩
def m_plain : He.DefD := ⟨("Desk", some "plain"), "plain", "Desk.plain", defArgs (inClass (top 90) 4), defBody (inClass (top 90) 4), defScope (inClass (top 90) 4), [], []⟩
def m_asked : He.DefD := ⟨("Desk", some "asked"), "asked", "Desk.asked", defArgs (inClass (top 90) 5), defBody (inClass (top 90) 5), defScope (inClass (top 90) 5), [], []⟩
def m_great : He.DefD := ⟨("TooGreat", some "__init__"), "__init__", "TooGreat.__init__", defArgs (inClass (top 17) 0), defBody (inClass (top 17) 0), defScope (inClass (top 17) 0), [], []⟩
def fn0 : List He.DefD := [d_is_whole, d_is_between, d_is_strip, d_need_strip, d_row_places, d_lying_rows, d_rows_through, d_are_sizes, d_need_sizes, d_has_hue, d_wrong_rows, d_good_draft, d_need_draft, d_clean, d_blanks, d_with_hue, d_bars_at, d_open_at, d_is_blank, d_need_blank, d_open_hues, d_product_of, d_need_small, d_may_follow, d_longer_ones]
def fn1 : List He.DefD := [d_layers, d_farthest, d_ways_to_put, d_need_few, d_fillings_of, d_all_fillings, d_fillings_many, d_first_filling, d_first_narrow, d_run_of, d_run, d_is_lot, d_need_lot, d_strip_text, d_draft_text, d_numbers_text, d_sizes_text, d_lot_text, d_hues_in, d_draft_read, d_number_in, d_numbers_in, d_sizes_read, d_law_cell_at, d_law_pen]
def fn2 : List He.DefD := [d_law_draw, d_law_kind, d_law_got, d_law_hues_text, d_law_numbers_text, d_law_sizes, d_law_shown, d_law_begun, d_law_answers, d_law_another, d_law_filled, d_law, m_init, m_say, m_put, m_deed, m_plain, m_asked, m_great]
def fn : List He.DefD := fn0 ++ fn1 ++ fn2
def fa0 : List He.Fa := [.free "int", .free "bool", .free "tuple", .free "str", .free "len", .free "range", .free "all", .free "isinstance", .free "sorted", .free "enumerate", .free "max", .free "min", .free "zip", .free "ValueError", .int "MOST_PLACES" (40), .int "HUES" (4), .int "LEAST_SIZE" (2), .int "MOST_SIZE" (8), .int "BLANK" (-1), .int "MOST_PRODUCT" (12), .int "MOST_WAYS" (512), .int "MOST_PLACE" (39), .int "MOST_FIGURES" (30), .str "FIGURES" "0123456789", .str "SIGNS" "0123."]
def fa1 : List He.Fa := [.str "EMPTY" "none", .glo "is_whole", .glo "is_between", .glo "is_strip", .glo "need_strip", .glo "row_places", .glo "lying_rows", .glo "rows_through", .glo "are_sizes", .glo "need_sizes", .glo "has_hue", .glo "wrong_rows", .glo "good_draft", .glo "need_draft", .glo "clean", .glo "blanks", .glo "with_hue", .glo "bars_at", .glo "open_at", .glo "is_blank", .glo "need_blank", .glo "open_hues", .glo "product_of", .glo "need_small", .glo "may_follow"]
def fa2 : List He.Fa := [.glo "longer_ones", .glo "layers", .glo "farthest", .glo "ways_to_put", .glo "need_few", .glo "fillings_of", .glo "all_fillings", .glo "fillings_many", .glo "first_filling", .glo "first_narrow", .glo "run_of", .glo "run", .glo "is_lot", .glo "need_lot", .glo "strip_text", .glo "draft_text", .glo "numbers_text", .glo "sizes_text", .glo "lot_text", .glo "hues_in", .glo "draft_read", .glo "number_in", .glo "numbers_in", .glo "sizes_read", .glo "_law_cell_at"]
def fa3 : List He.Fa := [.glo "_law_pen", .glo "_law_draw", .glo "_law_kind", .glo "_law_got", .glo "_law_hues_text", .glo "_law_numbers_text", .glo "_law_sizes", .glo "_law_shown", .glo "_law_begun", .glo "_law_answers", .glo "_law_another", .glo "_law_filled", .glo "law", .glo "NoStrip", .glo "NoSizes", .glo "NoNumber", .glo "NoPlace", .glo "NoHue", .glo "NoDraft", .glo "NoPaper", .glo "NoFit", .glo "TooGreat", .glo "NoLot", .glo "NoRing", .glo "NoRound"]
def fa4 : List He.Fa := [.glo "NoStand", .glo "NoText", .glo "NoDeed", .glo "NoLine", .glo "HueError", .glo "Desk", .glo "PLAIN", .glo "SORTS", .cls "Desk", .noat "Desk" "kept", .mkr "Desk", .noat "TooGreat" "many", .noat "TooGreat" "most", .exc "NoPlace", .exc "NoDeed", .meth "Desk" "__init__", .meth "Desk" "say", .meth "Desk" "put", .meth "Desk" "deed", .meth "Desk" "plain", .meth "Desk" "asked", .exm "NoPlace" "HueError" true, .exm "NoDeed" "HueError" true, .exm "TooGreat" "HueError" true]
def fa : List He.Fa := fa0 ++ fa1 ++ fa2 ++ fa3 ++ fa4
def tf : List He.Defn := [("_law_shown", none), ("_law_begun", none), ("_law_answers", none), ("_law_filled", none), ("law", none)]
def tsD : List He.Tab := [(fun K => He.ga K "SORTS", ["more", "put", "clear", "open"])]
/-- an error class with its own __init__ -/
def oexB (K : PySem.W.Frag) (C : Addr) : Bool := match K.lookup C with
  | some ⟨.type t, _, .cls cd, sl⟩ => decide (t = "type") && (match cd.mro, sl.toList with
    | .ref C' :: bm, [_, _, _, _, some (.builtin n), _] => C' == C && (n == "ValueError.__new__" && (!cd.hasDel && (cd.hasDict && PySem.HandSPX.refsVE bm)))
    | _, _ => false)
  | _ => false
def hueB (K : PySem.W.Frag) : Bool := decide (PySem.W.specialIn K (.ref (He.ga K "HueError")) "__getattribute__" = some (some (.builtin "type.__getattribute__"))) && (PySem.W.readsIn K (He.ga K "HueError") (.type "type") && (match PySem.W.findCls K (.ref (He.ga K "HueError")) (.type "type") "__init__" with
  | some (.val (.builtin s)) => decide (s = "ValueError.__init__")
  | _ => false))
def greatB (K : PySem.W.Frag) : Bool := oexB K (He.ga K "TooGreat") && (decide (PySem.W.findIn K (.ref (He.ga K "TooGreat")) "__setattr__" = some (some (.builtin "object.__setattr__"))) && (decide (PySem.W.subIn K (.ref (He.ga K "TooGreat")) (.type "BaseException") = some true) && (decide (PySem.W.typeIn K (.ref (He.ga K "TooGreat")) = some (.type "type")) && (PySem.W.keepIn K (.ref (He.ga K "TooGreat")) &&
  (decide (PySem.W.findIn K (.ref (He.ga K "TooGreat")) "__init__" = some (some (.ref (He.fAd K ("TooGreat", some "__init__"))))) && decide (PySem.W.typeIn K (.ref (He.fAd K ("TooGreat", some "__init__"))) = some (.type "function")))))))
def errB (K : PySem.W.Frag) (C : Addr) : Bool := (PySem.W.clsIn K C).isSome && (decide (PySem.W.findIn K (.ref C) "__getattribute__" = some (some (.builtin "BaseException.__getattribute__"))) && ((PySem.W.findIn K (.ref C) "__getattr__").isSome && (decide (PySem.W.subIn K (.ref C) (.type "BaseException") = some true) && (decide (PySem.W.findIn K (.ref C) "__class__" = some (some (.builtin "object.__class__"))) &&
  (decide (PySem.W.specialIn K (.builtin "object.__class__") "__get__" = some (some (.builtin "getset_descriptor.__get__"))) && (decide (PySem.W.takesIn K (.builtin "object.__class__") = some true) && decide (PySem.W.mroIn K C (.type "object") = some true)))))))
def kitY (K : PySem.W.Frag) (nm : Str) : Bool := errB K (He.ga K nm) && (kinds.all (fun x => decide (PySem.W.kitOne K (.ref (He.ga K nm)) (.ref (He.ga K x)) = some (decide (x = nm)))) && decide (PySem.W.kitOne K (.ref (He.ga K nm)) (.type "ValueError") = some true))
def sortW : List (Str × He.Dv) := [("more", .int 1), ("clear", .int 1), ("open", .int 1), ("put", .int 2)]
def noneW : List Str := ["run", "back", "draft", "sizes", "clean", "stuck", "fillings", "first", "far"]
def exA (K : PySem.W.Frag) : Bool := He.tupB K "PLAIN" (plainW.map He.Dv.str) && (He.valsB K (He.ga K "SORTS") sortW && (noneW.all (fun z => He.eqO (PySem.W.nsIn K (He.ga K "SORTS") z) (some none)) && tf.all fun p => tf.all fun q => !((He.cT K p).2 == (He.cT K q).2) || p.1 == q.1))
def exB (K : PySem.W.Frag) : Bool := hueB K && (greatB K && errs.all (kitY K))
def ex (K : PySem.W.Frag) : Bool := exA K && exB K
abbrev R0 : PySem.W.OpenRow := PySem.W.OpenLaw.row PySem.Challenge.rw_evenhues_k94_whole_desk
abbrev qv : Program := PySem.W.view R0.prog [106]
def nm0 : List PySem.Str := ["HueError", "NoStrip", "NoSizes", "NoNumber", "NoPlace", "NoHue", "NoDraft", "NoPaper", "NoFit", "NoLot", "NoRing", "NoRound", "NoStand", "NoText", "NoDeed", "NoLine", "TooGreat", "MOST_PLACES", "HUES", "is_whole", "is_between", "is_strip", "need_strip", "LEAST_SIZE", "MOST_SIZE", "row_places", "lying_rows", "rows_through", "are_sizes", "need_sizes"]
def nm1 : List PySem.Str := ["has_hue", "wrong_rows", "BLANK", "good_draft", "need_draft", "clean", "blanks", "with_hue", "bars_at", "open_at", "is_blank", "need_blank", "open_hues", "MOST_PRODUCT", "product_of", "need_small", "may_follow", "longer_ones", "layers", "farthest", "MOST_WAYS", "ways_to_put", "need_few", "fillings_of", "all_fillings", "fillings_many", "first_filling", "first_narrow", "run_of", "run"]
def nm2 : List PySem.Str := ["MOST_PLACE", "is_lot", "need_lot", "FIGURES", "SIGNS", "MOST_FIGURES", "EMPTY", "strip_text", "draft_text", "numbers_text", "sizes_text", "lot_text", "hues_in", "draft_read", "number_in", "numbers_in", "sizes_read", "SORTS", "PLAIN", "Desk", "_law_cell_at", "_law_pen", "_law_draw", "_law_kind", "_law_got", "_law_hues_text", "_law_numbers_text", "_law_sizes", "_law_shown", "_law_begun"]
def nm3 : List PySem.Str := ["_law_stays", "_law_answers", "_law_another", "_law_filled"]
def looseN : List PySem.Str := nm0 ++ nm1 ++ nm2 ++ nm3
end EH

set_option Elab.async false
set_option linter.all false
set_option maxRecDepth 100000
set_option maxHeartbeats 0
namespace EH
open PySem PySem.Spec PyProof.Rows L2 LamX
abbrev hk : PySem.W.Hook := hookY fa fn tsD tf ex
def ob (s : PySem.W.SharedT) : He.AlX := obsY fa fn tsD tf ex (HandSHeadRun.getT s)
theorem ob_eq (s : PySem.W.SharedT) : ob s = hk.obs s.abs := obsY_eq (HandSHeadRun.getT_eq s)
/-- the run comes to its end, and its looks hold; nothing is asked of the facts -/
abbrev RunA (w : World) : Prop := HandSHeadRun.RunEq R0 qv (hookY [] [] [] [] (fun _ => true)) (fun s => obsY [] [] [] [] (fun _ => true) (HandSHeadRun.getT s)) 6200 looseN w
/-- the facts behind the run -/
abbrev RunB (w : World) : Prop := ∀ os : OsState, (HandSHeadRun.endF (HandSHeadRun.stepQ (HandSHeadRun.denQ HandSHeadRun.tabQ) R0.prog w) 6200 R0.prog w os).map ob = some (He.valX fn tsD w)
theorem hrunAF (w : World) : RunA (w.withFollow "special-get-raises" false) := by
  intro os
  kernel_rfl
theorem hrunAT (w : World) : RunA (w.withFollow "special-get-raises" true) := by
  intro os
  kernel_rfl
theorem hrunBF (w : World) : RunB (w.withFollow "special-get-raises" false) := by
  intro os
  kernel_rfl
theorem hrunBT (w : World) : RunB (w.withFollow "special-get-raises" true) := by
  intro os
  kernel_rfl
theorem hrunA (w : World) : RunA w := PySem.W.byRow2 "special-get-raises" hrunAF hrunAT w
theorem hrunB (w : World) : RunB w := PySem.W.byRow2 "special-get-raises" hrunBF hrunBT w
theorem run (w : World) : HandSHeadRun.RunEq R0 qv hk ob 6200 looseN w := fun os => map_join (hrunA w os) (hrunB w os)
end EH

set_option Elab.async false
set_option linter.all false
set_option maxRecDepth 100000
set_option maxHeartbeats 4000000
/-! Framework: data by value over the hand layer. -/
namespace EH
open PySem PySem.Spec PyProof.Rows L2 Evl
/-! ### data in the abstract heap -/
mutual
inductive Dp (K : PySem.W.Frag) (H : Hp) : V → PyData → Prop
  | non : Dp K H .non .none
  | bl (b : Bool) : Dp K H (.bl b) (.bool b)
  | int (i : Int) : Dp K H (.int i) (.int i)
  | str (x : Str) : Dp K H (.str x) (.str x)
  | lst {a : Addr} {vs : List V} {es : List PyData} : H a = some (.lst vs) → DpAll K H vs es → Dp K H (.ref a) (.list es)
  | tup {a : Addr} {vs : List V} {es : List PyData} : H a = some (.tup vs) → DpAll K H vs es → Dp K H (.ref a) (.tuple es)
inductive DpAll (K : PySem.W.Frag) (H : Hp) : List V → List PyData → Prop
  | nil : DpAll K H [] []
  | cons {v : V} {vs : List V} {e : PyData} {es : List PyData} : Dp K H v e → DpAll K H vs es → DpAll K H (v :: vs) (e :: es)
end
mutual
theorem Dp.old {K : PySem.W.Frag} {H : Hp} : ∀ {d : PyData} {v : V}, Dp K H v d → L2.Dp K H v d
  | _, _, .non => .non
  | _, _, .bl b => .bl b
  | _, _, .int i => .int i
  | _, _, .str x => .str x
  | _, _, .lst hs ha => .lst (sq_of hs) (DpAll.old ha)
  | _, _, .tup hs ha => .tup (st_of hs) (DpAll.old ha)
theorem DpAll.old {K : PySem.W.Frag} {H : Hp} : ∀ {ds : List PyData} {vs : List V}, DpAll K H vs ds → L2.DpAll K H vs ds
  | _, _, .nil => .nil
  | _, _, .cons h t => .cons (Dp.old h) (DpAll.old t)
end
mutual
theorem dpx {K : PySem.W.Frag} {H H' : Hp} (e : Ex H H') : ∀ {d : PyData} {v : V}, Dp K H v d → Dp K H' v d
  | _, _, .non => .non
  | _, _, .bl b => .bl b
  | _, _, .int i => .int i
  | _, _, .str x => .str x
  | _, _, .lst hs ha => .lst (e _ _ hs) (dpxs e ha)
  | _, _, .tup hs ha => .tup (e _ _ hs) (dpxs e ha)
theorem dpxs {K : PySem.W.Frag} {H H' : Hp} (e : Ex H H') : ∀ {ds : List PyData} {vs : List V}, DpAll K H vs ds → DpAll K H' vs ds
  | _, _, .nil => .nil
  | _, _, .cons h t => .cons (dpx e h) (dpxs e t)
end
mutual
def flat : PyData → Bool
  | .none | .bool _ | .int _ | .str _ => true
  | .tuple xs => flats xs
  | .list _ => false
  | .dict _ => false
def flats : List PyData → Bool
  | [] => true
  | x :: xs => flat x && flats xs
end
theorem flats_append : ∀ (a b : List PyData), flats (a ++ b) = (flats a && flats b)
  | [], b => by simp [flats]
  | x :: xs, b => by simp [flats, flats_append xs b, Bool.and_assoc]
mutual
theorem dpu {K : PySem.W.Frag} {H : Hp} {p : Addr} {xs ys : List V} (hp : H p = some (.lst xs)) : ∀ {d : PyData} {v : V}, flat d = true → Dp K H v d → Dp K (upd H p (.lst ys)) v d
  | _, _, _, .non => .non
  | _, _, _, .bl b => .bl b
  | _, _, _, .int i => .int i
  | _, _, _, .str x => .str x
  | _, _, f, .lst hs ha => by simp [flat] at f
  | _, _, f, .tup hs ha => by
    refine .tup ?_ (dpus hp (by simpa [flat] using f) ha)
    rw [upd_ne (ne_of hs hp (by intro z; cases z))]
    exact hs
theorem dpus {K : PySem.W.Frag} {H : Hp} {p : Addr} {xs ys : List V} (hp : H p = some (.lst xs)) : ∀ {ds : List PyData} {vs : List V}, flats ds = true → DpAll K H vs ds → DpAll K (upd H p (.lst ys)) vs ds
  | _, _, _, .nil => .nil
  | _, _, f, .cons h t => by
    simp only [flats, Bool.and_eq_true] at f
    exact .cons (dpu hp f.1 h) (dpus hp f.2 t)
end
section
variable {K : PySem.W.Frag} {H H1 H2 : Hp} {v : V} {vs ws : List V} {ds es : List PyData}
theorem dpa_len : ∀ {vs : List V} {ds : List PyData}, DpAll K H vs ds → vs.length = ds.length
  | _, _, .nil => rfl
  | _, _, .cons _ t => by simp [dpa_len t]
theorem dpa_app : ∀ {vs ws : List V} {ds es : List PyData}, DpAll K H vs ds → DpAll K H ws es → DpAll K H (vs ++ ws) (ds ++ es)
  | _, _, _, _, .nil, s => s
  | _, _, _, _, .cons h t, s => .cons h (dpa_app t s)
theorem dpa_one (h : Dp K H v d) : DpAll K H [v] [d] := .cons h .nil
theorem dpa_get : ∀ {vs : List V} {ds : List PyData} {i : Nat} {d : PyData}, DpAll K H vs ds → ds[i]? = some d → ∃ v, vs[i]? = some v ∧ Dp K H v d
  | _, _, i, d, .nil, e => by simp at e
  | _, _, 0, d, .cons h t, e => by simp at e; subst e; exact ⟨_, rfl, h⟩
  | _, _, i + 1, d, .cons h t, e => by
    obtain ⟨w, h1, h2⟩ := dpa_get (i := i) (d := d) t (by simpa using e)
    exact ⟨w, by simpa using h1, h2⟩
theorem dpa_getV : ∀ {vs : List V} {ds : List PyData} {i : Nat} {v : V}, DpAll K H vs ds → vs[i]? = some v → ∃ d, ds[i]? = some d ∧ Dp K H v d
  | _, _, i, d, .nil, e => by simp at e
  | _, _, 0, d, .cons h t, e => by simp at e; subst e; exact ⟨_, rfl, h⟩
  | _, _, i + 1, d, .cons h t, e => by
    obtain ⟨w, h1, h2⟩ := dpa_getV (i := i) (v := d) t (by simpa using e)
    exact ⟨w, by simpa using h1, h2⟩
theorem dpa_take : ∀ (n : Nat) {vs : List V} {ds : List PyData}, DpAll K H vs ds → DpAll K H (vs.take n) (ds.take n)
  | 0, _, _, _ => by simp; exact .nil
  | n + 1, _, _, .nil => by simp; exact .nil
  | n + 1, _, _, .cons h t => by simp; exact .cons h (dpa_take n t)
theorem dpa_drop : ∀ (n : Nat) {vs : List V} {ds : List PyData}, DpAll K H vs ds → DpAll K H (vs.drop n) (ds.drop n)
  | 0, _, _, h => by simpa using h
  | n + 1, _, _, .nil => by simp; exact .nil
  | n + 1, _, _, .cons h t => by simp; exact dpa_drop n t
theorem dpa_int (ns : List Int) : DpAll K H (ns.map V.int) (ns.map PyData.int) := by
  induction ns with
  | nil => exact .nil
  | cons a r ih => exact .cons (.int a) ih
theorem dpa_str (ns : List Str) : DpAll K H (ns.map V.str) (ns.map PyData.str) := by
  induction ns with
  | nil => exact .nil
  | cons a r ih => exact .cons (.str a) ih
theorem dpa_bl (ns : List Bool) : DpAll K H (ns.map V.bl) (ns.map PyData.bool) := by
  induction ns with
  | nil => exact .nil
  | cons a r ih => exact .cons (.bl a) ih
theorem dp_int {i : Int} (h : Dp K H v (.int i)) : v = .int i := by cases h; rfl
theorem dp_str {i : Str} (h : Dp K H v (.str i)) : v = .str i := by cases h; rfl
theorem dp_bl {i : Bool} (h : Dp K H v (.bool i)) : v = .bl i := by cases h; rfl
theorem dp_non (h : Dp K H v .none) : v = .non := by cases h; rfl
theorem dp_tup (h : Dp K H v (.tuple ds)) : ∃ a xs, v = .ref a ∧ SqT K H a xs ∧ DpAll K H xs ds := by cases h with | tup a b => exact ⟨_, _, rfl, st_of a, b⟩
theorem dp_lst (h : Dp K H v (.list ds)) : ∃ a xs, v = .ref a ∧ SqL K H a xs ∧ DpAll K H xs ds := by cases h with | lst a b => exact ⟨_, _, rfl, sq_of a, b⟩
theorem dp_tupR (h : Dp K H v (.tuple ds)) : ∃ a xs, v = .ref a ∧ H a = some (.tup xs) ∧ DpAll K H xs ds := by cases h with | tup a b => exact ⟨_, _, rfl, a, b⟩
theorem dp_lstR (h : Dp K H v (.list ds)) : ∃ a xs, v = .ref a ∧ H a = some (.lst xs) ∧ DpAll K H xs ds := by cases h with | lst a b => exact ⟨_, _, rfl, a, b⟩
theorem dpa_ints : ∀ {vs : List V} {ns : List Int}, DpAll K H vs (ns.map PyData.int) → vs = ns.map V.int
  | vs, [], h => by cases h; rfl
  | vs, a :: r, h => by
    cases h with
    | cons h t => rw [dp_int h, dpa_ints t]; rfl
theorem dpa_strs : ∀ {vs : List V} {ns : List Str}, DpAll K H vs (ns.map PyData.str) → vs = ns.map V.str
  | vs, [], h => by cases h; rfl
  | vs, a :: r, h => by
    cases h with
    | cons h t => rw [dp_str h, dpa_strs t]; rfl
theorem dpa_bls : ∀ {vs : List V} {ns : List Bool}, DpAll K H vs (ns.map PyData.bool) → vs = ns.map V.bl
  | vs, [], h => by cases h; rfl
  | vs, a :: r, h => by
    cases h with
    | cons h t => rw [dp_bl h, dpa_bls t]; rfl
end
/-- behind H, at H': a value's data; a list is new -/
def New (K : PySem.W.Frag) (H H' : Hp) (v : V) : PyData → Prop
  | .list ds => ∃ q xs, v = .ref q ∧ H q = none ∧ H' q = some (.lst xs) ∧ DpAll K H' xs ds
  | d => Dp K H' v d
theorem New.dp {K : PySem.W.Frag} {H H' : Hp} {v : V} : ∀ {d : PyData}, New K H H' v d → Dp K H' v d
  | .none, h => h
  | .bool _, h => h
  | .int _, h => h
  | .str _, h => h
  | .tuple _, h => h
  | .dict _, h => h
  | .list ds, h => by
    obtain ⟨q, xs, rfl, _, h2, h3⟩ := (show ∃ q xs, v = .ref q ∧ H q = none ∧ H' q = some (.lst xs) ∧ DpAll K H' xs ds from h)
    exact .lst h2 h3
theorem New.of {K : PySem.W.Frag} {H H' : Hp} {v : V} : ∀ {d : PyData}, flat d = true → Dp K H' v d → New K H H' v d
  | .none, _, h => h
  | .bool _, _, h => h
  | .int _, _, h => h
  | .str _, _, h => h
  | .tuple _, _, h => h
  | .dict _, _, h => h
  | .list ds, f, h => by simp [flat] at f
theorem New.back {K : PySem.W.Frag} {H0 H H' : Hp} {v : V} (e : Ex H0 H) : ∀ {d : PyData}, New K H H' v d → New K H0 H' v d
  | .none, h => h
  | .bool _, h => h
  | .int _, h => h
  | .str _, h => h
  | .tuple _, h => h
  | .dict _, h => h
  | .list ds, h => by
    obtain ⟨q, xs, rfl, h1, h2, h3⟩ := (show ∃ q xs, v = .ref q ∧ H q = none ∧ H' q = some (.lst xs) ∧ DpAll K H' xs ds from h)
    exact ⟨q, xs, rfl, fresh_back e h1, h2, h3⟩
abbrev rLn (K : PySem.W.Frag) : List V → Hp → VK → Prop := fun xs H Q => ∃ x n, xs = [x] ∧ LenV K x H n ∧ Q (.int n) H
abbrev rTp (K : PySem.W.Frag) : List V → Hp → VK → Prop := fun xs H Q => ∃ p ys, xs = [.ref p] ∧ ((SqL K H p ys ∧ ∀ l, H l = none → Q (.ref l) (upd H l (.tup ys))) ∨ (SqT K H p ys ∧ Q (.ref p) H))
/-! ### evaluation to data -/
def EvD (K : PySem.W.Frag) (te : TE) (σ : L2.St) (H : Hp) (d : PyData) : Prop := ∀ H1, Ex H H1 → ∀ Q : VK, (∀ v H2, Ex H1 H2 → Dp K H2 v d → Q v H2) → te σ H1 Q
def EvN (K : PySem.W.Frag) (te : TE) (σ : L2.St) (H : Hp) (d : PyData) : Prop := ∀ H1, Ex H H1 → ∀ Q : VK, (∀ v H2, Ex H1 H2 → New K H1 H2 v d → Q v H2) → te σ H1 Q
def EvDA (K : PySem.W.Frag) (ta : TA) (σ : L2.St) (H : Hp) (ds : List PyData) : Prop := ∀ H1, Ex H H1 → ∀ Q : List V → Hp → Prop, (∀ vs H2, Ex H1 H2 → DpAll K H2 vs ds → Q vs H2) → ta σ H1 Q
/-- an operation on data -/
def RvD (K : PySem.W.Frag) (r : R2) (a b c : PyData) : Prop := ∀ (H : Hp) (x y : V), Dp K H x a → Dp K H y b → ∀ Q : VK, (∀ v H2, Ex H H2 → Dp K H2 v c → Q v H2) → r x y H Q
/-- a call of a built-in on data -/
def RcD (K : PySem.W.Frag) (r : List V → Hp → VK → Prop) (as : List PyData) (c : PyData) : Prop := ∀ (H : Hp) (xs : List V), DpAll K H xs as → ∀ Q : VK, (∀ v H2, Ex H H2 → New K H H2 v c → Q v H2) → r xs H Q
/-- a pure def's promise: on data told by R it gives data -/
def spD (K : PySem.W.Frag) (R : List PyData → PyData → Prop) : Sp := fun vs H Q _ => ∃ ds d, DpAll K H vs ds ∧ R ds d ∧ ∀ v H', Ex H H' → New K H H' v d → Q v H'
section
variable {K : PySem.W.Frag} {σ : L2.St} {H H' : Hp} {ta tb tc te : TE} {t u : TT} {a b c d : PyData} {v : V}
theorem EvN.toD (h : EvN K te σ H d) : EvD K te σ H d := fun H1 e Q q => h H1 e Q fun v H2 e2 n => q v H2 e2 n.dp
theorem EvD.toN (h : EvD K te σ H d) (f : flat d = true := by rfl) : EvN K te σ H d := fun H1 e Q q => h H1 e Q fun v H2 e2 n => q v H2 e2 (.of f n)
theorem EvD.mono (e : Ex H H') (h : EvD K te σ H d) : EvD K te σ H' d := fun H1 a Q q => h H1 (e.trans a) Q q
theorem EvN.mono (e : Ex H H') (h : EvN K te σ H d) : EvN K te σ H' d := fun H1 a Q q => h H1 (e.trans a) Q q
theorem EvD.eq (h : EvD K te σ H d) (e : d = c) : EvD K te σ H c := e ▸ h
theorem EvN.eq (h : EvN K te σ H d) (e : d = c) : EvN K te σ H c := e ▸ h
theorem ed_var {i : Nat} (hd : Dp K H v d) (h : σ[i]? = some (some v) := by rfl) : EvD K (tVar i) σ H d := fun H1 e _ q => ⟨v, h, q v H1 (Ex.refl H1) (dpx e hd)⟩
theorem ed_c (hd : Dp K H v d) : EvD K (tC v) σ H d := fun H1 e _ q => q v H1 (Ex.refl H1) (dpx e hd)
theorem ed_int {i : Int} : EvD K (tC (.int i)) σ H (.int i) := ed_c (.int i)
theorem ed_str {i : Str} : EvD K (tC (.str i)) σ H (.str i) := ed_c (.str i)
theorem ed_bl {i : Bool} : EvD K (tC (.bl i)) σ H (.bool i) := ed_c (.bl i)
theorem ed_non : EvD K (tC .non) σ H .none := ed_c .non
theorem ed_op {r : R2} (ha : EvD K ta σ H a) (hb : EvD K tb σ H b) (hr : RvD K r a b c) : EvD K (tOp r ta tb) σ H c := fun H1 e Q q =>
  ha H1 e _ fun x H2 e2 dx => hb H2 (e.trans e2) _ fun y H3 e3 dy => hr H3 x y (dpx e3 dx) dy Q fun v H4 e4 dv => q v H4 ((e2.trans e3).trans e4) dv
theorem eda_nil : EvDA K tNil σ H [] := fun H1 _ _ q => q [] H1 (Ex.refl H1) .nil
theorem eda_cons {tr : TA} {ds : List PyData} (h : EvD K te σ H d) (hr : EvDA K tr σ H ds) : EvDA K (tCons te tr) σ H (d :: ds) := fun H1 e _ q =>
  h H1 e _ fun x H2 e2 dx => hr H2 (e.trans e2) _ fun xs H3 e3 dxs => q (x :: xs) H3 (e2.trans e3) (.cons (dpx e3 dx) dxs)
theorem en_cb {r : List V → Hp → VK → Prop} {ta : TA} {ds : List PyData} (h : EvDA K ta σ H ds) (hr : RcD K r ds c) : EvN K (tCB r ta) σ H c := fun H1 e Q q =>
  h H1 e _ fun xs H2 e2 dxs => hr H2 xs dxs Q fun v H3 e3 dv => q v H3 (e2.trans e3) (dv.back e2)
theorem en_call {R : List PyData → PyData → Prop} {E : XK} {ta : TA} {ds : List PyData} (h : EvDA K ta σ H ds) (hR : R ds d) : EvN K (tCall (spD K R) [] E ta) σ H d := fun H1 e Q q =>
  h H1 e _ fun xs H2 e2 dxs => ⟨ds, d, by rw [List.append_nil]; exact dxs, hR, fun v H3 e3 n => q v H3 (e2.trans e3) (n.back e2)⟩
theorem en_tup {ta : TA} {ds : List PyData} (h : EvDA K ta σ H ds) (hl : ds.length ≤ 100000 := by simp) : EvD K (tTup ta) σ H (.tuple ds) := fun H1 e Q q =>
  h H1 e _ fun xs H2 e2 dxs => ⟨sz_of (by rw [dpa_len dxs]; exact hl), fun p hp => q _ _ (e2.trans (Ex.new hp)) (.tup upd_same (dpxs (Ex.new hp) dxs))⟩
theorem en_lst {ta : TA} {ds : List PyData} (h : EvDA K ta σ H ds) (hl : ds.length ≤ 100000 := by simp) : EvN K (tLst ta) σ H (.list ds) := fun H1 e Q q =>
  h H1 e _ fun xs H2 e2 dxs => ⟨sz_of (by rw [dpa_len dxs]; exact hl), fun p hp => q _ _ (e2.trans (Ex.new hp)) ⟨p, xs, rfl, fresh_back e2 hp, upd_same, dpxs (Ex.new hp) dxs⟩⟩
/-! ### tests -/
theorem et_test {b : Bool} (h : EvD K te σ H (.bool b)) : EvT (tTest te) σ H b := fun H1 e _ q => h H1 e _ fun v H2 e2 dv => ⟨b, dp_bl dv, q H2 e2⟩
theorem et_B {b : Bool} (h : EvD K te σ H (.bool b)) : EvT (tB te) σ H b := fun H1 e _ q => h H1 e _ fun v H2 e2 dv => ⟨b, dp_bl dv, q H2 e2⟩
theorem ed_and {a b : Bool} (h1 : EvD K ta σ H (.bool a)) (h2 : a = true → EvD K tb σ H (.bool b)) : EvD K (tAndV ta tb) σ H (.bool (a && b)) := fun H1 e Q q => h1 H1 e _ fun v H2 e2 dv => ⟨a, dp_bl dv, by
  cases a with
  | true => exact h2 rfl H2 (e.trans e2) Q fun w H3 e3 dw => q w H3 (e2.trans e3) dw
  | false => exact q _ H2 e2 (.bl false)⟩
theorem ed_or {a b : Bool} (h1 : EvD K ta σ H (.bool a)) (h2 : a = false → EvD K tb σ H (.bool b)) : EvD K (tOrV ta tb) σ H (.bool (a || b)) := fun H1 e Q q => h1 H1 e _ fun v H2 e2 dv => ⟨a, dp_bl dv, by
  cases a with
  | false => exact h2 rfl H2 (e.trans e2) Q fun w H3 e3 dw => q w H3 (e2.trans e3) dw
  | true => exact q _ H2 e2 (.bl true)⟩
theorem ed_not {a : Bool} (h1 : EvD K ta σ H (.bool a)) : EvD K (tNotV ta) σ H (.bool (!a)) := fun H1 e Q q => h1 H1 e _ fun v H2 e2 dv => ⟨a, dp_bl dv, q _ H2 e2 (.bl _)⟩
theorem ed_if {b : Bool} (h : EvT t σ H b) (h1 : b = true → EvD K ta σ H d) (h2 : b = false → EvD K tb σ H d) : EvD K (tIf t ta tb) σ H d := fun H1 e Q q => h H1 e _ fun H2 e2 => by
  cases b with
  | true => exact h1 rfl H2 (e.trans e2) Q fun v H3 e3 => q v H3 (e2.trans e3)
  | false => exact h2 rfl H2 (e.trans e2) Q fun v H3 e3 => q v H3 (e2.trans e3)
theorem ed_chain {r r' : R2} {k1 k2 : Bool} (ha : EvD K ta σ H a) (hb : EvD K tb σ H b) (hc : k1 = true → EvD K tc σ H c) (h1 : RvD K r a b (.bool k1)) (h2 : k1 = true → RvD K r' b c (.bool k2)) : EvD K (tChain r r' ta tb tc) σ H (.bool (k1 && k2)) := fun H1 e Q q =>
  ha H1 e _ fun x H2 e2 dx => hb H2 (e.trans e2) _ fun y H3 e3 dy => h1 H3 x y (dpx e3 dx) dy _ fun z H4 e4 dz => ⟨k1, dp_bl dz, by
    cases k1 with
    | false => exact q _ H4 ((e2.trans e3).trans e4) (.bl _)
    | true => exact hc rfl H4 (((e.trans e2).trans e3).trans e4) _ fun w H5 e5 dw => h2 rfl H5 y w (dpx (e4.trans e5) dy) dw Q fun v H6 e6 dv => q v H6 ((((e2.trans e3).trans e4).trans e5).trans e6) dv⟩
end
/-! ### operations -/
section
variable {K : PySem.W.Frag} {i j : Int}
theorem rv_I0 {g : Int → Int → V} {c : PyData} (h : ∀ H, Dp K H (g i j) c) : RvD K (rI0 g) (.int i) (.int j) c := fun H x y dx dy Q q => ⟨i, j, dp_int dx, dp_int dy, q _ H (Ex.refl H) (h H)⟩
theorem rv_I {C : Int → Int → Prop} {g : Int → Int → V} {c : PyData} (hc : C i j) (h : ∀ H, Dp K H (g i j) c) : RvD K (rI C g) (.int i) (.int j) c := fun H x y dx dy Q q => ⟨i, j, dp_int dx, dp_int dy, hc, q _ H (Ex.refl H) (h H)⟩
theorem rv_add : RvD K (rI0 fun i j => .int (i + j)) (.int i) (.int j) (.int (i + j)) := rv_I0 fun _ => .int _
theorem rv_sub : RvD K (rI0 fun i j => .int (i - j)) (.int i) (.int j) (.int (i - j)) := rv_I0 fun _ => .int _
theorem rv_lt : RvD K (rI0 fun i j => .bl (decide (i < j))) (.int i) (.int j) (.bool (decide (i < j))) := rv_I0 fun _ => .bl _
theorem rv_le : RvD K (rI0 fun i j => .bl (decide (i ≤ j))) (.int i) (.int j) (.bool (decide (i ≤ j))) := rv_I0 fun _ => .bl _
theorem rv_gt : RvD K (rI0 fun i j => .bl (decide (j < i))) (.int i) (.int j) (.bool (decide (j < i))) := rv_I0 fun _ => .bl _
theorem rv_ge : RvD K (rI0 fun i j => .bl (decide (j ≤ i))) (.int i) (.int j) (.bool (decide (j ≤ i))) := rv_I0 fun _ => .bl _
theorem rv_eqI : RvD K rEq (.int i) (.int j) (.bool (decide (i = j))) := fun H x y dx dy Q q => by
  rw [dp_int dx, dp_int dy]
  exact ⟨rfl, q _ H (Ex.refl H) (by rw [show decide (V.int i = V.int j) = decide (i = j) by simp]; exact .bl _)⟩
theorem rv_eqS {i j : Str} : RvD K rEq (.str i) (.str j) (.bool (decide (i = j))) := fun H x y dx dy Q q => by
  rw [dp_str dx, dp_str dy]
  exact ⟨rfl, q _ H (Ex.refl H) (by rw [show decide (V.str i = V.str j) = decide (i = j) by simp]; exact .bl _)⟩
theorem rv_neI : RvD K rNe (.int i) (.int j) (.bool (!decide (i = j))) := fun H x y dx dy Q q => by
  rw [dp_int dx, dp_int dy]
  exact ⟨rfl, q _ H (Ex.refl H) (by rw [show decide (V.int i = V.int j) = decide (i = j) by simp]; exact .bl _)⟩
theorem rv_neS {i j : Str} : RvD K rNe (.str i) (.str j) (.bool (!decide (i = j))) := fun H x y dx dy Q q => by
  rw [dp_str dx, dp_str dy]
  exact ⟨rfl, q _ H (Ex.refl H) (by rw [show decide (V.str i = V.str j) = decide (i = j) by simp]; exact .bl _)⟩
theorem rv_neB {i j : Bool} : RvD K rNe (.bool i) (.bool j) (.bool (!decide (i = j))) := fun H x y dx dy Q q => by
  rw [dp_bl dx, dp_bl dy]
  exact ⟨rfl, q _ H (Ex.refl H) (by rw [show decide (V.bl i = V.bl j) = decide (i = j) by simp]; exact .bl _)⟩
theorem rv_eqD {a b : PyData} (ha : SeqAt.shaped a = true) (hb : SeqAt.shaped b = true) : RvD K (rEqD K) a b (.bool (PyData.eqv a b)) := fun H x y dx dy Q q => ⟨a, b, dx.old, dy.old, ha, hb, q _ H (Ex.refl H) (.bl _)⟩
theorem rv_neD {a b : PyData} (ha : SeqAt.shaped a = true) (hb : SeqAt.shaped b = true) : RvD K (rNeD K) a b (.bool (!PyData.eqv a b)) := fun H x y dx dy Q q => ⟨a, b, dx.old, dy.old, ha, hb, q _ H (Ex.refl H) (.bl _)⟩
end
end EH

set_option Elab.async false
set_option linter.all false
set_option maxRecDepth 100000
set_option maxHeartbeats 4000000
namespace EH
open PySem PySem.Spec PyProof.Rows L2 Evl
section
variable {K : PySem.W.Frag} {σ : L2.St} {H H1 H' : Hp} {ta tb tc te tl : TE} {t tt : TT} {a b c d : PyData} {v : V} {es ds : List PyData} {vs : List Nat} {j D : Nat}
/-! ### comprehensions -/
/-- the list that a comprehension grows at D, behind H1 -/
def Acc (K : PySem.W.Frag) (H1 : Hp) (D : Addr) (ds : List PyData) (H' : Hp) : Prop := H1 D = none ∧ Ex H1 H' ∧ flats ds = true ∧ ∃ acc, H' D = some (.lst acc) ∧ DpAll K H' acc ds
theorem acc_nil {D : Addr} (h : H1 D = none) : Acc K H1 D [] (upd H1 D (.lst [])) := ⟨h, Ex.new h, rfl, [], upd_same, .nil⟩
theorem acc_turn {σ2 : L2.St} {D : Addr} {b : Bool} {Nx : Hp → Prop} (p : Acc K H1 D ds H') (hl : ds.length < 100000) (ht : EvT tt σ2 H1 b) (he : b = true → EvD K te σ2 H1 d ∧ flat d = true)
    (hN : ∀ H3, Acc K H1 D (if b then ds ++ [d] else ds) H3 → Nx H3) : tt σ2 H' fun b' H3 => if b' = true then te σ2 H3 fun y H4 => ∃ acc, H4 D = some (.lst acc) ∧ acc.length < sizeLine ∧ Nx (upd H4 D (.lst (acc ++ [y]))) else Nx H3 := by
  obtain ⟨p1, p2, p3, acc, p4, p5⟩ := p
  refine ht H' p2 _ fun H3 e3 => ?_
  cases b with
  | true =>
    show te σ2 H3 fun y H4 => ∃ acc, H4 D = some (.lst acc) ∧ acc.length < sizeLine ∧ Nx (upd H4 D (.lst (acc ++ [y])))
    obtain ⟨h1, h2⟩ := he rfl
    refine h1 H3 (p2.trans e3) _ fun y H4 e4 dy => ⟨acc, e4 D _ (e3 D _ p4), sz_lt (by rw [dpa_len p5]; exact hl), hN _ ⟨p1, Ex.mut ((p2.trans e3).trans e4) p1, ?_, acc ++ [y], upd_same, ?_⟩⟩
    · rw [if_pos rfl]
      rw [flats_append, p3]
      simp [flats, h2]
    · have q : DpAll K H4 (acc ++ [y]) (ds ++ [d]) := dpa_app (dpxs (e3.trans e4) p5) (dpa_one dy)
      rw [if_pos rfl]
      exact dpus (e4 D _ (e3 D _ p4)) (by rw [flats_append, p3]; simp [flats, h2]) q
  | false =>
    show Nx H3
    exact hN _ ⟨p1, p2.trans e3, p3, acc, e3 D _ p4, dpxs e3 p5⟩
/-- what a comprehension gives of its items -/
def comp (f : PyData → Bool) (g : PyData → PyData) (es : List PyData) : List PyData := (es.filter f).map g
theorem comp_snoc (f : PyData → Bool) (g : PyData → PyData) (es : List PyData) (e : PyData) : comp f g (es ++ [e]) = if f e then comp f g es ++ [g e] else comp f g es := by
  unfold comp
  rw [List.filter_append, List.map_append]
  cases h : f e <;> simp [h]
theorem comp_len (f : PyData → Bool) (g : PyData → PyData) (es : List PyData) : (comp f g es).length ≤ es.length := by
  unfold comp
  rw [List.length_map]
  exact List.length_filter_le _ _
theorem take_snoc {α : Type} {l : List α} {i : Nat} {x : α} (h : l[i]? = some x) : l.take (i + 1) = l.take i ++ [x] := by
  rw [List.take_add_one, h] <;> rfl
theorem en_lcT (f : PyData → Bool) (g : PyData → PyData) (h : EvD K tl σ H (.tuple es)) (hz : es.length ≤ 40000) (hw : ∀ x, wipe ((wipe σ vs).set j (some x)) vs = wipe σ vs)
    (ht : ∀ e ∈ es, ∀ v H1, Ex H H1 → Dp K H1 v e → EvT tt ((wipe σ vs).set j (some v)) H1 (f e)) (he : ∀ e ∈ es, ∀ v H1, Ex H H1 → Dp K H1 v e → f e = true → EvD K te ((wipe σ vs).set j (some v)) H1 (g e) ∧ flat (g e) = true) :
    EvN K (tLc (iTup K tl) (gName j) tt te vs) σ H (.list (comp f g es)) := fun H0 e0 Q q => h H0 e0 _ fun v H1 e1 dv => by
  obtain ⟨a, xs, rfl, hs, ha⟩ := dp_tup dv
  refine ⟨a, rfl, ⟨xs, hs⟩, fun D hD => lc_tup (xs := xs) (fun i H' => Acc K H1 D (comp f g (es.take i)) H') (acc_nil hD) (fun i H' _ p => ex_t p.2.1 hs) (fun i x H' hi p => ⟨hw x, ?_⟩) (fun H' p => ?_)⟩
  · obtain ⟨e, hei, de⟩ := dpa_getV ha hi
    have hm : e ∈ es := List.mem_of_getElem? hei
    refine acc_turn p (by have := comp_len f g (es.take i); rw [List.length_take] at this; omega) (ht e hm x H1 (e0.trans e1) de) (he e hm x H1 (e0.trans e1) de) fun H3 q3 => ?_
    rw [take_snoc hei, comp_snoc]
    exact q3
  · rw [dpa_len ha, List.take_length] at p
    obtain ⟨p1, p2, p3, acc, p4, p5⟩ := p
    exact q _ H' (e1.trans p2) ⟨D, acc, rfl, fresh_back e1 p1, p4, p5⟩
theorem en_lcL (f : PyData → Bool) (g : PyData → PyData) (h : EvD K tl σ H (.list es)) (hz : es.length ≤ 40000) (hw : ∀ x, wipe ((wipe σ vs).set j (some x)) vs = wipe σ vs)
    (ht : ∀ e ∈ es, ∀ v H1, Ex H H1 → Dp K H1 v e → EvT tt ((wipe σ vs).set j (some v)) H1 (f e)) (he : ∀ e ∈ es, ∀ v H1, Ex H H1 → Dp K H1 v e → f e = true → EvD K te ((wipe σ vs).set j (some v)) H1 (g e) ∧ flat (g e) = true) :
    EvN K (tLc (iList K tl) (gName j) tt te vs) σ H (.list (comp f g es)) := fun H0 e0 Q q => h H0 e0 _ fun v H1 e1 dv => by
  obtain ⟨a, xs, rfl, hs, ha⟩ := dp_lst dv
  refine ⟨a, rfl, ⟨xs, hs⟩, fun D hD => lc_list (xs := xs) (fun i H' => Acc K H1 D (comp f g (es.take i)) H') (acc_nil hD) (fun i H' _ p => ex_l p.2.1 hs) (fun i x H' hi p => ⟨hw x, ?_⟩) (fun H' p => ?_)⟩
  · obtain ⟨e, hei, de⟩ := dpa_getV ha hi
    have hm : e ∈ es := List.mem_of_getElem? hei
    refine acc_turn p (by have := comp_len f g (es.take i); rw [List.length_take] at this; omega) (ht e hm x H1 (e0.trans e1) de) (he e hm x H1 (e0.trans e1) de) fun H3 q3 => ?_
    rw [take_snoc hei, comp_snoc]
    exact q3
  · rw [dpa_len ha, List.take_length] at p
    obtain ⟨p1, p2, p3, acc, p4, p5⟩ := p
    exact q _ H' (e1.trans p2) ⟨D, acc, rfl, fresh_back e1 p1, p4, p5⟩
/-- the ints lo, lo + 1, .. as data -/
def rng (lo : Int) (n : Nat) : List PyData := (List.range n).map fun (i : Nat) => .int (lo + (i : Int))
theorem rng_get {lo : Int} {n i : Nat} (h : i < n) : (rng lo n)[i]? = some (.int (lo + (i : Int))) := by
  unfold rng
  rw [List.getElem?_map, List.getElem?_range h] <;> rfl
theorem rng_len {lo : Int} {n : Nat} : (rng lo n).length = n := by simp [rng]
theorem en_lcR {lo : Int} {n : Nat} (wi : TI) (hwi : ∀ H1, Ex H H1 → ∀ R : It → Hp → Prop, (∀ H2, Ex H1 H2 → R (Itr lo n) H2) → wi σ H1 R) (f : PyData → Bool) (g : PyData → PyData) (hz : n ≤ 40000) (hw : ∀ x, wipe ((wipe σ vs).set j (some x)) vs = wipe σ vs)
    (ht : ∀ (i : Nat) H1, Ex H H1 → i < n → EvT tt ((wipe σ vs).set j (some (.int (lo + (i : Int))))) H1 (f (.int (lo + (i : Int))))) (he : ∀ (i : Nat) H1, Ex H H1 → i < n → f (.int (lo + (i : Int))) = true → EvD K te ((wipe σ vs).set j (some (.int (lo + (i : Int))))) H1 (g (.int (lo + (i : Int)))) ∧ flat (g (.int (lo + (i : Int)))) = true) :
    EvN K (tLc wi (gName j) tt te vs) σ H (.list (comp f g (rng lo n))) := fun H0 e0 Q q => hwi H0 e0 _ fun H1 e1 D hD => by
  refine lc_range (lo := lo) (n := n) (fun i H' => Acc K H1 D (comp f g ((rng lo n).take i)) H') (acc_nil hD) (fun i H' hi p => ⟨hw _, ?_⟩) (fun H' p => ?_)
  · have hei := rng_get (lo := lo) hi
    refine acc_turn p (by have := comp_len f g ((rng lo n).take i); rw [List.length_take] at this; omega) (ht i H1 (e0.trans e1) hi) (he i H1 (e0.trans e1) hi) fun H3 q3 => ?_
    rw [take_snoc hei, comp_snoc]
    exact q3
  · have z : (rng lo n).take n = rng lo n := List.take_of_length_le (by rw [rng_len]; exact Nat.le_refl _)
    rw [z] at p
    obtain ⟨p1, p2, p3, acc, p4, p5⟩ := p
    exact q _ H' (e1.trans p2) ⟨D, acc, rfl, fresh_back e1 p1, p4, p5⟩
theorem ei_r1 {ta : TA} {n : Int} (h : EvDA K ta σ H [.int n]) (hn : -100000 ≤ n ∧ n ≤ 100000) : ∀ H1, Ex H H1 → ∀ R : It → Hp → Prop, (∀ H2, Ex H1 H2 → R (Itr 0 n.toNat) H2) → iRng1 ta σ H1 R := fun H1 e R q =>
  h H1 e _ fun vs H2 e2 dv => ⟨n, by cases dv with | cons h t => cases t; rw [dp_int h], by omega, by omega, q H2 e2⟩
theorem ei_r2 {ta : TA} {lo n : Int} (h : EvDA K ta σ H [.int lo, .int n]) (hn : -100000 ≤ lo ∧ lo ≤ 100000 ∧ -100000 ≤ n ∧ n ≤ 100000) : ∀ H1, Ex H H1 → ∀ R : It → Hp → Prop, (∀ H2, Ex H1 H2 → R (Itr lo (n - lo).toNat) H2) → iRng2 ta σ H1 R := fun H1 e R q =>
  h H1 e _ fun vs H2 e2 dv => ⟨lo, n, by cases dv with | cons h t => cases t with | cons h2 t => cases t; rw [dp_int h, dp_int h2], by omega, q H2 e2⟩
theorem et_yes : EvT tYes σ H true := fun H1 e Q q => q H1 (Ex.refl H1)
/-! ### built-ins -/
theorem rc_lenT : RcD K (fun xs H Q => ∃ x n, xs = [x] ∧ LenV K x H n ∧ Q (.int n) H) [.tuple es] (.int (es.length : Int)) := fun H xs dx Q q => by
  cases dx with
  | cons h t =>
    cases t
    obtain ⟨a, ys, rfl, hs, ha⟩ := dp_tup h
    exact ⟨_, ys.length, rfl, .inr ⟨ys, hs, rfl⟩, q _ H (Ex.refl H) (by rw [dpa_len ha]; exact Dp.int _)⟩
theorem rc_lenL : RcD K (fun xs H Q => ∃ x n, xs = [x] ∧ LenV K x H n ∧ Q (.int n) H) [.list es] (.int (es.length : Int)) := fun H xs dx Q q => by
  cases dx with
  | cons h t =>
    cases t
    obtain ⟨a, ys, rfl, hs, ha⟩ := dp_lst h
    exact ⟨_, ys.length, rfl, .inl ⟨ys, hs, rfl⟩, q _ H (Ex.refl H) (by rw [dpa_len ha]; exact Dp.int _)⟩
theorem rc_lenS {z : Str} (hz : z.length ≤ 100000) : RcD K (fun xs H Q => ∃ x n, xs = [x] ∧ LenV K x H n ∧ Q (.int n) H) [.str z] (.int (z.length : Int)) := fun H xs dx Q q => by
  cases dx with
  | cons h t =>
    cases t
    rw [dp_str h]
    exact ⟨_, z.length, rfl, ⟨sz_of hz, rfl⟩, q _ H (Ex.refl H) (Dp.int _)⟩
theorem rc_all {bs : List Bool} : RcD K (rAll K) [.list (bs.map PyData.bool)] (.bool (bs.all id)) := fun H xs dx Q q => by
  cases dx with
  | cons h t =>
    cases t
    obtain ⟨a, ys, rfl, hs, ha⟩ := dp_lst h
    rw [dpa_bls ha] at hs
    exact ⟨a, bs, rfl, hs, q _ H (Ex.refl H) (Dp.bl _)⟩
theorem rc_tupleL : RcD K (fun xs H Q => ∃ p ys, xs = [.ref p] ∧ ((SqL K H p ys ∧ ∀ l, H l = none → Q (.ref l) (upd H l (.tup ys))) ∨ (SqT K H p ys ∧ Q (.ref p) H))) [.list es] (.tuple es) := fun H xs dx Q q => by
  cases dx with
  | cons h t =>
    cases t
    obtain ⟨a, ys, rfl, hs, ha⟩ := dp_lst h
    exact ⟨a, ys, rfl, .inl ⟨hs, fun l hl => q _ _ (Ex.new hl) (Dp.tup upd_same (dpxs (Ex.new hl) ha))⟩⟩
theorem rc_max2 {i j : Int} : RcD K (fun xs H Q => ∃ i j, xs = [.int i, .int j] ∧ Q (.int (if j > i then j else i)) H) [.int i, .int j] (.int (if j > i then j else i)) := fun H xs dx Q q => by
  cases dx with
  | cons h t =>
    cases t with
    | cons h2 t =>
      cases t
      rw [dp_int h, dp_int h2]
      exact ⟨i, j, rfl, q _ H (Ex.refl H) (Dp.int _)⟩
theorem rc_min2 {i j : Int} : RcD K (fun xs H Q => ∃ i j, xs = [.int i, .int j] ∧ Q (.int (if j < i then j else i)) H) [.int i, .int j] (.int (if j < i then j else i)) := fun H xs dx Q q => by
  cases dx with
  | cons h t =>
    cases t with
    | cons h2 t =>
      cases t
      rw [dp_int h, dp_int h2]
      exact ⟨i, j, rfl, q _ H (Ex.refl H) (Dp.int _)⟩
theorem rc_strI {i : Int} (hz : i.natAbs.log2 < 1920) : RcD K (fun xs H Q => ∃ i, xs = [.int i] ∧ i.natAbs.log2 < 1920 ∧ Q (.str (toString i)) H) [.int i] (.str (toString i)) := fun H xs dx Q q => by
  cases dx with
  | cons h t =>
    cases t
    rw [dp_int h]
    exact ⟨i, rfl, hz, q _ H (Ex.refl H) (Dp.str _)⟩
/-- isinstance of ints, texts, tuples: a tuple of K is one too -/
theorem tyx_tup {p : Addr} {xs : List V} (h : SqT K H p xs) : TyX K H (.ref p) (.type "tuple") := by
  rcases h with (h | ⟨o, h⟩) | ⟨o, its, n, h1, h2, _⟩
  · exact .base (.tup h)
  · exact .fTuple h
  · exact .kTuple h1 h2
def tyD : PyData → String
  | .none => "NoneType"
  | .bool _ => "bool"
  | .int _ => "int"
  | .str _ => "str"
  | .tuple _ => "tuple"
  | .list _ => "list"
  | .dict _ => "dict"
theorem tyx_of (h : Dp K H v d) (f : flat d = true) : TyX K H v (.type (tyD d)) := by
  cases h with
  | non => exact .base .non
  | bl b => exact .base (.bl b)
  | int i => exact .base (.int i)
  | str x => exact .base (.str x)
  | lst _ _ => simp [flat] at f
  | tup hs _ => exact tyx_tup (st_of hs)
/-- isinstance(e, T), T a built-in type -/
theorem ed_isi {T : String} {b : Bool} (h : EvD K te σ H d) (f : flat d = true) (hb : kitB (tyD d) T = some b) : EvD K (tCB (rIsi K) (tCons te (tCons (tC (.ty T)) tNil))) σ H (.bool b) := fun H1 e Q q =>
  h H1 e _ fun v H2 e2 dv => ⟨v, .ty T, _, _, b, rfl, .ty T, tyx_of dv f, kit_ty hb, q _ H2 e2 (.bl _)⟩
/-! ### items, slices -/
theorem rv_ixT {i : Int} (h : atI es i = some d) : RvD K (rIxT K) (.tuple es) (.int i) d := fun H x y dx dy Q q => by
  obtain ⟨a, ys, rfl, hs, ha⟩ := dp_tup dx
  rw [dp_int dy]
  unfold atI at h
  obtain ⟨j, hj, hd⟩ := Option.bind_eq_some_iff.mp h
  obtain ⟨v, hv, dv⟩ := dpa_get ha hd
  exact ⟨a, ys, i, v, rfl, rfl, hs, by unfold atI; rw [dpa_len ha, hj]; exact hv, q v H (Ex.refl H) dv⟩
theorem rv_ixL {i : Int} (h : atI es i = some d) : RvD K (rIxL K) (.list es) (.int i) d := fun H x y dx dy Q q => by
  obtain ⟨a, ys, rfl, hs, ha⟩ := dp_lst dx
  rw [dp_int dy]
  unfold atI at h
  obtain ⟨j, hj, hd⟩ := Option.bind_eq_some_iff.mp h
  obtain ⟨v, hv, dv⟩ := dpa_get ha hd
  exact ⟨a, ys, i, v, rfl, rfl, hs, by unfold atI; rw [dpa_len ha, hj]; exact hv, q v H (Ex.refl H) dv⟩
theorem rv_ixS {z : Str} {i : Int} {c : Nat} (hz : z.length ≤ 100000) (h : atI z.cps.toList i = some c) : RvD K rIxS (.str z) (.int i) (.str ⟨#[c]⟩) := fun H x y dx dy Q q => by
  rw [dp_str dx, dp_int dy]
  exact ⟨z, i, c, rfl, rfl, sz_of hz, h, q _ H (Ex.refl H) (.str _)⟩
def EvDO (to : TO) (σ : L2.St) (H : Hp) (o : Option Int) : Prop := ∀ H1, Ex H H1 → ∀ Q : Option Int → Hp → Prop, (∀ H2, Ex H1 H2 → Q o H2) → to σ H1 Q
theorem eo_no : EvDO tNoPart σ H none := fun H1 _ _ q => q H1 (Ex.refl H1)
theorem eo_at {i : Int} (h : EvD K te σ H (.int i)) : EvDO (tPart te) σ H (some i) := fun H1 e _ q => h H1 e _ fun v H2 e2 dv => ⟨i, dp_int dv, q H2 e2⟩
/-- a slice of data -/
def cutD (xs : List PyData) (lo hi : Option Int) : List PyData := (xs.drop (HT.sIx xs.length 0 lo)).take (HT.sIx xs.length xs.length hi - HT.sIx xs.length 0 lo)
theorem dpa_cut {ys : List V} (ha : DpAll K H ys es) (lo hi : Option Int) : DpAll K H (cutV ys lo hi) (cutD es lo hi) := by
  unfold cutV cutD
  rw [dpa_len ha]
  exact dpa_take _ (dpa_drop _ ha)
theorem cut_whole {α : Type} (xs : List α) (lo hi : Nat) (h0 : lo = 0) (h1 : hi = xs.length) : (xs.drop lo).take (hi - lo) = xs := by
  subst h0 h1
  simp
theorem ed_slT {tlo thi : TO} {lo hi : Option Int} (h : EvD K te σ H (.tuple es)) (h1 : EvDO tlo σ H lo) (h2 : EvDO thi σ H hi) : EvD K (tSl (rSlA K) te tlo thi) σ H (.tuple (cutD es lo hi)) := fun H1 e Q q =>
  h H1 e _ fun v H2 e2 dv => h1 H2 (e.trans e2) _ fun H3 e3 => h2 H3 ((e.trans e2).trans e3) _ fun H4 e4 => by
    obtain ⟨a, ys, rfl, hs, ha⟩ := dp_tupR dv
    have hs4 := (e3.trans e4) _ _ hs
    have ha4 := dpxs (e3.trans e4) ha
    have hl := dpa_len ha
    refine ⟨a, ys, rfl, st_of hs4, fun w => q _ H4 ((e2.trans e3).trans e4) ?_, fun w p hp => q _ _ (((e2.trans e3).trans e4).trans (Ex.new hp)) ?_⟩
    · refine .tup hs4 ?_
      have z : cutD es lo hi = es := by
        unfold cutD
        rw [← hl]
        exact cut_whole es _ _ w.1 (by rw [w.2, hl])
      rw [z]
      exact ha4
    · exact .tup upd_same (dpxs (Ex.new hp) (dpa_cut ha4 lo hi))
theorem en_slL {tlo thi : TO} {lo hi : Option Int} (h : EvD K te σ H (.list es)) (h1 : EvDO tlo σ H lo) (h2 : EvDO thi σ H hi) : EvN K (tSl (rSlL K) te tlo thi) σ H (.list (cutD es lo hi)) := fun H1 e Q q =>
  h H1 e _ fun v H2 e2 dv => h1 H2 (e.trans e2) _ fun H3 e3 => h2 H3 ((e.trans e2).trans e3) _ fun H4 e4 => by
    obtain ⟨a, ys, rfl, hs, ha⟩ := dp_lst dv
    have hs4 := ex_l (e3.trans e4) hs
    have ha4 := dpxs (e3.trans e4) ha
    exact ⟨a, ys, rfl, hs4, fun p hp => q _ _ (((e2.trans e3).trans e4).trans (Ex.new hp)) ⟨p, _, rfl, fresh_back ((e2.trans e3).trans e4) hp, upd_same, dpxs (Ex.new hp) (dpa_cut ha4 lo hi)⟩⟩
/-- t + u -/
theorem rv_catT {ys : List PyData} (hz : es.length + ys.length ≤ 100000) : RvD K (rCatA K) (.tuple es) (.tuple ys) (.tuple (es ++ ys)) := fun H x y dx dy Q q => by
  obtain ⟨a, us, rfl, hs, ha⟩ := dp_tupR dx
  obtain ⟨b, ws, rfl, hs2, ha2⟩ := dp_tupR dy
  refine ⟨a, b, us, ws, rfl, rfl, st_of hs, st_of hs2, sz_of (by rw [dpa_len ha, dpa_len ha2]; exact hz), fun e => ?_, fun n e => ?_, fun n n2 p hp => ?_⟩
  · subst e
    have : es = [] := List.length_eq_zero_iff.mp (by rw [← dpa_len ha]; rfl)
    subst this
    exact q _ H (Ex.refl H) (.tup hs2 ha2)
  · subst e
    have : ys = [] := List.length_eq_zero_iff.mp (by rw [← dpa_len ha2]; rfl)
    subst this
    exact q _ H (Ex.refl H) (by rw [List.append_nil]; exact .tup hs ha)
  · exact q _ _ (Ex.new hp) (.tup upd_same (dpxs (Ex.new hp) (dpa_app ha ha2)))
end
end EH

set_option Elab.async false
set_option linter.all false
set_option maxRecDepth 100000
set_option maxHeartbeats 4000000
/-! enumerate over a tuple -/
namespace PySem
open Sem (wp)
open AutoSeq1 (wpAny_loadPart')
theorem eh_meets_enum {u : Value} {ob : Obj} {G : Heap → Prop} (B : Begins u ob G) :
    Meets (Builtin.«enumerate.__new__» ⟨[.type "enumerate", u], []⟩) (fun _ R z => G z.heap ∧
      R (.ok (.ret (.ref (z.heap.push ob).objs.size))) { z with heap := (z.heap.push ob).push { cls := .type "enumerate", data := .fields #[.none, .bool false, .ref z.heap.objs.size, rawInt 0, .none, .none] } }) :=
  .of_wp fun pr wo ar R z h => by
    obtain ⟨hp, g, d, tk, os⟩ := z
    obtain ⟨hg, h⟩ := h
    have hsub := sub_enumerate
    have q1 : ∀ {A' : Around} {E' : Value → Shared → Prop} {Q' : Value → Shared → Prop}, Q' (.ref hp.objs.size) ⟨hp.push ob, g, d, tk, os⟩ → wpAny (model pr wo) A' (pyIter u) Q' E' ⟨hp, g, d, tk, os⟩ :=
      fun r => B.iter pr wo _ _ ⟨hp, g, d, tk, os⟩ _ hg r
    wp_walk using q1
    refine wpAny_stack_any fun stk => wpAny_pure ?_
    split
    · rename_i cc _ _ _ _ _
      cases (cc == Value.type "enumerate")
      · wp_walk using q1
        exact ⟨_, rfl, h⟩
      · wp_walk using q1
        exact ⟨_, rfl, h⟩
    · wp_walk using q1
      exact ⟨_, rfl, h⟩
theorem eh_enum_begins {prog : Program} {w : World} {A : Around} {E : Value → Shared → Prop} {s : Shared} {u : Value} {ob : Obj} {G : Heap → Prop} {Q : Value → Shared → Prop} (B : Begins u ob G) (hg : G s.heap)
    (k : ∀ hN, IsEnum hN (s.heap.objs.size + 1) s.heap.objs.size 0 .none → hN.get? s.heap.objs.size = some ob → (∀ b o, s.heap.get? b = some o → hN.get? b = some o) → Q (.ref (s.heap.objs.size + 1)) { s with heap := hN }) :
    wpAny (model prog w) A (call (.type "enumerate") [u]) Q E s := by
  refine callType_new F.called_enumerate (by decide) (F.typeCall_enumerate_1 _) (F.newCall_enumerate_1 _) (fun me => F.args_object_init_2 me _) F.entry_enumerate_new (eh_meets_enum B) ⟨hg, ?_⟩
  have sz1 : (s.heap.push ob).objs.size = s.heap.objs.size + 1 := Heap.size_push ..
  show _ ∧ _
  rw [sz1]
  have en := Heap.get?_push_size (s.heap.push ob) (o := { cls := .type "enumerate", data := .fields #[.none, .bool false, .ref s.heap.objs.size, rawInt 0, .none, .none] }) rfl
  rw [sz1] at en
  exact ⟨⟨_, en, rfl⟩, k _ en (Heap.get?_push_of_some _ (Heap.get?_push_size _ B.free)) fun b o x => Heap.get?_push_of_some _ (Heap.get?_push_of_some _ x)⟩
end PySem
namespace EH
open PySem PySem.Spec PyProof.Rows L2 Evl
/-- the tuple at a as it stands, each item in a new pair -/
def IteT (K : PySem.W.Frag) (a : Addr) : It :=
  ⟨fun i H => ∃ (xs : List V) (x : V), SqT K H a xs ∧ xs[i]? = some x, fun i H v H' => ∃ T x, v = .ref T ∧ H T = none ∧ H' = upd H T (.tup [.int (i : Nat), x]) ∧ ∀ xs, SqT K H a xs → xs[i]? = some x, fun i H => ∃ xs : List V, SqT K H a xs ∧ xs.length = i⟩
theorem turn_enumT {P : Program} {w : World} {K : PySem.W.Frag} {elts : List Expr} {kk : Nat} {tpos : Pos} {a e it : Addr} (h1 : e ≠ it) (h2 : e ≠ a) (h3 : a ≠ it) :
    Turn P w K (.Tuple elts kk tpos) (IteT K a) [e, it] e (fun i h => (∃ old, IsEnum h e it (0 + ((i : Nat) : Int)) old) ∧ h.IsTupleIter it a i) where
  mem := by simp
  obj := fun i h st b hb => by
    obtain ⟨⟨old, he⟩, o, ho, hc, hd⟩ := st
    rcases (show b = e ∨ b = it by simpa using hb) with z | z
    · rw [z]
      refine ⟨_, he, fun v q => ?_⟩
      nomatch q
    · rw [z]
      refine ⟨o, ho, fun v q => ?_⟩
      rw [hd] at q
      cases q
  keep := fun i h h' st k => let ⟨⟨old, he⟩, hi⟩ := st; ⟨⟨old, k e (by simp) _ he⟩, hi.at fun o q => k it (by simp) o q⟩
  item := by
    intro X hP hw hK hc i pins s σ H E I hf st hg
    subst hP hw hK
    obtain ⟨xs, x, hq, hx⟩ := hg
    obtain ⟨its, rv, p, hz⟩ := I.tuple hq
    obtain ⟨u, hu, ru⟩ := rv.get hx
    have hh : X.A.in1.handled = none := I.ok.hd hc
    have D := Draws.tuple (prog := X.prog) (w := X.w) (A := X.A.in1) hh it a h3 its.toArray
    have W := GoesN.enumFrom (elts := elts) (x1 := kk) (pos := tpos) 0 D e h1 (by simp [h1, h2]) (by simp)
    have hi : i < its.toArray.size := by
      have := (List.getElem?_eq_some_iff.mp hu).1
      simpa using this
    refine wpAny_mono (W.goes i s (fun v s2 => ∃ x H', Inv X pins σ H' s2 ∧ RelV x v ∧ (IteT X.K a).yld i H x H' ∧ ((∃ old, IsEnum s2.heap e it (0 + ((i + 1 : Nat) : Int)) old) ∧ s2.heap.IsTupleIter it a (i + 1)) ∧ ∀ b ∈ [e, it], H' b = none) E hi ⟨st.1, st.2, p⟩ fun v h' tk hY st' hk _ => ?_) (fun r s1 hr => hr) (fun _ _ z => z)
    obtain ⟨T, t, x', rfl, hT, hPx, hTup⟩ := hY
    have ex : x' = u := by
      have z : its.toArray[i]? = some u := by simpa using hu
      rw [z] at hPx
      exact (Option.some.inj hPx).symm
    subst ex
    have e0 : (0 : Int) + (i : Int) = (i : Int) := Int.zero_add _
    rw [e0] at hTup
    obtain ⟨o, ho, hoc, n, hod⟩ := hTup
    have new : ObjOk X.prog X.w (upd H T (.tup [.int (i : Nat), x])) h' T (.tup [.int (i : Nat), x]) :=
      ⟨by show 2 ≤ sizeLine; decide, [.int i t, x'], .cons ⟨_, rfl⟩ (.cons ru .nil), ⟨o, ho, hoc, n, hod⟩⟩
    have hel : e < s.heap.objs.size := by obtain ⟨⟨old, z⟩, _⟩ := st; exact Heap.lt_size z
    have hil : it < s.heap.objs.size := by obtain ⟨_, _, z, _⟩ := st; exact Heap.lt_size z
    refine ⟨.ref T, _, I.turnedNew (t' := tk) (ch := [e, it]) hk hf hT new, rfl, ⟨T, x, rfl, I.hok.fresh hT, rfl, fun ys hy => by rw [I.tuple_inj hy hq]; exact hx⟩, ⟨st'.1, st'.2.1⟩, fun b hb => ?_⟩
    have hlt : b < T := by
      rcases (show b = e ∨ b = it by simpa using hb) with z | z
      · rw [z]; exact Nat.lt_of_lt_of_le hel hT
      · rw [z]; exact Nat.lt_of_lt_of_le hil hT
    rw [upd_ne (Nat.ne_of_lt hlt)]
    exact (hf b hb).1
  done := by
    intro X hP hw hK hc i pins s σ H E I hf st hg
    subst hP hw hK
    obtain ⟨xs, hq, hx⟩ := hg
    obtain ⟨its, rv, p, hz⟩ := I.tuple hq
    have hh : X.A.in1.handled = none := I.ok.hd hc
    have D := Draws.tuple (prog := X.prog) (w := X.w) (A := X.A.in1) hh it a h3 its.toArray
    have W := GoesN.enumFrom (elts := elts) (x1 := kk) (pos := tpos) 0 D e h1 (by simp [h1, h2]) (by simp)
    have hn : its.toArray.size = i := by rw [List.size_toArray, ← rv.length, hx]
    rw [← hn] at st
    exact W.stops s (fun s1 => Inv X pins σ H s1) E ⟨st.1, st.2, p⟩ fun h' tk hk _ => I.turnedL (t' := tk) (ch := [e, it]) hk hf
  self := fun A i s Q E st h => let ⟨⟨_, he⟩, _⟩ := st; wpAny_pyIter_enum he h
def iEnumT (K : PySem.W.Frag) (ta : TA) : TI := fun σ H R => ta σ H fun vs H1 => ∃ a xs, vs = [.ref a] ∧ SqT K H1 a xs ∧ R (IteT K a) H1
theorem pi_enumT {X : Cx} {e : Expr} {ta : TA} {p pos tpos : Pos} {elts : List Expr} {kk : Nat} (hg : Gl X "enumerate") (hm : X.mg "enumerate" = none) (ha : PA X [e] ta) (hs : starEach [e] X.env = [(false, eval e X.env)] := by rfl) :
    PI X (.Tuple elts kk tpos) (.Call (.Name "enumerate" p) [e] [] pos) (iEnumT X.K ta) := by
  refine ⟨fun pins s σ H R I h => ?_⟩
  refine Call_ (ld_blt I hg hm boot_enumerate (PyProof.Rows.callWith_type1 (thn (ha.run pos pins s σ H _ I h) fun us s1 ⟨vs, H1, I1, r1, a, xs, ev, hq, q⟩ => ?_) hs rfl))
  subst ev
  cases r1 with
  | cons r rr =>
    cases rr
    cases r
    obtain ⟨its, rv, p', hz⟩ := I1.tuple hq
    refine eh_enum_begins (begins_tuple a its.toArray) p' fun hN he hit hk => wpAny_pyIter_enum he ?_
    have I2 : Inv X pins σ H1 { s1 with heap := hN } := I1.kept (t' := s1.toks) hk
    have hal : a < s1.heap.objs.size := p'.lt
    refine ⟨s1.heap.objs.size + 1, [s1.heap.objs.size + 1, s1.heap.objs.size], _, _, H1, rfl, I2, turn_enumT (Nat.succ_ne_self _) (Nat.ne_of_gt (Nat.lt_succ_of_lt hal)) (Nat.ne_of_lt hal), ⟨⟨.none, he⟩, ⟨_, hit, rfl, rfl⟩⟩, fun b hb => ?_, q⟩
    have hle : s1.heap.objs.size ≤ b := by
      rcases (show b = s1.heap.objs.size + 1 ∨ b = s1.heap.objs.size by simpa using hb) with z | z
      · rw [z]; exact Nat.le_succ _
      · rw [z]; exact Nat.le_refl _
    exact I1.fpOk hle (I1.hok.fresh hle)
theorem walk_enumT {K : PySem.W.Frag} {a : Addr} {xs : List V} : Walk (IteT K a) xs.length (fun H => SqT K H a xs) (YPair (fun i => some (.int (i : Nat))) (fun i => xs[i]?)) := by
  refine ⟨fun i _ hi q => ⟨xs, xs[i], q, by simp [hi]⟩, fun _ q => ⟨xs, q, rfl⟩, fun i H v H' _ q y => ?_⟩
  obtain ⟨T, x, h1, h2, h3, h4⟩ := y
  exact ⟨T, .int (i : Nat), x, h1, h2, h3, rfl, h4 xs q⟩
end EH

set_option Elab.async false
set_option linter.all false
set_option maxRecDepth 100000
set_option maxHeartbeats 4000000
namespace EH
open PySem PySem.Spec PyProof.Rows L2 Evl
/-! ### the text by places -/
/-- a def of the text as it stands behind the top -/
structure FnT (K : PySem.W.Frag) (mg : Str → Option Value) (x : Str) (st : Stmt) : Prop where
  ex : ∃ (f : Addr) (fd : FuncData), FunD K x x (defArgs st) (defBody st) (defScope st) [] [] f fd ∧ mg x = some (.ref f)
/-- a def and its promise -/
structure Df (P : Program) (w : World) (K : PySem.W.Frag) (mg : Str → Option Value) (base : Heap) (x : Str) (k : Nat) (ps : List Str) (sp : Sp) : Prop where
  ex : ∃ (f : Addr) (fd : FuncData), FnOk P w K mg base CX0 k f fd ps sp ∧ mg x = some (.ref f) ∧ PySem.W.keepIn K (.ref f) = true ∧ Binds K fd ps []
section
variable {P : Program} {w : World} {K : PySem.W.Frag} {mg : Str → Option Value} {base : Heap}
theorem df_mk {x : Str} {st : Stmt} {N ps : List Str} {k : Nat} {sp : Sp} (F : FnT K mg x st) (S : FnScope N ps (defScope st))
    (hb : ∀ (kV doc pm : Value) (an : Option Addr) (cdv ct : Value) (us : List Value), us.length = ps.length → bindArgs (PySem.W.fnOf x x (defArgs st) (defBody st) (defScope st) .none kV doc pm an cdv ct) ⟨us, []⟩ = pure (ps.zip us))
    (len : ∀ vs H Q E, sp vs H Q E → vs.length = ps.length)
    (hbody : ∀ (f : Addr) (cdv : Value) (A : Around) (outer : List Env) (s : Shared) (H : Hp) (vs : List V) (Q : VK) (E : XK), Room k (A.deeper (envOfC x (defScope st) s.heap.objs.size f cdv)) → sp vs H Q E →
      ∃ t, PSs (cxOf CX0 P w K mg base N x (defScope st) f cdv A outer s H E).nox (defBody st) t ∧ t { nx := fun _ H' => Q .non H', rt := Q } (start N vs) H) : Df P w K mg base x (k + 1) ps sp := by
  obtain ⟨f, fd, F, hm⟩ := F.ex
  refine ⟨f, fd, F.ok S len fun cdv A outer s H vs Q E hr h => ?_, hm, F.kp, F.bindsN hb⟩
  obtain ⟨t, h1, h2⟩ := hbody f cdv A outer s H vs Q E hr h
  exact ⟨t, h1.nox, h2⟩
theorem spD_len {R : List PyData → PyData → Prop} {n : Nat} (h : ∀ ds d, R ds d → ds.length = n) : ∀ vs H Q E, spD K R vs H Q E → vs.length = n := fun vs H Q E ⟨ds, d, h1, h2, _⟩ => (dpa_len h1).trans (h ds d h2)
end
section
variable {X : Cx} {x : Str} {k : Nat} {ps : List Str} {sp : Sp} {e : Expr} {es : List Expr} {t : TA} {p pos : Pos}
theorem pe_d (D : Df X.prog X.w X.K X.mg X.base x k ps sp) (hr : Room k X.A) (hg : Gl X x) (ha : PA X (e :: es) t) (hdb : (x == ("__debug__" : Str)) = false := by decide)
    (he : starEach (e :: es) X.env = (false, eval e X.env) :: starEach es X.env := by rfl) (hpl : (backTo pos (starEach es X.env)).any (·.1) = false := by rfl) : PE X (.Call (.Name x p) (e :: es) [] pos) (tCall sp [] E0 t) := by
  obtain ⟨f, fd, F, hm, hk, hb⟩ := D.ex
  exact pe_call F hr hg hm hk hb .nil pass0 ha hdb he hpl
theorem pe_gi {i : Int} (h : ∃ t, X.mg x = some (.int i t)) (hg : Gl X x) (hd : (x == ("__debug__" : Str)) = false := by decide) : PE X (.Name x pos) (tC (.int i)) := by
  obtain ⟨t, h⟩ := h
  exact pe_glob hg h ⟨t, rfl⟩ hd
theorem pe_gs {z : Str} (h : ∃ t, X.mg x = some (.str z t)) (hg : Gl X x) (hd : (x == ("__debug__" : Str)) = false := by decide) : PE X (.Name x pos) (tC (.str z)) := by
  obtain ⟨t, h⟩ := h
  exact pe_glob hg h ⟨t, rfl⟩ hd
end
/-- what the top has left, as the defs use it -/
structure Txt (K : PySem.W.Frag) (mg : Str → Option Value) : Prop where
  b_int : mg "int" = none
  b_bool : mg "bool" = none
  b_tuple : mg "tuple" = none
  b_str : mg "str" = none
  b_len : mg "len" = none
  b_range : mg "range" = none
  b_all : mg "all" = none
  b_isinstance : mg "isinstance" = none
  b_sorted : mg "sorted" = none
  b_enumerate : mg "enumerate" = none
  b_max : mg "max" = none
  b_min : mg "min" = none
  b_zip : mg "zip" = none
  k_MOST_PLACES : ∃ t, mg "MOST_PLACES" = some (.int 40 t)
  k_HUES : ∃ t, mg "HUES" = some (.int 4 t)
  k_LEAST_SIZE : ∃ t, mg "LEAST_SIZE" = some (.int 2 t)
  k_MOST_SIZE : ∃ t, mg "MOST_SIZE" = some (.int 8 t)
  k_BLANK : ∃ t, mg "BLANK" = some (.int (-1) t)
  k_MOST_PRODUCT : ∃ t, mg "MOST_PRODUCT" = some (.int 12 t)
  k_MOST_WAYS : ∃ t, mg "MOST_WAYS" = some (.int 512 t)
  k_MOST_PLACE : ∃ t, mg "MOST_PLACE" = some (.int 39 t)
  k_MOST_FIGURES : ∃ t, mg "MOST_FIGURES" = some (.int 30 t)
  k_FIGURES : ∃ t, mg "FIGURES" = some (.str "0123456789" t)
  k_SIGNS : ∃ t, mg "SIGNS" = some (.str "0123." t)
  k_EMPTY : ∃ t, mg "EMPTY" = some (.str "none" t)
/-! ### statements over data -/
section
variable {K : PySem.W.Frag} {σ : L2.St} {H H' : Hp} {ta tb te tx : TE} {t u : TT} {d : PyData} {D : Ends} {tu tw tz : TS} {g : TG} {ds es : List PyData}
theorem r_ret (h : EvN K te σ H d) (k : ∀ v H1, Ex H H1 → New K H H1 v d → D.rt v H1) : tRet te D σ H := h H (Ex.refl H) _ k
theorem r_retD (h : EvD K te σ H d) (k : ∀ v H1, Ex H H1 → New K H H1 v d → D.rt v H1) (f : flat d = true := by rfl) : tRet te D σ H := (h.toN f) H (Ex.refl H) _ k
theorem r_asg {i : Nat} (h : EvD K te σ H d) (k : ∀ v H1, Ex H H1 → Dp K H1 v d → tz D (σ.set i (some v)) H1) : tSeq (tAsg te (gName i)) tz D σ H := h H (Ex.refl H) _ k
theorem r_asgN {i : Nat} (h : EvN K te σ H (.list ds)) (k : ∀ p H1, H p = none → Ex H H1 → (∃ xs, H1 p = some (.lst xs) ∧ DpAll K H1 xs ds) → tz D (σ.set i (some (.ref p))) H1) : tSeq (tAsg te (gName i)) tz D σ H := h H (Ex.refl H) _ fun v H1 e n => by
  obtain ⟨q, xs, rfl, h1, h2, h3⟩ := n
  exact k q H1 h1 e ⟨xs, h2, h3⟩
theorem r_if {b : Bool} (h : EvT t σ H b) (h1 : b = true → ∀ H1, Ex H H1 → tu { D with nx := tz D } σ H1) (h2 : b = false → ∀ H1, Ex H H1 → tw { D with nx := tz D } σ H1) : tSeq (tIfS t tu tw) tz D σ H := q_if h h1 h2
theorem r_drop (h : EvD K te σ H d) (k : ∀ H1, Ex H H1 → tz D σ H1) : tSeq (tDrop te) tz D σ H := h H (Ex.refl H) _ fun v H1 e _ => k H1 e
/-- l.append(e) -/
theorem r_app {l : Addr} {xs : List V} (hl : H l = some (.lst xs)) (ha : σ[i]? = some (some (.ref l))) (hd : DpAll K H xs ds) (hf : flats ds = true) (h : EvD K te σ H d) (fd : flat d = true) (hz : xs.length < 100000)
    (k : ∀ H1 ys, Ex H H1 → H1 l = some (.lst xs) → DpAll K (upd H1 l (.lst ys)) ys (ds ++ [d]) → D.nx σ (upd H1 l (.lst ys))) : tDrop (tBM K "list" rAppend (tVar i) (tCons te tNil)) D σ H :=
  ⟨_, ha, .inl ⟨rfl, xs, sq_of hl⟩, h H (Ex.refl H) _ fun v H1 e dv => ⟨l, xs, v, rfl, rfl, e l _ hl, sz_lt hz, k H1 (xs ++ [v]) e (e l _ hl)
    (dpus (e l _ hl) (by rw [flats_append, hf]; simp [flats, fd]) (dpa_app (dpxs e hd) (dpa_one dv)))⟩⟩
/-- l.extend(e), e a new list -/
theorem r_ext {l : Addr} {xs : List V} (hl : H l = some (.lst xs)) (ha : σ[i]? = some (some (.ref l))) (hd : DpAll K H xs ds) (hf : flats ds = true) (h : EvN K te σ H (.list es)) (fe : flats es = true) (hz : xs.length + es.length ≤ 100000)
    (k : ∀ H1 ys, Ex H H1 → H1 l = some (.lst xs) → DpAll K (upd H1 l (.lst ys)) ys (ds ++ es) → D.nx σ (upd H1 l (.lst ys))) : tDrop (tBM K "list" rExtend (tVar i) (tCons te tNil)) D σ H :=
  ⟨_, ha, .inl ⟨rfl, xs, sq_of hl⟩, h H (Ex.refl H) _ fun v H1 e nv => by
    obtain ⟨q, zs, rfl, _, h2, h3⟩ := nv
    exact ⟨l, q, xs, zs, rfl, rfl, e l _ hl, h2, sz_of (by rw [dpa_len h3]; exact hz), k H1 (xs ++ zs) e (e l _ hl) (dpus (e l _ hl) (by rw [flats_append, hf, fe]; rfl) (dpa_app (dpxs e hd) h3))⟩⟩
end
section
variable {K : PySem.W.Frag} {H : Hp} {vs : List V} {a b c d : PyData}
theorem dpa1 (h : DpAll K H vs [a]) : ∃ v, vs = [v] ∧ Dp K H v a := by
  cases h with | cons h t => cases t; exact ⟨_, rfl, h⟩
theorem dpa2 (h : DpAll K H vs [a, b]) : ∃ v w, vs = [v, w] ∧ Dp K H v a ∧ Dp K H w b := by
  cases h with | cons h t => obtain ⟨_, rfl, h2⟩ := dpa1 t; exact ⟨_, _, rfl, h, h2⟩
theorem dpa3 (h : DpAll K H vs [a, b, c]) : ∃ v w z, vs = [v, w, z] ∧ Dp K H v a ∧ Dp K H w b ∧ Dp K H z c := by
  cases h with | cons h t => obtain ⟨_, _, rfl, h2, h3⟩ := dpa2 t; exact ⟨_, _, _, rfl, h, h2, h3⟩
theorem dpa4 (h : DpAll K H vs [a, b, c, d]) : ∃ v w z y, vs = [v, w, z, y] ∧ Dp K H v a ∧ Dp K H w b ∧ Dp K H z c ∧ Dp K H y d := by
  cases h with | cons h t => obtain ⟨_, _, _, rfl, h2, h3, h4⟩ := dpa3 t; exact ⟨_, _, _, _, rfl, h, h2, h3, h4⟩
end
section
variable {K : PySem.W.Frag} {σ : L2.St} {H : Hp} {te : TE} {i : Int} {z : Str} {ds : List PyData}
theorem ei_int (h : EvD K te σ H (.int i)) : EvD K (tCB (rIsi K) (tCons te (tCons (tC (.ty "int")) tNil))) σ H (.bool true) := ed_isi h rfl (show kitB "int" "int" = some true by decide +kernel)
theorem ei_nbool (h : EvD K te σ H (.int i)) : EvD K (tCB (rIsi K) (tCons te (tCons (tC (.ty "bool")) tNil))) σ H (.bool false) := ed_isi h rfl (show kitB "int" "bool" = some false by decide +kernel)
theorem ei_tup (h : EvD K te σ H (.tuple ds)) (f : flats ds = true) : EvD K (tCB (rIsi K) (tCons te (tCons (tC (.ty "tuple")) tNil))) σ H (.bool true) := ed_isi h f (show kitB "tuple" "tuple" = some true by decide +kernel)
theorem ei_str (h : EvD K te σ H (.str z)) : EvD K (tCB (rIsi K) (tCons te (tCons (tC (.ty "str")) tNil))) σ H (.bool true) := ed_isi h rfl (show kitB "str" "str" = some true by decide +kernel)
theorem flats_int (ns : List Int) : flats (ns.map PyData.int) = true := by
  induction ns with
  | nil => rfl
  | cons a r ih => simpa [flats, flat] using ih
theorem flats_str (ns : List Str) : flats (ns.map PyData.str) = true := by
  induction ns with
  | nil => rfl
  | cons a r ih => simpa [flats, flat] using ih
end
/-- what is wanted, from a later heap -/
theorem kk {K : PySem.W.Frag} {H H1 : Hp} {d : PyData} {Q : VK} (e : Ex H H1) (k : ∀ v H', Ex H H' → New K H H' v d → Q v H') : ∀ v H', Ex H1 H' → New K H1 H' v d → Q v H' := fun v H' e2 n => k v H' (e.trans e2) (n.back e)
end EH

set_option Elab.async false
set_option linter.all false
set_option maxRecDepth 100000
set_option maxHeartbeats 4000000
namespace EH
open PySem PySem.Spec PyProof.Rows L2 Evl
section
variable {P : Program} {w : World} {K : PySem.W.Frag} {mg : Str → Option Value} {base : Heap}
/-! ### is_whole, is_between -/
def sp_is_whole (K : PySem.W.Frag) : Sp := spD K fun ds d => ∃ i, ds = [.int i] ∧ d = .bool true
theorem ln_is_whole : ∀ vs H Q E, sp_is_whole K vs H Q E → vs.length = 1 := spD_len fun ds d ⟨i, e, _⟩ => by rw [e]; rfl
theorem sc_is_whole : FnScope ["thing"] ["thing"] (defScope (top 21)) := ⟨rfl, rfl, rfl, by decide +kernel, rfl, by decide +kernel, by decide +kernel⟩
theorem df_is_whole (T : Txt K mg) (F : FnT K mg "is_whole" (top 21))  : Df P w K mg base "is_whole" 1 ["thing"] (sp_is_whole K) := by
  have nd := sc_is_whole.nd
  refine df_mk (k := 0) F sc_is_whole (fun _ _ _ _ _ _ us hl => match us, hl with | [_], _ => rfl) (ln_is_whole) (fun f cdv A outer s H vs Q E hr h => ?_)
  refine ⟨_, (pss_one (ps_ret (pe_and (pe_callB (r := rIsi K) call_isi rfl T.b_isinstance (by decide +kernel) (pa_cons (pv 0) (pa_cons (pe_bltn (v := .ty "int") rfl T.b_int (by decide +kernel) rfl) pa_nil))) (pe_one (pe_not (pe_callB (r := rIsi K) call_isi rfl T.b_isinstance (by decide +kernel) (pa_cons (pv 0) (pa_cons (pe_bltn (v := .ty "bool") rfl T.b_bool (by decide +kernel) rfl) pa_nil)))))))), ?_⟩
  obtain ⟨ds, d, hv, ⟨i, rfl, rfl⟩, k⟩ := h
  obtain ⟨v, rfl, h1⟩ := dpa1 hv
  exact r_retD (ed_and (ei_int (ed_var h1)) fun _ => ed_not (ei_nbool (ed_var h1))) k
def sp_is_between (K : PySem.W.Frag) : Sp := spD K fun ds d => ∃ i lo hi : Int, ds = [.int i, .int lo, .int hi] ∧ d = .bool (decide (lo ≤ i) && decide (i ≤ hi))
theorem ln_is_between : ∀ vs H Q E, sp_is_between K vs H Q E → vs.length = 3 := spD_len fun ds d ⟨i, lo, hi, e, _⟩ => by rw [e]; rfl
theorem sc_is_between : FnScope ["thing", "least", "most"] ["thing", "least", "most"] (defScope (top 22)) := ⟨rfl, rfl, rfl, by decide +kernel, rfl, by decide +kernel, by decide +kernel⟩
theorem df_is_between (T : Txt K mg) (F : FnT K mg "is_between" (top 22)) (D_is_whole : Df P w K mg base "is_whole" 1 ["thing"] (sp_is_whole K)) : Df P w K mg base "is_between" 2 ["thing", "least", "most"] (sp_is_between K) := by
  have nd := sc_is_between.nd
  refine df_mk (k := 1) F sc_is_between (fun _ _ _ _ _ _ us hl => match us, hl with | [_, _, _], _ => rfl) (ln_is_between) (fun f cdv A outer s H vs Q E hr h => ?_)
  refine ⟨_, (pss_one (ps_ret (pe_and (pe_d D_is_whole (hr.mono (by decide)) rfl (pa_cons (pv 0) pa_nil)) (pe_one (pe_chain op_le op_le (pv 1) (pv 0) (pv 2)))))), ?_⟩
  obtain ⟨ds, d, hv, ⟨i, lo, hi, rfl, rfl⟩, k⟩ := h
  obtain ⟨v1, v2, v3, rfl, h1, h2, h3⟩ := dpa3 hv
  exact r_retD (ed_and (a := true) (en_call (eda_cons (ed_var h1) eda_nil) ⟨i, rfl, rfl⟩).toD fun _ => ed_chain (ed_var h2) (ed_var h1) (fun _ => ed_var h3) rv_le fun _ => rv_le) k
end
end EH

set_option Elab.async false
set_option linter.all false
/-! The program as plain functions. -/
namespace EH
open PySem
def iT (l : List Int) : PyData := .tuple (l.map .int)
def toI (l : List Nat) : List Int := l.map fun (n : Nat) => (n : Int)
def nT (l : List Nat) : PyData := iT (toI l)
def rowD (r : Nat × Nat) : PyData := .tuple [.int (r.1 : Int), .int (r.2 : Int)]
def rowPl (r : Nat × Nat) (n : Nat) : List Nat := (List.range n).map fun k => r.1 + k * r.2
def lying (L S : Nat) : List (Nat × Nat) := (List.range L).flatMap fun f => (List.range ((L - 1 - f) / (S - 1))).map fun j => (f, j + 1)
def thr (L S p : Nat) : List (Nat × Nat) := (List.range ((L - 1) / (S - 1))).flatMap fun j => ((List.range S).filter fun k => decide (k * (j + 1) ≤ p) && decide (p - k * (j + 1) + (S - 1) * (j + 1) < L)).map fun k => (p - k * (j + 1), j + 1)
structure SzOk (sz : List Nat) : Prop where
  lo : 1 ≤ sz.length
  hi : sz.length ≤ 4
  all : ∀ n ∈ sz, 2 ≤ n ∧ n ≤ 8
structure DrOk (sz : List Nat) (d : List Int) : Prop where
  len : d.length ≤ 40
  all : ∀ h ∈ d, -1 ≤ h ∧ h < (sz.length : Int)
def hasHue (s : List Int) (r : Nat × Nat) (n : Nat) (h : Int) : Bool := (rowPl r n).all fun p => decide (s.getD p 0 = h)
def wrongs (sz : List Nat) (s : List Int) : List (Nat × Nat) := (List.range sz.length).flatMap fun h => (lying s.length (sz.getD h 0)).filter fun r => hasHue s r (sz.getD h 0) (h : Int)
def wrong (sz : List Nat) (s : List Int) : Bool := !(wrongs sz s).isEmpty
def blanksM (d : List Int) : List Nat := (List.range d.length).filter fun p => decide (d.getD p 0 = -1)
def barsM (sz : List Nat) (d : List Int) (p h : Nat) : List (Nat × Nat) := (thr d.length (sz.getD h 0) p).filter fun r => hasHue (d.set p (h : Int)) r (sz.getD h 0) (h : Int)
def openM (sz : List Nat) (d : List Int) (p : Nat) : List Nat := (List.range sz.length).filter fun h => (barsM sz d p h).isEmpty
def waysM (sz : List Nat) (d : List Int) : Nat := (blanksM d).foldl (fun f _ => f * max 2 sz.length) 1
def fillStep (sz : List Nat) (p : Nat) (found : List (List Int)) : List (List Int) := found.flatMap fun s => (openM sz s p).map fun (h : Nat) => s.set p (h : Int)
def fillM (sz : List Nat) (d : List Int) : List (List Int) := if wrong sz d then [] else (blanksM d).foldl (fun f p => fillStep sz p f) [d]
def narrow (sz : List Nat) (d : List Int) : List Nat → Option (Nat × List Nat)
  | [] => none
  | p :: r => if (openM sz d p).length < 2 then some (p, openM sz d p) else narrow sz d r
def narrowM (sz : List Nat) (d : List Int) : Option (Nat × List Nat) := narrow sz d (blanksM d)
/-- the run, by fuel -/
def runF (sz : List Nat) : Nat → List Int → List Int × Option Nat
  | 0, d => (d, none)
  | n + 1, d => match narrowM sz d with
    | none => (d, none)
    | some (p, []) => (d, some p)
    | some (p, h :: _) => runF sz n (d.set p (h : Int))
def runM (sz : List Nat) (d : List Int) : List Int × Option Nat := runF sz ((blanksM d).length + 1) d
def prodM (sz : List Nat) : Nat := sz.foldl (fun f n => f * n) 1
def mayM (sz : List Nat) (s : List Int) (h : Nat) : Bool := (List.range (s.length / (sz.getD h 0 - 1))).all fun j => !((List.range (sz.getD h 0 - 1)).all fun k => decide (s.getD (s.length - (k + 1) * (j + 1)) 0 = (h : Int)))
def longM (sz : List Nat) (some : List (List Int)) : List (List Int) := some.flatMap fun s => ((List.range sz.length).filter fun h => mayM sz s h).map fun (h : Nat) => s ++ [(h : Int)]
end EH

set_option Elab.async false
set_option linter.all false
set_option maxRecDepth 100000
set_option maxHeartbeats 4000000
namespace EH
open PySem PySem.Spec PyProof.Rows L2 Evl
theorem flat_iT (l : List Int) : flat (iT l) = true := flats_int l
theorem flat_nT (l : List Nat) : flat (nT l) = true := flats_int _
theorem iT_len (l : List Int) : (l.map PyData.int).length = l.length := List.length_map ..
theorem toI_len (l : List Nat) : (toI l).length = l.length := List.length_map ..
def onI (f : Int → PyData) : PyData → PyData
  | .int i => f i
  | d => d
def onB (f : Int → Bool) : PyData → Bool
  | .int i => f i
  | _ => false
theorem comp_ints (p : Int → Bool) (f : Int → PyData) (l : List Int) : comp (onB p) (onI f) (l.map PyData.int) = (l.filter p).map f := by
  unfold comp
  rw [List.filter_map, List.map_map]
  rfl
theorem filter_yes {α : Type} (l : List α) : l.filter (fun _ => true) = l := List.filter_eq_self.mpr fun _ _ => rfl
section
variable {K : PySem.W.Frag} {σ : L2.St} {H H1 H' : Hp} {ta tb tc te tl : TE} {t tt : TT} {a b c d : PyData} {v : V} {es ds : List PyData} {vs : List Nat} {j : Nat} {ns : List Int}
theorem en_lcIf (p : Int → Bool) (f : Int → PyData) (h : EvD K tl σ H (iT ns)) (hz : ns.length ≤ 40000) (hw : ∀ x, wipe ((wipe σ vs).set j (some x)) vs = wipe σ vs)
    (ht : ∀ i ∈ ns, ∀ H1, Ex H H1 → EvT tt ((wipe σ vs).set j (some (.int i))) H1 (p i)) (he : ∀ i ∈ ns, p i = true → ∀ H1, Ex H H1 → EvD K te ((wipe σ vs).set j (some (.int i))) H1 (f i)) (hf : ∀ i ∈ ns, p i = true → flat (f i) = true) :
    EvN K (tLc (iTup K tl) (gName j) tt te vs) σ H (.list ((ns.filter p).map f)) := by
  rw [← comp_ints]
  refine en_lcT (onB p) (onI f) h (by rw [iT_len]; exact hz) hw (fun e he' v H1 e1 dv => ?_) (fun e he' v H1 e1 dv hp => ?_)
  · obtain ⟨i, hi, rfl⟩ := List.mem_map.mp he'
    rw [dp_int dv]
    exact ht i hi H1 e1
  · obtain ⟨i, hi, rfl⟩ := List.mem_map.mp he'
    rw [dp_int dv]
    exact ⟨he i hi hp H1 e1, hf i hi hp⟩
theorem en_lcI (f : Int → PyData) (h : EvD K tl σ H (iT ns)) (hz : ns.length ≤ 40000) (hw : ∀ x, wipe ((wipe σ vs).set j (some x)) vs = wipe σ vs)
    (he : ∀ i ∈ ns, ∀ H1, Ex H H1 → EvD K te ((wipe σ vs).set j (some (.int i))) H1 (f i)) (hf : ∀ i ∈ ns, flat (f i) = true) : EvN K (tLc (iTup K tl) (gName j) tYes te vs) σ H (.list (ns.map f)) := by
  have q := en_lcIf (tt := tYes) (fun _ => true) f h hz hw (fun _ _ _ _ => et_yes) (fun i hi _ => he i hi) (fun i hi _ => hf i hi)
  rw [filter_yes] at q
  exact q
/-- over the places of a tuple of natural numbers -/
theorem en_lcNa (f : Nat → PyData) {ms : List Nat} (h : EvD K tl σ H (nT ms)) (hz : ms.length ≤ 40000) (hw : ∀ x, wipe ((wipe σ vs).set j (some x)) vs = wipe σ vs)
    (he : ∀ i ∈ ms, ∀ H1, Ex H H1 → EvD K te ((wipe σ vs).set j (some (.int (i : Int)))) H1 (f i)) (hf : ∀ i ∈ ms, flat (f i) = true) : EvN K (tLc (iTup K tl) (gName j) tYes te vs) σ H (.list (ms.map f)) := by
  have q := en_lcI (K := K) (te := te) (tl := tl) (σ := σ) (H := H) (vs := vs) (j := j) (ns := toI ms) (fun i => f i.toNat) h (by rw [toI_len]; exact hz) hw (fun i hi H1 e1 => ?_) (fun i hi => ?_)
  · unfold toI at q
    rw [List.map_map] at q
    exact q
  · obtain ⟨m, hm, rfl⟩ := List.mem_map.mp hi
    exact he m hm H1 e1
  · obtain ⟨m, hm, rfl⟩ := List.mem_map.mp hi
    exact hf m hm
/-- over range -/
theorem en_lcRf {lo : Int} {n : Nat} (wi : TI) (hwi : ∀ H1, Ex H H1 → ∀ R : It → Hp → Prop, (∀ H2, Ex H1 H2 → R (Itr lo n) H2) → wi σ H1 R) (p : Nat → Bool) (f : Nat → PyData) (hz : n ≤ 40000) (hw : ∀ x, wipe ((wipe σ vs).set j (some x)) vs = wipe σ vs)
    (ht : ∀ i, i < n → ∀ H1, Ex H H1 → EvT tt ((wipe σ vs).set j (some (.int (lo + (i : Int))))) H1 (p i)) (he : ∀ i, i < n → p i = true → ∀ H1, Ex H H1 → EvD K te ((wipe σ vs).set j (some (.int (lo + (i : Int))))) H1 (f i)) (hf : ∀ i, i < n → p i = true → flat (f i) = true) :
    EvN K (tLc wi (gName j) tt te vs) σ H (.list (((List.range n).filter p).map f)) := by
  have ei : ∀ i : Nat, (lo + (i : Int) - lo).toNat = i := fun i => by omega
  have q := en_lcR (K := K) (tt := tt) (te := te) (vs := vs) (j := j) wi hwi (onB fun i => p (i - lo).toNat) (onI fun i => f (i - lo).toNat) hz hw (fun i H1 e1 hi => ?_) (fun i H1 e1 hi hp => ?_)
  · have e : comp (onB fun i => p (i - lo).toNat) (onI fun i => f (i - lo).toNat) (rng lo n) = ((List.range n).filter p).map f := by
      unfold comp rng
      rw [List.filter_map, List.map_map]
      have e1 : ((onB fun i => p (i - lo).toNat) ∘ fun i : Nat => PyData.int (lo + (i : Int))) = p := by
        funext i
        show p (lo + (i : Int) - lo).toNat = p i
        rw [ei]
      have e2 : ((onI fun i => f (i - lo).toNat) ∘ fun i : Nat => PyData.int (lo + (i : Int))) = f := by
        funext i
        show f (lo + (i : Int) - lo).toNat = f i
        rw [ei]
      rw [e1, e2]
    rw [e] at q
    exact q
  · show EvT tt _ H1 (p (lo + (i : Int) - lo).toNat)
    rw [ei]
    exact ht i hi H1 e1
  · have hp : p (lo + (i : Int) - lo).toNat = true := hp
    rw [ei] at hp
    show EvD K te _ H1 (f (lo + (i : Int) - lo).toNat) ∧ flat (f (lo + (i : Int) - lo).toNat) = true
    rw [ei]
    exact ⟨he i hi hp H1 e1, hf i hi hp⟩
theorem en_lcRa {lo : Int} {n : Nat} (wi : TI) (hwi : ∀ H1, Ex H H1 → ∀ R : It → Hp → Prop, (∀ H2, Ex H1 H2 → R (Itr lo n) H2) → wi σ H1 R) (f : Nat → PyData) (hz : n ≤ 40000) (hw : ∀ x, wipe ((wipe σ vs).set j (some x)) vs = wipe σ vs)
    (he : ∀ i, i < n → ∀ H1, Ex H H1 → EvD K te ((wipe σ vs).set j (some (.int (lo + (i : Int))))) H1 (f i)) (hf : ∀ i, i < n → flat (f i) = true) :
    EvN K (tLc wi (gName j) tYes te vs) σ H (.list ((List.range n).map f)) := by
  have q := en_lcRf (K := K) (tt := tYes) (te := te) (vs := vs) (j := j) wi hwi (fun _ => true) f hz hw (fun _ _ _ _ => et_yes) (fun i hi _ => he i hi) (fun i hi _ => hf i hi)
  rw [filter_yes] at q
  exact q
theorem ed_all {bs : List Bool} (h : EvN K te σ H (.list (bs.map PyData.bool))) : EvD K (tCB (rAll K) (tCons te tNil)) σ H (.bool (bs.all id)) := (en_cb (eda_cons h.toD eda_nil) rc_all).toD
theorem ed_tuple (h : EvN K te σ H (.list es)) : EvD K (tCB (fun xs H Q => ∃ p ys, xs = [.ref p] ∧ ((SqL K H p ys ∧ ∀ l, H l = none → Q (.ref l) (upd H l (.tup ys))) ∨ (SqT K H p ys ∧ Q (.ref p) H))) (tCons te tNil)) σ H (.tuple es) := (en_cb (eda_cons h.toD eda_nil) rc_tupleL).toD
theorem ed_lenT (h : EvD K te σ H (.tuple es)) : EvD K (tCB (fun xs H Q => ∃ x n, xs = [x] ∧ LenV K x H n ∧ Q (.int n) H) (tCons te tNil)) σ H (.int (es.length : Int)) := (en_cb (eda_cons h eda_nil) rc_lenT).toD
theorem ed_lenI (h : EvD K te σ H (iT ns)) : EvD K (tCB (fun xs H Q => ∃ x n, xs = [x] ∧ LenV K x H n ∧ Q (.int n) H) (tCons te tNil)) σ H (.int (ns.length : Int)) := (ed_lenT h).eq (by rw [iT_len])
theorem ed_lenN {ms : List Nat} (h : EvD K te σ H (nT ms)) : EvD K (tCB (fun xs H Q => ∃ x n, xs = [x] ∧ LenV K x H n ∧ Q (.int n) H) (tCons te tNil)) σ H (.int (ms.length : Int)) := (ed_lenI h).eq (by rw [toI_len])
theorem ed_lenL (h : EvD K te σ H (.list es)) : EvD K (tCB (fun xs H Q => ∃ x n, xs = [x] ∧ LenV K x H n ∧ Q (.int n) H) (tCons te tNil)) σ H (.int (es.length : Int)) := (en_cb (eda_cons h eda_nil) rc_lenL).toD
/-- items of a tuple of ints -/
theorem at_i {p : Nat} {i : Int} (h : ns[p]? = some i) : atI (ns.map PyData.int) (p : Int) = some (.int i) := atI_nat (by rw [List.getElem?_map, h]; rfl)
theorem at_n {ms : List Nat} {p m : Nat} (h : ms[p]? = some m) : atI ((toI ms).map PyData.int) (p : Int) = some (.int (m : Int)) := at_i (by unfold toI; rw [List.getElem?_map, h]; rfl)
theorem ed_atI {p : Nat} (h : EvD K ta σ H (iT ns)) (hi : EvD K tb σ H (.int (p : Int))) (hp : p < ns.length) : EvD K (tOp (rIxT K) ta tb) σ H (.int (ns.getD p 0)) :=
  ed_op h hi (rv_ixT (at_i (by rw [List.getD_eq_getElem?_getD, List.getElem?_eq_getElem hp]; rfl)))
theorem ed_atN {ms : List Nat} {p : Nat} (h : EvD K ta σ H (nT ms)) (hi : EvD K tb σ H (.int (p : Int))) (hp : p < ms.length) : EvD K (tOp (rIxT K) ta tb) σ H (.int ((ms.getD p 0 : Nat) : Int)) :=
  ed_op h hi (rv_ixT (at_n (by rw [List.getD_eq_getElem?_getD, List.getElem?_eq_getElem hp]; rfl)))
theorem ed_row0 {r : Nat × Nat} (h : EvD K ta σ H (rowD r)) (hi : EvD K tb σ H (.int 0)) : EvD K (tOp (rIxT K) ta tb) σ H (.int (r.1 : Int)) := ed_op h hi (rv_ixT (atI_nat (j := 0) rfl))
theorem ed_row1 {r : Nat × Nat} (h : EvD K ta σ H (rowD r)) (hi : EvD K tb σ H (.int 1)) : EvD K (tOp (rIxT K) ta tb) σ H (.int (r.2 : Int)) := ed_op h hi (rv_ixT (atI_nat (j := 1) rfl))
theorem ed_mul {i j m : Int} (ha : EvD K ta σ H (.int i)) (hb : EvD K tb σ H (.int j)) (h : -(2 ^ 64) < i ∧ i < 2 ^ 64) (e : i * j = m) : EvD K (tOp (rI CMul fun i j => .int (i * j)) ta tb) σ H (.int m) := ed_op ha hb (rv_I (.inl h) fun _ => by rw [e]; exact .int _)
theorem ed_mulR {i j m : Int} (ha : EvD K ta σ H (.int i)) (hb : EvD K tb σ H (.int j)) (h : -(2 ^ 64) < j ∧ j < 2 ^ 64) (e : i * j = m) : EvD K (tOp (rI CMul fun i j => .int (i * j)) ta tb) σ H (.int m) := ed_op ha hb (rv_I (.inr h) fun _ => by rw [e]; exact .int _)
theorem ed_fdiv {i j m : Int} (ha : EvD K ta σ H (.int i)) (hb : EvD K tb σ H (.int j)) (h : j ≠ 0 ∧ j.natAbs < 1073741824) (e : i.fdiv j = m) : EvD K (tOp (rI CDivN fun i j => .int (i.fdiv j)) ta tb) σ H (.int m) := ed_op ha hb (rv_I h fun _ => by rw [e]; exact .int _)
theorem ed_mod {i j m : Int} (ha : EvD K ta σ H (.int i)) (hb : EvD K tb σ H (.int j)) (h : j ≠ 0) (e : i.fmod j = m) : EvD K (tOp (rI (fun _ j => j ≠ 0) fun i j => .int (i.fmod j)) ta tb) σ H (.int m) := ed_op ha hb (rv_I h fun _ => by rw [e]; exact .int _)
theorem ed_add {i j m : Int} (ha : EvD K ta σ H (.int i)) (hb : EvD K tb σ H (.int j)) (e : i + j = m) : EvD K (tOp (rI0 fun i j => .int (i + j)) ta tb) σ H (.int m) := by
  rw [← e]
  exact ed_op ha hb rv_add
theorem ed_sub {i j m : Int} (ha : EvD K ta σ H (.int i)) (hb : EvD K tb σ H (.int j)) (e : i - j = m) : EvD K (tOp (rI0 fun i j => .int (i - j)) ta tb) σ H (.int m) := by
  rw [← e]
  exact ed_op ha hb rv_sub
theorem nT_eq (l : List Nat) : nT l = .tuple (l.map fun (n : Nat) => .int (n : Int)) := by
  unfold nT iT toI
  rw [List.map_map]
  rfl
theorem fdiv_nat (a b : Nat) : (a : Int).fdiv (b : Int) = ((a / b : Nat) : Int) := by
  rw [Int.fdiv_eq_ediv_of_nonneg _ (by omega)]
  simp
end
end EH

set_option Elab.async false
set_option linter.all false
set_option maxRecDepth 100000
set_option maxHeartbeats 4000000
namespace EH
open PySem PySem.Spec PyProof.Rows L2 Evl
theorem all_true {α : Type} (l : List α) : (l.map fun _ => true).all id = true := by
  induction l with
  | nil => rfl
  | cons a r ih => simp
theorem map_bools {α : Type} (l : List α) (f : α → Bool) : l.map (fun i => PyData.bool (f i)) = (l.map f).map PyData.bool := by
  rw [List.map_map]
  rfl
theorem all_id {α : Type} (l : List α) (f : α → Bool) : (l.map f).all id = l.all f := by
  rw [List.all_map]
  rfl
section
variable {P : Program} {w : World} {K : PySem.W.Frag} {mg : Str → Option Value} {base : Heap}
/-! ### is_strip, need_strip -/
def StOk (ns : List Int) : Prop := ns.length ≤ 40 ∧ ∀ n ∈ ns, 0 ≤ n ∧ n ≤ 3
def sp_is_strip (K : PySem.W.Frag) : Sp := spD K fun ds d => ∃ ns, ds = [iT ns] ∧ StOk ns ∧ d = .bool true
theorem ln_is_strip : ∀ vs H Q E, sp_is_strip K vs H Q E → vs.length = 1 := spD_len fun ds d ⟨i, e, _⟩ => by rw [e]; rfl
theorem sc_is_strip : FnScope ["thing", "hue"] ["thing"] (defScope (top 23)) := ⟨rfl, rfl, rfl, by decide +kernel, rfl, by decide +kernel, by decide +kernel⟩
theorem df_is_strip (T : Txt K mg) (F : FnT K mg "is_strip" (top 23)) (D_is_between : Df P w K mg base "is_between" 2 ["thing", "least", "most"] (sp_is_between K)) : Df P w K mg base "is_strip" 3 ["thing"] (sp_is_strip K) := by
  have nd := sc_is_strip.nd
  refine df_mk (k := 2) F sc_is_strip (fun _ _ _ _ _ _ us hl => match us, hl with | [_], _ => rfl) (ln_is_strip) (fun f cdv A outer s H vs Q E hr h => ?_)
  refine ⟨_, (pss_cons (ps_if (PW.pt (pw_or (pt_not (pt_val (pe_callB (r := rIsi K) call_isi rfl T.b_isinstance (by decide +kernel) (pa_cons (pv 0) (pa_cons (pe_bltn (v := .ty "tuple") rfl T.b_tuple (by decide +kernel) rfl) pa_nil))))) (pw_or1 (pt_cmpR op_gt (pe_callB (r := rLn K) call_len rfl T.b_len (by decide +kernel) (pa_cons (pv 0) pa_nil)) (pe_gi T.k_MOST_PLACES rfl) (nomark _))))) (pss_one (ps_ret pe_bl)) pss_nil)
      (pss_one (ps_ret (pe_callB (r := rAll K) (cr_all rfl) rfl T.b_all (by decide +kernel) (pa_cons (pe_lc (own := [("hue", 1)]) (g := gName 1) (tt := tYes) rfl nd (pi_tup (pv 0)) (blkOk_by (N := ["thing", "hue"]) (sc := defScope (top 23)) (by decide +kernel)) (fun _ _ _ _ _ => (pg_name (i := 1) nd rfl (by first | exact Or.inl rfl | exact Or.inr rfl))) (fun _ _ _ _ _ => pts_nil) (fun _ _ _ _ _ => (pe_d D_is_between (hr.mono (by decide)) rfl (pa_cons (pv 1) (pa_cons pe_int (pa_cons (pe_op op_sub (pe_gi T.k_HUES rfl) pe_int) pa_nil)))))) pa_nil))))), ?_⟩
  obtain ⟨ds, d, hv, ⟨ns, rfl, ok, rfl⟩, k⟩ := h
  obtain ⟨v, rfl, h1⟩ := dpa1 hv
  refine r_if (b := false) (et_is (et_or (a := false) (et_not (a := true) (et_B (ei_tup (ed_var h1) (flats_int ns)))) (fun _ => et_test (ed_op (ed_lenI (ed_var h1)) ed_int rv_gt))) ?_) (fun e => nomatch e) fun _ H1 e1 => ?_
  · have := ok.1
    simp only [Bool.false_or, decide_eq_false_iff_not]
    omega
  · have q := ed_all (K := K) (H := H1) (σ := L2.start ["thing", "hue"] [v]) (te := tLc (iTup K (tVar 0)) (gName 1) tYes (tCall (sp_is_between K) [] E0 (tCons (tVar 1) (tCons (tC (.int 0)) (tCons (tOp (rI0 fun i j => .int (i - j)) (tC (.int 4)) (tC (.int 1))) tNil)))) [1]) (bs := ns.map fun i => (decide (0 ≤ i) && decide (i ≤ 3))) ?_
    · rw [all_id, List.all_eq_true.mpr (fun n hn => by simp [ok.2 n hn])] at q
      exact r_retD q (kk e1 k)
    · rw [← map_bools]
      exact en_lcI _ (ed_var (dpx e1 h1)) (by have := ok.1; omega) (fun _ => rfl) (fun i hi H2 e2 => (en_call (eda_cons (ed_var (.int i)) (eda_cons ed_int (eda_cons (ed_op ed_int ed_int rv_sub) eda_nil))) ⟨i, 0, 3, rfl, rfl⟩).toD) (fun _ _ => rfl)
def sp_need_strip (K : PySem.W.Frag) : Sp := spD K fun ds d => ∃ ns, ds = [iT ns] ∧ StOk ns ∧ d = .none
theorem ln_need_strip : ∀ vs H Q E, sp_need_strip K vs H Q E → vs.length = 1 := spD_len fun ds d ⟨i, e, _⟩ => by rw [e]; rfl
theorem sc_need_strip : FnScope ["strip"] ["strip"] (defScope (top 24)) := ⟨rfl, rfl, rfl, by decide +kernel, rfl, by decide +kernel, by decide +kernel⟩
theorem df_need_strip (T : Txt K mg) (F : FnT K mg "need_strip" (top 24)) (D_is_strip : Df P w K mg base "is_strip" 3 ["thing"] (sp_is_strip K)) : Df P w K mg base "need_strip" 4 ["strip"] (sp_need_strip K) := by
  have nd := sc_need_strip.nd
  refine df_mk (k := 3) F sc_need_strip (fun _ _ _ _ _ _ us hl => match us, hl with | [_], _ => rfl) (ln_need_strip) (fun f cdv A outer s H vs Q E hr h => ?_)
  refine ⟨_, (pss_one (ps_if (pt_not (pt_val (pe_d D_is_strip (hr.mono (by decide)) rfl (pa_cons (pv 0) pa_nil)))) (pss_one ps_never) pss_nil)), ?_⟩
  obtain ⟨ds, d, hv, ⟨ns, rfl, ok, rfl⟩, k⟩ := h
  obtain ⟨v, rfl, h1⟩ := dpa1 hv
  exact s_when (b := false) (et_not (a := true) (et_B (en_call (eda_cons (ed_var h1) eda_nil) ⟨ns, rfl, ok, rfl⟩).toD)) (fun e => nomatch e) fun _ H1 e1 => k _ _ e1 .non
/-! ### rows -/
def sp_row_places (K : PySem.W.Frag) : Sp := spD K fun ds d => ∃ (r : Nat × Nat) (n : Nat), ds = [rowD r, .int (n : Int)] ∧ n ≤ 40 ∧ d = nT (rowPl r n)
theorem ln_row_places : ∀ vs H Q E, sp_row_places K vs H Q E → vs.length = 2 := spD_len fun ds d ⟨i, n, e, _⟩ => by rw [e]; rfl
theorem sc_row_places : FnScope ["row", "size", "k"] ["row", "size"] (defScope (top 28)) := ⟨rfl, rfl, rfl, by decide +kernel, rfl, by decide +kernel, by decide +kernel⟩
theorem df_row_places (T : Txt K mg) (F : FnT K mg "row_places" (top 28))  : Df P w K mg base "row_places" 1 ["row", "size"] (sp_row_places K) := by
  have nd := sc_row_places.nd
  refine df_mk (k := 0) F sc_row_places (fun _ _ _ _ _ _ us hl => match us, hl with | [_, _], _ => rfl) (ln_row_places) (fun f cdv A outer s H vs Q E hr h => ?_)
  refine ⟨_, (pss_one (ps_ret (pe_callTy (r := rTp K) call_tuple_of rfl T.b_tuple (by decide +kernel) (pa_cons (pe_lc (own := [("k", 2)]) (g := gName 2) (tt := tYes) rfl nd (pi_range1 rfl T.b_range (pa_cons (pv 1) pa_nil)) (blkOk_by (N := ["row", "size", "k"]) (sc := defScope (top 28)) (by decide +kernel)) (fun _ _ _ _ _ => (pg_name (i := 2) nd rfl (by first | exact Or.inl rfl | exact Or.inr rfl))) (fun _ _ _ _ _ => pts_nil) (fun _ _ _ _ _ => (pe_op op_add (pe_ix (r := rIxT K) ix_tup (pv 0) pe_int (fun _ _ => rfl)) (pe_op op_mul (pv 2) (pe_ix (r := rIxT K) ix_tup (pv 0) pe_int (fun _ _ => rfl)))))) pa_nil)))), ?_⟩
  obtain ⟨ds, d, hv, ⟨r, n, rfl, hn, rfl⟩, k⟩ := h
  obtain ⟨v, v2, rfl, h1, h2⟩ := dpa2 hv
  refine r_retD (d := nT (rowPl r n)) ?_ k (flat_nT _)
  rw [nT_eq]
  refine ed_tuple ?_
  unfold rowPl
  rw [List.map_map]
  refine (en_lcRa (lo := 0) (n := ((n : Int)).toNat) _ (ei_r1 (K := K) (eda_cons (ed_var h2) eda_nil) (by omega)) (fun i => .int ((r.1 : Int) + (i : Int) * (r.2 : Int))) (by omega) (fun _ => rfl) (fun i hi H1 e1 => ?_) (fun _ _ => rfl)).eq ?_
  · exact ed_add (ed_row0 (ed_var (dpx e1 h1)) ed_int) (ed_mul (ed_var (.int _)) (ed_row1 (ed_var (dpx e1 h1)) ed_int) ⟨by omega, by omega⟩ rfl) (by rw [Int.zero_add])
  · rw [Int.toNat_natCast]
    refine congrArg PyData.list (List.map_congr_left fun i _ => ?_)
    show PyData.int _ = PyData.int _
    simp
end
end EH

set_option Elab.async false
set_option linter.all false
set_option maxRecDepth 100000
set_option maxHeartbeats 4000000
namespace EH
open PySem PySem.Spec PyProof.Rows L2 Evl
section
variable {K : PySem.W.Frag} {σ : L2.St} {H H0 H1 H' : Hp} {ta tb tc te tl : TE} {t tt : TT} {a b c d : PyData} {v : V} {es ds : List PyData} {i j : Nat} {D : Ends} {tu tz : TS} {p : Addr} {g : TG}
theorem acc_new (a : Acc K H p ds H') : New K H H' (.ref p) (.list ds) := by
  obtain ⟨p1, p2, p3, xs, p4, p5⟩ := a
  exact ⟨p, xs, rfl, p1, p4, p5⟩
theorem acc_begin (h : H p = none) (e : Ex H H1) (q : ∃ xs, H1 p = some (.lst xs) ∧ DpAll K H1 xs ds) (f : flats ds = true := by rfl) : Acc K H p ds H1 := ⟨h, e, f, q⟩
theorem acc_mono (a : Acc K H0 p ds H) (e : Ex H H1) : Acc K H0 p ds H1 := by
  obtain ⟨p1, p2, p3, xs, p4, p5⟩ := a
  exact ⟨p1, p2.trans e, p3, xs, e p _ p4, dpxs e p5⟩
theorem acc_ext (a : Acc K H0 p ds H) (ha : σ[i]? = some (some (.ref p))) (h : EvN K te σ H (.list es)) (fe : flats es = true) (hz : ds.length + es.length ≤ 100000) (k : ∀ H', Acc K H0 p (ds ++ es) H' → D.nx σ H') : tDrop (tBM K "list" rExtend (tVar i) (tCons te tNil)) D σ H := by
  obtain ⟨p1, p2, p3, xs, p4, p5⟩ := a
  refine r_ext p4 ha p5 p3 h fe (by rw [dpa_len p5]; exact hz) fun H1 ys e1 _ q => k _ ⟨p1, Ex.mut (p2.trans e1) p1, by rw [flats_append, p3, fe]; rfl, ys, upd_same, q⟩
theorem acc_app (a : Acc K H0 p ds H) (ha : σ[i]? = some (some (.ref p))) (h : EvD K te σ H d) (fe : flat d = true) (hz : ds.length < 100000) (k : ∀ H', Acc K H0 p (ds ++ [d]) H' → D.nx σ H') : tDrop (tBM K "list" rAppend (tVar i) (tCons te tNil)) D σ H := by
  obtain ⟨p1, p2, p3, xs, p4, p5⟩ := a
  refine r_app p4 ha p5 p3 h fe (by rw [dpa_len p5]; exact hz) fun H1 ys e1 _ q => k _ ⟨p1, Ex.mut (p2.trans e1) p1, by rw [flats_append, p3]; simp [flats, fe], ys, upd_same, q⟩
theorem r_forR {lo : Int} {n : Nat} {wi : TI} (hwi : ∀ H1, Ex H H1 → ∀ R : It → Hp → Prop, (∀ H2, Ex H1 H2 → R (Itr lo n) H2) → wi σ H1 R) (Pv : Nat → L2.St → Hp → Prop) (h0 : ∀ H1, Ex H H1 → Pv 0 σ H1)
    (hs : ∀ (i : Nat) σ' H', i < n → Pv i σ' H' → tu { D with nx := Pv (i + 1), ct := Pv (i + 1), bk := tz D } (σ'.set j (some (.int (lo + (i : Int))))) H') (hd : ∀ σ' H', Pv n σ' H' → tz D σ' H') : tSeq (tFor wi (gName j) tu) tz D σ H :=
  hwi H (Ex.refl H) _ fun H2 e => for_range (D := { D with nx := tz D }) Pv (h0 H2 e) hs hd
/-- a loop over a tuple: Hb, the heap where it was evaluated -/
theorem r_forT (h : EvD K tl σ H (.tuple es)) (Pv : Hp → Nat → L2.St → Hp → Prop) (h0 : ∀ H1, Ex H H1 → Pv H1 0 σ H1) (hE : ∀ H1 i σ' H', Pv H1 i σ' H' → ∀ b xs, H1 b = some (.tup xs) → H' b = some (.tup xs)) (hF : ∀ H1 i σ' H', Pv H1 i σ' H' → ∀ b o u, H1 b = some (.frz o u) → H' b = some (.frz o u))
    (hs : ∀ H1 (i : Nat) e v σ' H', Ex H H1 → es[i]? = some e → Dp K H1 v e → Pv H1 i σ' H' → g v σ' H' fun σ2 H2 => tu { D with nx := Pv H1 (i + 1), ct := Pv H1 (i + 1), bk := tz D } σ2 H2) (hd : ∀ H1 σ' H', Ex H H1 → Pv H1 es.length σ' H' → tz D σ' H') : tSeq (tFor (iTup K tl) g tu) tz D σ H :=
  h H (Ex.refl H) _ fun v H1 e1 dv => by
    obtain ⟨a, xs, rfl, hs', ha⟩ := dp_tup dv
    refine ⟨a, rfl, ⟨xs, hs'⟩, for_tup (D := { D with nx := tz D }) (Pv H1) (h0 H1 e1) (fun i σ' H' _ p => ?_) (fun i x σ' H' hx p => ?_) (fun σ' H' p => hd H1 σ' H' e1 (by rw [← dpa_len ha]; exact p))⟩
    · rcases hs' with (q | ⟨o, q⟩) | q
      · exact .inl (.inl (hE H1 i σ' H' p _ _ q))
      · exact .inl (.inr ⟨o, hF H1 i σ' H' p _ _ _ q⟩)
      · exact .inr q
    · obtain ⟨e, he, de⟩ := dpa_getV ha hx
      exact hs H1 i e x σ' H' e1 he de p
/-- a loop over a list that stands -/
theorem r_forL (h : EvD K tl σ H (.list es)) (Pv : Hp → Addr → List V → Nat → L2.St → Hp → Prop) (h0 : ∀ H1 a xs, Ex H H1 → SqL K H1 a xs → DpAll K H1 xs es → Pv H1 a xs 0 σ H1) (hl : ∀ H1 a xs i σ' H', Pv H1 a xs i σ' H' → SqL K H' a xs)
    (hs : ∀ H1 a xs (i : Nat) e v σ' H', Ex H H1 → es[i]? = some e → xs[i]? = some v → Dp K H1 v e → Pv H1 a xs i σ' H' → g v σ' H' fun σ2 H2 => tu { D with nx := Pv H1 a xs (i + 1), ct := Pv H1 a xs (i + 1), bk := tz D } σ2 H2) (hd : ∀ H1 a xs σ' H', Ex H H1 → Pv H1 a xs es.length σ' H' → tz D σ' H') : tSeq (tFor (iList K tl) g tu) tz D σ H :=
  h H (Ex.refl H) _ fun v H1 e1 dv => by
    obtain ⟨a, xs, rfl, hs', ha⟩ := dp_lst dv
    refine ⟨a, rfl, ⟨xs, hs'⟩, for_list (D := { D with nx := tz D }) (Pv H1 a xs) (h0 H1 a xs e1 hs' ha) (fun i σ' H' _ p => hl H1 a xs i σ' H' p) (fun i x σ' H' hx p => ?_) (fun σ' H' p => hd H1 a xs σ' H' e1 (by rw [← dpa_len ha]; exact p))⟩
    obtain ⟨e, he, de⟩ := dpa_getV ha hx
    exact hs H1 a xs i e x σ' H' e1 he hx de p
/-- a loop over a list, nothing written -/
theorem r_forLx (h : EvD K tl σ H (.list es)) (Pv : Nat → L2.St → Prop) (h0 : Pv 0 σ)
    (hs : ∀ (i : Nat) e v σ' H', Ex H H' → es[i]? = some e → Dp K H' v e → Pv i σ' → g v σ' H' fun σ2 H2 => tu { D with nx := fun σ3 H3 => Ex H' H3 ∧ Pv (i + 1) σ3, ct := fun σ3 H3 => Ex H' H3 ∧ Pv (i + 1) σ3, bk := tz D } σ2 H2) (hd : ∀ σ' H', Ex H H' → Pv es.length σ' → tz D σ' H') : tSeq (tFor (iList K tl) g tu) tz D σ H :=
  h H (Ex.refl H) _ fun v H1 e1 dv => by
    obtain ⟨a, xs, rfl, hs', ha⟩ := dp_lst dv
    refine ⟨a, rfl, ⟨xs, hs'⟩, ?_⟩
    refine ⟨fun i m σ' H' => m = xs.length - i ∧ i ≤ xs.length ∧ Ex H1 H' ∧ Pv i σ', ⟨xs.length, rfl, Nat.zero_le _, Ex.refl H1, h0⟩, ?_⟩
    rintro i m σ' H' ⟨rfl, hi, e2, p⟩
    by_cases hlt : i < xs.length
    · refine .inr ⟨⟨xs, xs[i], ex_l e2 hs', by simp [hlt]⟩, fun σ3 H3 => Ex H' H3 ∧ Pv (i + 1) σ3, fun σ3 H3 ⟨e3, q⟩ => ⟨xs.length - (i + 1), by omega, rfl, hlt, e2.trans e3, q⟩, fun x H4 y => ?_⟩
      obtain ⟨rfl, hx⟩ := y
      obtain ⟨e, he, de⟩ := dpa_getV ha (hx xs (ex_l e2 hs'))
      exact hs i e x σ' H4 (e1.trans e2) he (dpx e2 de) p
    · have z : i = xs.length := by omega
      subst z
      exact .inl ⟨⟨xs, ex_l e2 hs', Nat.le_refl _⟩, hd σ' H' (e1.trans e2) (by rw [← dpa_len ha]; exact p)⟩
/-- a loop over a tuple, nothing written -/
theorem r_forTx (h : EvD K tl σ H (.tuple es)) (Pv : Nat → L2.St → Prop) (h0 : Pv 0 σ)
    (hs : ∀ (i : Nat) e v σ' H', Ex H H' → es[i]? = some e → Dp K H' v e → Pv i σ' → g v σ' H' fun σ2 H2 => tu { D with nx := fun σ3 H3 => Ex H' H3 ∧ Pv (i + 1) σ3, ct := fun σ3 H3 => Ex H' H3 ∧ Pv (i + 1) σ3, bk := tz D } σ2 H2) (hd : ∀ σ' H', Ex H H' → Pv es.length σ' → tz D σ' H') : tSeq (tFor (iTup K tl) g tu) tz D σ H :=
  h H (Ex.refl H) _ fun v H1 e1 dv => by
    obtain ⟨a, xs, rfl, hs', ha⟩ := dp_tup dv
    refine ⟨a, rfl, ⟨xs, hs'⟩, ?_⟩
    refine ⟨fun i m σ' H' => m = xs.length - i ∧ i ≤ xs.length ∧ Ex H1 H' ∧ Pv i σ', ⟨xs.length, rfl, Nat.zero_le _, Ex.refl H1, h0⟩, ?_⟩
    rintro i m σ' H' ⟨rfl, hi, e2, p⟩
    by_cases hlt : i < xs.length
    · refine .inr ⟨⟨xs, xs[i], ex_t e2 hs', by simp [hlt]⟩, fun σ3 H3 => Ex H' H3 ∧ Pv (i + 1) σ3, fun σ3 H3 ⟨e3, q⟩ => ⟨xs.length - (i + 1), by omega, rfl, hlt, e2.trans e3, q⟩, fun x H4 y => ?_⟩
      obtain ⟨rfl, hx⟩ := y
      obtain ⟨e, he, de⟩ := dpa_getV ha (hx xs (ex_t e2 hs'))
      exact hs i e x σ' H4 (e1.trans e2) he (dpx e2 de) p
    · have z : i = xs.length := by omega
      subst z
      exact .inl ⟨⟨xs, ex_t e2 hs', Nat.le_refl _⟩, hd σ' H' (e1.trans e2) (by rw [← dpa_len ha]; exact p)⟩
theorem s_forR {lo : Int} {n : Nat} {wi : TI} (hwi : ∀ H1, Ex H H1 → ∀ R : It → Hp → Prop, (∀ H2, Ex H1 H2 → R (Itr lo n) H2) → wi σ H1 R) (Pv : Nat → L2.St → Hp → Prop) (h0 : ∀ H1, Ex H H1 → Pv 0 σ H1)
    (hs : ∀ (i : Nat) σ' H', i < n → Pv i σ' H' → tu { D with nx := Pv (i + 1), ct := Pv (i + 1), bk := D.nx } (σ'.set j (some (.int (lo + (i : Int))))) H') (hd : ∀ σ' H', Pv n σ' H' → D.nx σ' H') : tFor wi (gName j) tu D σ H :=
  hwi H (Ex.refl H) _ fun H2 e => for_range Pv (h0 H2 e) hs hd
theorem dpa_perm {ys xs : List V} (hp : ys.Perm xs) : ∀ {ds : List PyData}, DpAll K H xs ds → ∃ ds', ds'.Perm ds ∧ DpAll K H ys ds' := by
  induction hp with
  | nil => exact fun h => ⟨_, .refl _, h⟩
  | cons x _ ih =>
    intro ds h
    cases h with
    | cons h t =>
      obtain ⟨ds', h1, h2⟩ := ih t
      exact ⟨_, h1.cons _, .cons h h2⟩
  | swap x y l =>
    intro ds h
    cases h with
    | cons h t =>
      cases t with
      | cons h2 t => exact ⟨_, .swap _ _ _, .cons h2 (.cons h t)⟩
  | trans _ _ ih1 ih2 =>
    intro ds h
    obtain ⟨d1, a1, a2⟩ := ih2 h
    obtain ⟨d2, b1, b2⟩ := ih1 a2
    exact ⟨d2, b1.trans a1, b2⟩
theorem perm_map_rows : ∀ {ds : List PyData} {rs : List (Nat × Nat)}, ds.Perm (rs.map rowD) → ∃ rs' : List (Nat × Nat), rs'.Perm rs ∧ ds = rs'.map rowD := by
  intro ds rs h
  generalize hq : rs.map rowD = q at h
  induction h generalizing rs with
  | nil =>
    cases rs with
    | nil => exact ⟨[], List.Perm.refl _, rfl⟩
    | cons _ _ => cases hq
  | cons x _ ih =>
    cases rs with
    | nil => cases hq
    | cons r rr =>
      injection hq with h1 h2
      obtain ⟨rs', a, b⟩ := ih h2
      exact ⟨r :: rs', a.cons r, by rw [b, ← h1]; rfl⟩
  | swap x y l =>
    cases rs with
    | nil => cases hq
    | cons r rr =>
      cases rr with
      | nil => cases hq
      | cons r2 rr =>
        injection hq with h1 h2
        injection h2 with h2 h3
        exact ⟨r2 :: r :: rr, .swap _ _ _, by rw [← h1, ← h2, ← h3]; rfl⟩
  | trans _ _ ih1 ih2 =>
    obtain ⟨r1, a1, b1⟩ := ih2 hq
    obtain ⟨r2, a2, b2⟩ := ih1 b1.symm
    exact ⟨r2, a2.trans a1, b2⟩
/-- sorted of rows: some order -/
theorem en_sorted {rs : List (Nat × Nat)} (h : EvD K te σ H (.list (rs.map rowD))) : ∀ H1, Ex H H1 → ∀ Q : VK, (∀ (rs' : List (Nat × Nat)) v H2, rs'.Perm rs → Ex H1 H2 → New K H1 H2 v (.list (rs'.map rowD)) → Q v H2) → tCB (rSortedP K) (tCons te tNil) σ H1 Q := fun H1 e Q q => h H1 e _ fun v H2 e2 dv => by
  obtain ⟨a, xs, rfl, hs, ha⟩ := dp_lstR dv
  refine ⟨a, xs, rfl, sq_of hs, fun x hx => ?_, fun ys p hp hn => ?_⟩
  · obtain ⟨i, hi⟩ := List.mem_iff_getElem?.mp hx
    obtain ⟨d, hd, dd⟩ := dpa_getV ha hi
    rw [List.getElem?_map] at hd
    obtain ⟨r, hr, rfl⟩ := Option.map_eq_some_iff.mp hd
    obtain ⟨t, ws, rfl, ht, hw⟩ := dp_tupR (ds := [.int (r.1 : Int), .int (r.2 : Int)]) dd
    obtain ⟨v1, v2, rfl, h1, h2⟩ := dpa2 hw
    rw [dp_int h1, dp_int h2] at ht
    exact ⟨t, _, _, rfl, ht⟩
  · obtain ⟨ds', h1, h2⟩ := dpa_perm hp ha
    obtain ⟨rs', h3, rfl⟩ := perm_map_rows h1
    exact q rs' _ _ h3 (e2.trans (Ex.new hn)) ⟨p, ys, rfl, fresh_back e2 hn, upd_same, dpxs (Ex.new hn) h2⟩
/-- for i, x in enumerate(t): t a tuple -/
theorem s_forE {j1 j2 : Nat} (h : EvD K te σ H (.tuple es)) (Pv : Hp → Nat → L2.St → Hp → Prop) (h0 : ∀ H1, Ex H H1 → Pv H1 0 σ H1) (hE : ∀ H1 i σ' H', Pv H1 i σ' H' → ∀ b xs, H1 b = some (.tup xs) → H' b = some (.tup xs))
    (hs : ∀ H1 (i : Nat) e v σ' H' H2, Ex H H1 → es[i]? = some e → Dp K H1 v e → Pv H1 i σ' H' → Ex H' H2 → tu { D with nx := Pv H1 (i + 1), ct := Pv H1 (i + 1), bk := D.nx } ((σ'.set j1 (some (.int (i : Int)))).set j2 (some v)) H2) (hd : ∀ H1 σ' H', Ex H H1 → Pv H1 es.length σ' H' → D.nx σ' H') :
    tFor (iEnumT K (tCons te tNil)) (gTup K 2 (gCons (gName j1) (gCons (gName j2) gNil))) tu D σ H :=
  h H (Ex.refl H) _ fun v H1 e1 dv => by
    obtain ⟨a, xs, rfl, hs', ha⟩ := dp_tupR dv
    refine ⟨a, xs, rfl, st_of hs', for_it walk_enumT (Pv H1) (h0 H1 e1) (fun i σ' H' _ p => st_of (hE H1 i σ' H' p _ _ hs')) (fun i x σ' H' H2 hi p y => ?_) (fun σ' H' p => hd H1 σ' H' e1 (by rw [← dpa_len ha]; exact p))⟩
    obtain ⟨T, x1, x2, rfl, hT, rfl, q1, q2⟩ := y
    obtain rfl := Option.some.inj q1
    obtain ⟨e, he, de⟩ := dpa_getV ha q2
    exact ⟨T, _, rfl, st_of upd_same, rfl, _, _, rfl, _, _, rfl, rfl, hs H1 i e x2 σ' H' _ e1 he de p (Ex.new hT)⟩
theorem r_forE {j1 j2 : Nat} (h : EvD K te σ H (.tuple es)) (Pv : Hp → Nat → L2.St → Hp → Prop) (h0 : ∀ H1, Ex H H1 → Pv H1 0 σ H1) (hE : ∀ H1 i σ' H', Pv H1 i σ' H' → ∀ b xs, H1 b = some (.tup xs) → H' b = some (.tup xs))
    (hs : ∀ H1 (i : Nat) e v σ' H' H2, Ex H H1 → es[i]? = some e → Dp K H1 v e → Pv H1 i σ' H' → Ex H' H2 → tu { D with nx := Pv H1 (i + 1), ct := Pv H1 (i + 1), bk := tz D } ((σ'.set j1 (some (.int (i : Int)))).set j2 (some v)) H2) (hd : ∀ H1 σ' H', Ex H H1 → Pv H1 es.length σ' H' → tz D σ' H') :
    tSeq (tFor (iEnumT K (tCons te tNil)) (gTup K 2 (gCons (gName j1) (gCons (gName j2) gNil))) tu) tz D σ H := s_forE (D := { D with nx := tz D }) h Pv h0 hE hs hd
/-- [.. for i, x in enumerate(t) if ..] -/
theorem en_lcE {j1 j2 : Nat} {vs : List Nat} (p : Nat → PyData → Bool) (f : Nat → PyData → PyData) (h : EvD K te σ H (.tuple es)) (hz : es.length ≤ 40000) (hw : ∀ x y, wipe (((wipe σ vs).set j1 (some x)).set j2 (some y)) vs = wipe σ vs)
    (ht : ∀ (i : Nat) e v H1, Ex H H1 → es[i]? = some e → Dp K H1 v e → EvT tt (((wipe σ vs).set j1 (some (.int (i : Int)))).set j2 (some v)) H1 (p i e)) (he : ∀ (i : Nat) e v H1, Ex H H1 → es[i]? = some e → Dp K H1 v e → p i e = true → EvD K tb (((wipe σ vs).set j1 (some (.int (i : Int)))).set j2 (some v)) H1 (f i e) ∧ flat (f i e) = true) (ds' : Nat → List PyData) (hd0 : ds' 0 = []) (hd1 : ∀ i e, es[i]? = some e → ds' (i + 1) = if p i e then ds' i ++ [f i e] else ds' i) (hdl : ∀ i, (ds' i).length < 100000) :
    EvN K (tLc (iEnumT K (tCons te tNil)) (gTup K 2 (gCons (gName j1) (gCons (gName j2) gNil))) tt tb vs) σ H (.list (ds' es.length)) := fun H0 e0 Q q => h H0 e0 _ fun v H1 e1 dv => by
  obtain ⟨a, xs, rfl, hs, ha⟩ := dp_tupR dv
  refine ⟨a, xs, rfl, st_of hs, fun Dl hD => lc_it walk_enumT (fun i H' => Acc K H1 Dl (ds' i) H') (by rw [hd0]; exact acc_nil hD) (fun i H' _ p => st_of (p.2.1 _ _ hs)) (fun i x H' H2 hi pa y => ?_) (fun H' pa => ?_)⟩
  · obtain ⟨T, x1, x2, rfl, hT, rfl, q1, q2⟩ := y
    obtain rfl := Option.some.inj q1
    obtain ⟨e, hei, de⟩ := dpa_getV ha q2
    refine ⟨T, _, rfl, st_of upd_same, rfl, _, _, rfl, _, _, rfl, rfl, hw _ _, ?_⟩
    refine acc_turn (acc_mono pa (Ex.new hT)) (hdl i) (ht i e x2 H1 (e0.trans e1) hei de) (he i e x2 H1 (e0.trans e1) hei de) fun H3 q3 => ?_
    rw [hd1 i e hei]
    exact q3
  · rw [dpa_len ha] at pa
    obtain ⟨p1, p2, p3, acc, p4, p5⟩ := pa
    exact q _ H' (e1.trans p2) ⟨Dl, acc, rfl, fresh_back e1 p1, p4, p5⟩
/-- the same over a name's tuple, known from an earlier heap -/
theorem s_forEv {i0 j1 j2 : Nat} (hv : Dp K H0 v (.tuple es)) (hσ : σ[i0]? = some (some v)) (Pv : Nat → L2.St → Hp → Prop) (h0 : Pv 0 σ H) (hE : ∀ i σ' H', Pv i σ' H' → Ex H0 H')
    (hs : ∀ (i : Nat) e x σ' H' H2, es[i]? = some e → Dp K H0 x e → Pv i σ' H' → Ex H' H2 → tu { D with nx := Pv (i + 1), ct := Pv (i + 1), bk := D.nx } ((σ'.set j1 (some (.int (i : Int)))).set j2 (some x)) H2) (hd : ∀ σ' H', Pv es.length σ' H' → D.nx σ' H') :
    tFor (iEnumT K (tCons (tVar i0) tNil)) (gTup K 2 (gCons (gName j1) (gCons (gName j2) gNil))) tu D σ H := by
  obtain ⟨a, xs, rfl, hs', ha⟩ := dp_tupR hv
  refine ⟨_, hσ, a, xs, rfl, st_of (hE 0 σ H h0 _ _ hs'), for_it walk_enumT Pv h0 (fun i σ' H' _ p => st_of (hE i σ' H' p _ _ hs')) (fun i x σ' H' H2 hi p y => ?_) (fun σ' H' p => hd σ' H' (by rw [← dpa_len ha]; exact p))⟩
  obtain ⟨T, x1, x2, rfl, hT, rfl, q1, q2⟩ := y
  obtain rfl := Option.some.inj q1
  obtain ⟨e, he, de⟩ := dpa_getV ha q2
  exact ⟨T, _, rfl, st_of upd_same, rfl, _, _, rfl, _, _, rfl, rfl, hs i e x2 σ' H' _ he de p (Ex.new hT)⟩
theorem r_forEv {i0 j1 j2 : Nat} (hv : Dp K H0 v (.tuple es)) (hσ : σ[i0]? = some (some v)) (Pv : Nat → L2.St → Hp → Prop) (h0 : Pv 0 σ H) (hE : ∀ i σ' H', Pv i σ' H' → Ex H0 H')
    (hs : ∀ (i : Nat) e x σ' H' H2, es[i]? = some e → Dp K H0 x e → Pv i σ' H' → Ex H' H2 → tu { D with nx := Pv (i + 1), ct := Pv (i + 1), bk := tz D } ((σ'.set j1 (some (.int (i : Int)))).set j2 (some x)) H2) (hd : ∀ σ' H', Pv es.length σ' H' → tz D σ' H') :
    tSeq (tFor (iEnumT K (tCons (tVar i0) tNil)) (gTup K 2 (gCons (gName j1) (gCons (gName j2) gNil))) tu) tz D σ H := s_forEv (D := { D with nx := tz D }) hv hσ Pv h0 hE hs hd
/-- all but what stands at p is as it was -/
def Keep (p : Addr) (H H' : Hp) : Prop := ∀ b o, b ≠ p → H b = some o → H' b = some o
theorem Keep.of (e : Ex H H') : Keep p H H' := fun b o _ h => e b o h
theorem Keep.trans {H2 : Hp} (a : Keep p H H1) (b : Keep p H1 H2) : Keep p H H2 := fun c o n h => b c o n (a c o n h)
theorem Keep.upd {o : HO} : Keep p H (upd H p o) := fun b u n h => by rw [upd_ne n]; exact h
theorem acc_extK (a : Acc K H0 p ds H) (ha : σ[i]? = some (some (.ref p))) (h : EvN K te σ H (.list es)) (fe : flats es = true) (hz : ds.length + es.length ≤ 100000) (k : ∀ H', Acc K H0 p (ds ++ es) H' → Keep p H H' → D.nx σ H') : tDrop (tBM K "list" rExtend (tVar i) (tCons te tNil)) D σ H := by
  obtain ⟨p1, p2, p3, xs, p4, p5⟩ := a
  refine r_ext p4 ha p5 p3 h fe (by rw [dpa_len p5]; exact hz) fun H1 ys e1 _ q => k _ ⟨p1, Ex.mut (p2.trans e1) p1, by rw [flats_append, p3, fe]; rfl, ys, upd_same, q⟩ ((Keep.of e1).trans Keep.upd)
theorem acc_appK (a : Acc K H0 p ds H) (ha : σ[i]? = some (some (.ref p))) (h : EvD K te σ H d) (fe : flat d = true) (hz : ds.length < 100000) (k : ∀ H', Acc K H0 p (ds ++ [d]) H' → Keep p H H' → D.nx σ H') : tDrop (tBM K "list" rAppend (tVar i) (tCons te tNil)) D σ H := by
  obtain ⟨p1, p2, p3, xs, p4, p5⟩ := a
  refine r_app p4 ha p5 p3 h fe (by rw [dpa_len p5]; exact hz) fun H1 ys e1 _ q => k _ ⟨p1, Ex.mut (p2.trans e1) p1, by rw [flats_append, p3]; simp [flats, fe], ys, upd_same, q⟩ ((Keep.of e1).trans Keep.upd)
/-- the loop behind an evaluated list -/
theorem loopL {q : Addr} {xs : List V} (hx : H q = some (.lst xs)) (ha : DpAll K H xs es) (Pv : Nat → L2.St → Hp → Prop) (h0 : Pv 0 σ H) (hl : ∀ i σ' H', Pv i σ' H' → H' q = some (.lst xs))
    (hs : ∀ (i : Nat) e x σ' H', es[i]? = some e → Dp K H x e → Pv i σ' H' → g x σ' H' fun σ2 H2 => tu { D with nx := Pv (i + 1), ct := Pv (i + 1), bk := D.nx } σ2 H2) (hd : ∀ σ' H', Pv es.length σ' H' → D.nx σ' H') :
    ∃ a, V.ref q = V.ref a ∧ (∃ xs, SqL K H a xs) ∧ ∃ W : Nat → Nat → L2.St → Hp → Prop, (∃ m, W 0 m σ H) ∧ ∀ i m σ H, W i m σ H →
      ((Itl K a).stop i H ∧ D.nx σ H) ∨ ((Itl K a).go i H ∧ ∃ N : L2.St → Hp → Prop, (∀ σ' H', N σ' H' → ∃ m', m' < m ∧ W (i + 1) m' σ' H') ∧ ∀ x H', (Itl K a).yld i H x H' → g x σ H' fun σ2 H2 => tu { D with nx := N, ct := N, bk := D.nx } σ2 H2) :=
  ⟨q, rfl, ⟨xs, sq_of hx⟩, for_list Pv h0 (fun i σ' H' _ p => sq_of (hl i σ' H' p)) (fun i x σ' H' hi p => by
    obtain ⟨e, he, de⟩ := dpa_getV ha hi
    exact hs i e x σ' H' he de p) (fun σ' H' p => hd σ' H' (by rw [← dpa_len ha]; exact p))⟩
/-- what a for asks behind its walked thing -/
abbrev ForW (J : It) (g : TG) (tu : TS) (D : Ends) (σ : L2.St) (H : Hp) : Prop := ∃ W : Nat → Nat → L2.St → Hp → Prop, (∃ m, W 0 m σ H) ∧ ∀ i m σ H, W i m σ H →
  (J.stop i H ∧ D.nx σ H) ∨ (J.go i H ∧ ∃ N : L2.St → Hp → Prop, (∀ σ' H', N σ' H' → ∃ m', m' < m ∧ W (i + 1) m' σ' H') ∧ ∀ x H', J.yld i H x H' → g x σ H' fun σ2 H2 => tu { D with nx := N, ct := N, bk := D.nx } σ2 H2)
theorem r_forCall {sp : Sp} {dvs : List V} {E : XK} {ta : TA} (h : EvDA K ta σ H ds) (k : ∀ vs H1, Ex H H1 → DpAll K H1 vs ds → sp (vs ++ dvs) H1 (fun x H2 => ∃ a, x = V.ref a ∧ (∃ xs, SqL K H2 a xs) ∧ ForW (Itl K a) g tu { D with nx := tz D } σ H2) E) :
    tSeq (tFor (iList K (tCall sp dvs E ta)) g tu) tz D σ H := h H (Ex.refl H) _ k
mutual
theorem dpk {p : Addr} {xs : List V} (hp : H p = some (.lst xs)) (kp : Keep p H H') : ∀ {d : PyData} {v : V}, flat d = true → Dp K H v d → Dp K H' v d
  | _, _, _, .non => .non
  | _, _, _, .bl b => .bl b
  | _, _, _, .int i => .int i
  | _, _, _, .str x => .str x
  | _, _, f, .lst hs ha => by simp [flat] at f
  | _, _, f, .tup hs ha => .tup (kp _ _ (ne_of hs hp (by intro z; cases z)) hs) (dpks hp kp (by simpa [flat] using f) ha)
theorem dpks {p : Addr} {xs : List V} (hp : H p = some (.lst xs)) (kp : Keep p H H') : ∀ {ds : List PyData} {vs : List V}, flats ds = true → DpAll K H vs ds → DpAll K H' vs ds
  | _, _, _, .nil => .nil
  | _, _, f, .cons h t => by
    simp only [flats, Bool.and_eq_true] at f
    exact .cons (dpk hp kp f.1 h) (dpks hp kp f.2 t)
end
theorem s_asgD {i : Nat} (h : EvD K te σ H d) (k : ∀ v H1, Ex H H1 → Dp K H1 v d → D.nx (σ.set i (some v)) H1) : tAsg te (gName i) D σ H := h H (Ex.refl H) _ k
/-- a loop over a name's list, known from an earlier heap -/
theorem s_forLv {i0 : Nat} (hv : Dp K H0 v (.list es)) (hσ : σ[i0]? = some (some v)) (Pv : Nat → L2.St → Hp → Prop) (h0 : Pv 0 σ H) (hE : ∀ i σ' H', Pv i σ' H' → Ex H0 H')
    (hs : ∀ (i : Nat) e x σ' H', es[i]? = some e → Dp K H0 x e → Pv i σ' H' → g x σ' H' fun σ2 H2 => tu { D with nx := Pv (i + 1), ct := Pv (i + 1), bk := D.nx } σ2 H2) (hd : ∀ σ' H', Pv es.length σ' H' → D.nx σ' H') :
    tFor (iList K (tVar i0)) g tu D σ H := by
  obtain ⟨a, xs, rfl, hs', ha⟩ := dp_lstR hv
  refine ⟨_, hσ, a, rfl, ⟨xs, sq_of (hE 0 σ H h0 _ _ hs')⟩, for_list Pv h0 (fun i σ' H' _ p => sq_of (hE i σ' H' p _ _ hs')) (fun i x σ' H' hi p => ?_) (fun σ' H' p => hd σ' H' (by rw [← dpa_len ha]; exact p))⟩
  obtain ⟨e, he, de⟩ := dpa_getV ha hi
  exact hs i e x σ' H' he de p
theorem r_forLv {i0 : Nat} (hv : Dp K H0 v (.list es)) (hσ : σ[i0]? = some (some v)) (Pv : Nat → L2.St → Hp → Prop) (h0 : Pv 0 σ H) (hE : ∀ i σ' H', Pv i σ' H' → Ex H0 H')
    (hs : ∀ (i : Nat) e x σ' H', es[i]? = some e → Dp K H0 x e → Pv i σ' H' → g x σ' H' fun σ2 H2 => tu { D with nx := Pv (i + 1), ct := Pv (i + 1), bk := tz D } σ2 H2) (hd : ∀ σ' H', Pv es.length σ' H' → tz D σ' H') :
    tSeq (tFor (iList K (tVar i0)) g tu) tz D σ H := s_forLv (D := { D with nx := tz D }) hv hσ Pv h0 hE hs hd
/-- a loop over a list; a turn writes nothing that stood at its start -/
theorem r_forLy (h : EvD K tl σ H (.list es)) (Pv : Nat → L2.St → Hp → Prop) (h0 : ∀ H1, Ex H H1 → Pv 0 σ H1)
    (hs : ∀ (i : Nat) e v σ' H', Ex H H' → es[i]? = some e → Dp K H' v e → Pv i σ' H' → g v σ' H' fun σ2 H2 => tu { D with nx := fun σ3 H3 => Ex H' H3 ∧ Pv (i + 1) σ3 H3, ct := fun σ3 H3 => Ex H' H3 ∧ Pv (i + 1) σ3 H3, bk := tz D } σ2 H2) (hd : ∀ σ' H', Ex H H' → Pv es.length σ' H' → tz D σ' H') : tSeq (tFor (iList K tl) g tu) tz D σ H :=
  h H (Ex.refl H) _ fun v H1 e1 dv => by
    obtain ⟨a, xs, rfl, hs', ha⟩ := dp_lstR dv
    refine ⟨a, rfl, ⟨xs, sq_of hs'⟩, ?_⟩
    refine ⟨fun i m σ' H' => m = xs.length - i ∧ i ≤ xs.length ∧ Ex H1 H' ∧ Pv i σ' H', ⟨xs.length, rfl, Nat.zero_le _, Ex.refl H1, h0 H1 e1⟩, ?_⟩
    rintro i m σ' H' ⟨rfl, hi, e2, p⟩
    by_cases hlt : i < xs.length
    · refine .inr ⟨⟨xs, xs[i], sq_of (e2 _ _ hs'), by simp [hlt]⟩, fun σ3 H3 => Ex H' H3 ∧ Pv (i + 1) σ3 H3, fun σ3 H3 ⟨e3, q⟩ => ⟨xs.length - (i + 1), by omega, rfl, hlt, e2.trans e3, q⟩, fun x H4 y => ?_⟩
      obtain ⟨rfl, hx⟩ := y
      obtain ⟨e, he, de⟩ := dpa_getV ha (hx xs (sq_of (e2 _ _ hs')))
      exact hs i e x σ' H4 (e1.trans e2) he (dpx e2 de) p
    · have z : i = xs.length := by omega
      subst z
      exact .inl ⟨⟨xs, sq_of (e2 _ _ hs'), Nat.le_refl _⟩, hd σ' H' (e1.trans e2) (by rw [← dpa_len ha]; exact p)⟩
theorem s_asgN {i : Nat} (h : EvN K te σ H (.list ds)) (k : ∀ p H1, H p = none → Ex H H1 → (∃ xs, H1 p = some (.lst xs) ∧ DpAll K H1 xs ds) → D.nx (σ.set i (some (.ref p))) H1) : tAsg te (gName i) D σ H := h H (Ex.refl H) _ fun v H1 e n => by
  obtain ⟨q, xs, rfl, h1, h2, h3⟩ := n
  exact k q H1 h1 e ⟨xs, h2, h3⟩
theorem acc_keep {q : Addr} {us : List V} (a : Acc K H0 q ds H) (hp : H p = some (.lst us)) (np : H0 p = none) (n : q ≠ p) (kp : Keep p H H1) : Acc K H0 q ds H1 := by
  obtain ⟨p1, p2, p3, xs, p4, p5⟩ := a
  exact ⟨p1, fun b o hb => kp b o (ne_of_none hb np) (p2 b o hb), p3, xs, kp _ _ n p4, dpks hp kp p3 p5⟩
end
end EH

set_option Elab.async false
set_option linter.all false
set_option maxRecDepth 100000
set_option maxHeartbeats 4000000
namespace EH
open PySem PySem.Spec PyProof.Rows L2 Evl
theorem flats_rows (rs : List (Nat × Nat)) : flats (rs.map rowD) = true := by
  induction rs with
  | nil => rfl
  | cons a r ih => simpa [flats, flat, rowD] using ih
theorem flatMap_snoc {α β : Type} (f : α → List β) (l : List α) (x : α) : (l ++ [x]).flatMap f = l.flatMap f ++ f x := by simp
theorem range_snoc (n : Nat) : List.range (n + 1) = List.range n ++ [n] := List.range_succ
def lyRow (L S f : Nat) : List (Nat × Nat) := (List.range ((L - 1 - f) / (S - 1))).map fun j => (f, j + 1)
theorem lying_eq (L S : Nat) : lying L S = (List.range L).flatMap (lyRow L S) := rfl
theorem flatMap_le {α β : Type} (f : α → List β) (c : Nat) : ∀ (l : List α), (∀ a ∈ l, (f a).length ≤ c) → (l.flatMap f).length ≤ l.length * c
  | [], _ => by simp
  | a :: r, h => by
    rw [List.flatMap_cons, List.length_append, List.length_cons, Nat.succ_mul]
    have h1 := h a List.mem_cons_self
    have h2 := flatMap_le f c r fun b hb => h b (List.mem_cons_of_mem _ hb)
    omega
theorem lyRow_len (L S f : Nat) (hL : L ≤ 40) : (lyRow L S f).length ≤ 40 := by
  unfold lyRow
  rw [List.length_map, List.length_range]
  exact Nat.le_trans (Nat.div_le_self _ _) (by omega)
theorem ly_len (L S i : Nat) (hL : L ≤ 40) (hi : i ≤ L) : ((List.range i).flatMap (lyRow L S)).length ≤ 1600 := by
  have h := flatMap_le (lyRow L S) 40 (List.range i) fun a _ => lyRow_len L S a hL
  rw [List.length_range] at h
  have : i * 40 ≤ 40 * 40 := Nat.mul_le_mul_right 40 (by omega)
  omega
section
variable {P : Program} {w : World} {K : PySem.W.Frag} {mg : Str → Option Value} {base : Heap}
def sp_lying_rows (K : PySem.W.Frag) : Sp := spD K fun ds d => ∃ L S : Nat, ds = [.int (L : Int), .int (S : Int)] ∧ L ≤ 40 ∧ 2 ≤ S ∧ S ≤ 8 ∧ d = .list ((lying L S).map rowD)
theorem ln_lying_rows : ∀ vs H Q E, sp_lying_rows K vs H Q E → vs.length = 2 := spD_len fun ds d ⟨_, _, e, _⟩ => by rw [e]; rfl
theorem sc_lying_rows : FnScope ["length", "size", "found", "first", "widest", "step"] ["length", "size"] (defScope (top 29)) := ⟨rfl, rfl, rfl, by decide +kernel, rfl, by decide +kernel, by decide +kernel⟩
theorem df_lying_rows (T : Txt K mg) (F : FnT K mg "lying_rows" (top 29))  : Df P w K mg base "lying_rows" 1 ["length", "size"] (sp_lying_rows K) := by
  have nd := sc_lying_rows.nd
  refine df_mk (k := 0) F sc_lying_rows (fun _ _ _ _ _ _ us hl => match us, hl with | [_, _], _ => rfl) (ln_lying_rows) (fun f cdv A outer s H vs Q E hr h => ?_)
  refine ⟨_, (pss_cons (ps_set (i := 2) nd rfl (by first | exact Or.inl rfl | exact Or.inr rfl) (pe_lst pa_nil))
      (pss_cons (ps_for PassesOwn.never rfl (pi_range1 rfl T.b_range (pa_cons (pv 0) pa_nil)) (pg_name (i := 3) nd rfl (by first | exact Or.inl rfl | exact Or.inr rfl)) (pss_cons (ps_set (i := 4) nd rfl (by first | exact Or.inl rfl | exact Or.inr rfl) (pe_op op_fdivN (pe_op op_sub (pe_op op_sub (pv 0) pe_int) (pv 3)) (pe_op op_sub (pv 1) pe_int)))
      (pss_one (ps_expr (pe_bm PySem.F.plainAttrs_list PySem.F.slot_list_extend PySem.F.type_list_extend mt_extend (pv 2) (pa_cons (pe_lc (own := [("step", 5)]) (g := gName 5) (tt := tYes) rfl nd (pi_range2 rfl T.b_range (pa_cons pe_int (pa_cons (pe_op op_add (pv 4) pe_int) pa_nil))) (blkOk_by (N := ["length", "size", "found", "first", "widest", "step"]) (sc := defScope (top 29)) (by decide +kernel)) (fun _ _ _ _ _ => (pg_name (i := 5) nd rfl (by first | exact Or.inl rfl | exact Or.inr rfl))) (fun _ _ _ _ _ => pts_nil) (fun _ _ _ _ _ => (pe_tup (pa_cons (pv 3) (pa_cons (pv 5) pa_nil))))) pa_nil))))))
      (pss_one (ps_ret (pv 2))))), ?_⟩
  obtain ⟨ds, d, hv, ⟨L, S, rfl, hL, hS1, hS2, rfl⟩, k⟩ := h
  obtain ⟨v, v2, rfl, h1, h2⟩ := dpa2 hv
  rw [dp_int h1, dp_int h2]
  refine r_asgN (K := K) (en_lst eda_nil) fun p H1 hp e1 hl => ?_
  have a0 := acc_begin hp e1 hl
  refine r_forR (lo := 0) (n := ((L : Int)).toNat) (ei_r1 (K := K) (eda_cons (ed_var (.int _)) eda_nil) (by omega)) (fun i σ' H' => ∃ v3 v4 v5, σ' = [some (.int (L : Int)), some (.int (S : Int)), some (.ref p), v3, v4, v5] ∧ Acc K H p (((List.range i).flatMap (lyRow L S)).map rowD) H') (fun H2 e2 => ⟨none, none, none, rfl, acc_mono a0 e2⟩) ?_ ?_
  · rintro i σ' H' hi ⟨v3, v4, v5, rfl, a⟩
    have hi' : i < L := by omega
    have hw : (L - 1 - i) / (S - 1) ≤ 40 := Nat.le_trans (Nat.div_le_self _ _) (by omega)
    have ely : lyRow L S i = (List.range ((L - 1 - i) / (S - 1))).map fun j => (i, j + 1) := rfl
    have efd := fdiv_nat (L - 1 - i) (S - 1)
    generalize (L - 1 - i) / (S - 1) = W at hw ely efd
    refine r_asg (K := K) (d := .int (W : Int)) (ed_fdiv (i := ((L - 1 - i : Nat) : Int)) (j := ((S - 1 : Nat) : Int)) (ed_sub (ed_sub (ed_var (.int _)) ed_int rfl) (ed_var (.int _)) (by omega)) (ed_sub (ed_var (.int _)) ed_int (by omega)) ⟨by omega, by omega⟩ efd) fun v H2 e2 dv => ?_
    rw [dp_int dv]
    refine acc_ext (i := 2) (es := (lyRow L S i).map rowD) (acc_mono a e2) rfl ?_ (flats_rows _) (by rw [List.length_map, List.length_map]; have := ly_len L S i hL (by omega); have := lyRow_len L S i hL; omega) fun H3 a3 => ⟨_, _, _, rfl, ?_⟩
    · rw [ely, List.map_map]
      refine (en_lcRa (lo := 1) (n := ((W : Int) + 1 - 1).toNat) _ (ei_r2 (K := K) (eda_cons ed_int (eda_cons (ed_add (ed_var (.int _)) ed_int rfl) eda_nil)) (by omega)) (fun j => rowD (i, j + 1)) (by omega) (fun _ => rfl) (fun j hj H3 e3 => ?_) (fun _ _ => rfl)).eq ?_
      · refine (en_tup (eda_cons (ed_var (.int (0 + (i : Int)))) (eda_cons (ed_var (.int (1 + (j : Int)))) eda_nil))).eq ?_
        show PyData.tuple _ = PyData.tuple [.int ((i : Nat) : Int), .int ((j + 1 : Nat) : Int)]
        rw [show 0 + (i : Int) = ((i : Nat) : Int) by omega, show 1 + (j : Int) = ((j + 1 : Nat) : Int) by omega]
      · rw [show ((W : Int) + 1 - 1).toNat = W by omega]
        rfl
    · rw [range_snoc, flatMap_snoc, List.map_append]
      exact a3
  · rintro σ' H' ⟨v3, v4, v5, rfl, a⟩
    rw [Int.toNat_natCast] at a
    exact ⟨_, rfl, k _ _ a.2.1 (acc_new a)⟩
/-! ### rows_through -/
def thCond (L S pl j : Nat) (k : Nat) : Bool := decide (k * (j + 1) ≤ pl) && decide (pl - k * (j + 1) + (S - 1) * (j + 1) < L)
def thUp (L S pl j m : Nat) : List (Nat × Nat) := ((List.range m).filter (thCond L S pl j)).map fun k => (pl - k * (j + 1), j + 1)
theorem thr_eq (L S pl : Nat) : thr L S pl = (List.range ((L - 1) / (S - 1))).flatMap fun j => thUp L S pl j S := rfl
theorem thUp_snoc (L S pl j m : Nat) : thUp L S pl j (m + 1) = if thCond L S pl j m then thUp L S pl j m ++ [(pl - m * (j + 1), j + 1)] else thUp L S pl j m := by
  unfold thUp
  rw [range_snoc, List.filter_append, List.map_append]
  cases h : thCond L S pl j m <;> simp [h]
theorem thUp_len (L S pl j m : Nat) : (thUp L S pl j m).length ≤ m := by
  unfold thUp
  rw [List.length_map]
  have := List.length_filter_le (thCond L S pl j) (List.range m)
  rw [List.length_range] at this
  exact this
theorem thr_len (L S pl i : Nat) (hS : S ≤ 8) (hi : i ≤ 40) : ((List.range i).flatMap fun j => thUp L S pl j S).length ≤ 320 := by
  have h := flatMap_le (fun j => thUp L S pl j S) 8 (List.range i) fun a _ => Nat.le_trans (thUp_len L S pl a S) hS
  rw [List.length_range] at h
  omega
def sp_rows_through (K : PySem.W.Frag) : Sp := fun vs H Q _ => ∃ L S pl : Nat, DpAll K H vs [.int (L : Int), .int (S : Int), .int (pl : Int)] ∧ 1 ≤ L ∧ L ≤ 40 ∧ 2 ≤ S ∧ S ≤ 8 ∧ pl < L ∧
  ∀ (rs : List (Nat × Nat)) v H', rs.Perm (thr L S pl) → Ex H H' → New K H H' v (.list (rs.map rowD)) → Q v H'
theorem ln_rows_through : ∀ vs H Q E, sp_rows_through K vs H Q E → vs.length = 3 := fun vs H Q E ⟨_, _, _, h, _⟩ => dpa_len h
theorem sc_rows_through : FnScope ["length", "size", "place", "found", "step", "k", "first"] ["length", "size", "place"] (defScope (top 30)) := ⟨rfl, rfl, rfl, by decide +kernel, rfl, by decide +kernel, by decide +kernel⟩
theorem df_rows_through (T : Txt K mg) (F : FnT K mg "rows_through" (top 30))  : Df P w K mg base "rows_through" 1 ["length", "size", "place"] (sp_rows_through K) := by
  have nd := sc_rows_through.nd
  refine df_mk (k := 0) F sc_rows_through (fun _ _ _ _ _ _ us hl => match us, hl with | [_, _, _], _ => rfl) (ln_rows_through) (fun f cdv A outer s H vs Q E hr h => ?_)
  refine ⟨_, (pss_cons (ps_set (i := 3) nd rfl (by first | exact Or.inl rfl | exact Or.inr rfl) (pe_lst pa_nil))
      (pss_cons (ps_for PassesOwn.never rfl (pi_range2 rfl T.b_range (pa_cons pe_int (pa_cons (pe_op op_add (pe_op op_fdivN (pe_op op_sub (pv 0) pe_int) (pe_op op_sub (pv 1) pe_int)) pe_int) pa_nil))) (pg_name (i := 4) nd rfl (by first | exact Or.inl rfl | exact Or.inr rfl)) (pss_one (ps_for PassesOwn.never rfl (pi_range1 rfl T.b_range (pa_cons (pv 1) pa_nil)) (pg_name (i := 5) nd rfl (by first | exact Or.inl rfl | exact Or.inr rfl)) (pss_cons (ps_set (i := 6) nd rfl (by first | exact Or.inl rfl | exact Or.inr rfl) (pe_op op_sub (pv 2) (pe_op op_mul (pv 5) (pv 4))))
      (pss_one (ps_if (PW.pt (pw_and (pt_cmpR op_ge (pv 6) pe_int (nomark _)) (pw_and1 (pt_cmpR op_lt (pe_op op_add (pv 6) (pe_op op_mul (pe_op op_sub (pv 1) pe_int) (pv 4))) (pv 0) (nomark _))))) (pss_one (ps_expr (pe_bm PySem.F.plainAttrs_list PySem.F.slot_list_append PySem.F.type_list_append mt_append (pv 3) (pa_cons (pe_tup (pa_cons (pv 6) (pa_cons (pv 4) pa_nil))) pa_nil)))) pss_nil))))))
      (pss_one (ps_ret (pe_callB (r := rSortedP K) cr_sortedP rfl T.b_sorted (by decide +kernel) (pa_cons (pv 3) pa_nil)))))), ?_⟩
  obtain ⟨L, S, pl, hv, hL1, hL2, hS1, hS2, hpl, k⟩ := h
  obtain ⟨v, v2, v3, rfl, h1, h2, h3⟩ := dpa3 hv
  rw [dp_int h1, dp_int h2, dp_int h3]
  refine r_asgN (K := K) (en_lst eda_nil) fun p H1 hp e1 hl => ?_
  have a0 := acc_begin hp e1 hl
  have hW : (L - 1) / (S - 1) ≤ 40 := Nat.le_trans (Nat.div_le_self _ _) (by omega)
  have efd := fdiv_nat (L - 1) (S - 1)
  have eth := thr_eq L S pl
  generalize (L - 1) / (S - 1) = W at hW efd eth
  refine r_forR (lo := 1) (n := ((W : Int) + 1 - 1).toNat) (ei_r2 (K := K) (eda_cons ed_int (eda_cons (ed_add (ed_fdiv (i := ((L - 1 : Nat) : Int)) (j := ((S - 1 : Nat) : Int)) (ed_sub (ed_var (.int _)) ed_int (by omega)) (ed_sub (ed_var (.int _)) ed_int (by omega)) ⟨by omega, by omega⟩ efd) ed_int rfl) eda_nil)) (by omega))
    (fun i σ' H' => ∃ v4 v5 v6, σ' = [some (.int (L : Int)), some (.int (S : Int)), some (.int (pl : Int)), some (.ref p), v4, v5, v6] ∧ Acc K H p (((List.range i).flatMap fun j => thUp L S pl j S).map rowD) H') (fun H2 e2 => ⟨none, none, none, rfl, acc_mono a0 e2⟩) ?_ ?_
  · rintro i σ' H' hi ⟨v4, v5, v6, rfl, a⟩
    have hi' : i < W := by omega
    refine s_forR (lo := 0) (n := ((S : Int)).toNat) (ei_r1 (K := K) (eda_cons (ed_var (.int _)) eda_nil) (by omega))
      (fun m σ' H' => ∃ v5 v6, σ' = [some (.int (L : Int)), some (.int (S : Int)), some (.int (pl : Int)), some (.ref p), some (.int (1 + (i : Int))), v5, v6] ∧ Acc K H p ((((List.range i).flatMap fun j => thUp L S pl j S) ++ thUp L S pl i m).map rowD) H') (fun H2 e2 => ⟨v5, v6, rfl, ?_⟩) ?_ ?_
    · have : thUp L S pl i 0 = [] := rfl
      rw [this, List.append_nil]
      exact acc_mono a e2
    · rintro m σ' H' hm ⟨v5, v6, rfl, a⟩
      have hm' : m < S := by omega
      refine r_asg (K := K) (d := .int ((pl : Int) - (m : Int) * ((i + 1 : Nat) : Int))) (ed_sub (ed_var (.int _)) (ed_mul (ed_var (.int (0 + (m : Int)))) (ed_var (.int (1 + (i : Int)))) ⟨by omega, by omega⟩ rfl) (by rw [Int.zero_add, show 1 + (i : Int) = ((i + 1 : Nat) : Int) by omega])) fun v H2 e2 dv => ?_
      rw [dp_int dv]
      have bnd : m * (i + 1) ≤ 8 * 41 := Nat.mul_le_mul (by omega) (by omega)
      have bnd2 : (S - 1) * (i + 1) ≤ 8 * 41 := Nat.mul_le_mul (by omega) (by omega)
      have em : (m : Int) * ((i + 1 : Nat) : Int) = ((m * (i + 1) : Nat) : Int) := by rw [Int.natCast_mul]
      rw [em]
      refine s_when (b := thCond L S pl i m) ?_ (fun hc H3 e3 => ?_) (fun hc H3 e3 => ⟨_, _, rfl, ?_⟩)
      · refine et_is (et_and (a := decide (0 ≤ (pl : Int) - ((m * (i + 1) : Nat) : Int))) (b := decide ((pl : Int) - ((m * (i + 1) : Nat) : Int) + (((S - 1) * (i + 1) : Nat) : Int) < (L : Int))) (et_test (ed_op (K := K) (ed_var (.int _)) ed_int rv_ge)) fun _ => et_test (ed_op (K := K) (ed_add (ed_var (.int _)) (ed_mul (ed_sub (i := (S : Int)) (j := 1) (m := ((S - 1 : Nat) : Int)) (ed_var (.int _)) ed_int (by omega)) (ed_var (.int (1 + (i : Int)))) ⟨by omega, by omega⟩ (m := (((S - 1) * (i + 1) : Nat) : Int)) (by rw [show 1 + (i : Int) = ((i + 1 : Nat) : Int) by omega, Int.natCast_mul])) rfl) (ed_var (.int _)) rv_lt)) ?_
        unfold thCond
        by_cases hz : m * (i + 1) ≤ pl
        · rw [decide_eq_true hz, decide_eq_true (show (0 : Int) ≤ (pl : Int) - ((m * (i + 1) : Nat) : Int) by omega)]
          rw [Bool.true_and, Bool.true_and]
          exact decide_eq_decide.mpr ⟨fun q => by omega, fun q => by omega⟩
        · rw [decide_eq_false hz, decide_eq_false (show ¬ (0 : Int) ≤ (pl : Int) - ((m * (i + 1) : Nat) : Int) by omega)]
          rfl
      · have hz : m * (i + 1) ≤ pl := by
          unfold thCond at hc
          simp only [Bool.and_eq_true, decide_eq_true_eq] at hc
          exact hc.1
        refine acc_app (i := 3) (d := rowD (pl - m * (i + 1), i + 1)) (acc_mono a (e2.trans e3)) rfl ((en_tup (eda_cons (ed_var (.int ((pl : Int) - ((m * (i + 1) : Nat) : Int)))) (eda_cons (ed_var (.int (1 + (i : Int)))) eda_nil))).eq ?_) rfl ?_ fun H4 a4 => ⟨_, _, rfl, ?_⟩
        · show PyData.tuple _ = PyData.tuple [.int ((pl - m * (i + 1) : Nat) : Int), .int ((i + 1 : Nat) : Int)]
          rw [show (pl : Int) - ((m * (i + 1) : Nat) : Int) = ((pl - m * (i + 1) : Nat) : Int) by omega, show 1 + (i : Int) = ((i + 1 : Nat) : Int) by omega]
        · rw [List.length_map, List.length_append]
          have := thr_len L S pl i hS2 (by omega)
          have := thUp_len L S pl i m
          omega
        · rw [thUp_snoc, if_pos hc, ← List.append_assoc, List.map_append (l₂ := [_])]
          exact a4
      · rw [thUp_snoc, if_neg (by rw [hc]; decide)]
        exact acc_mono a (e2.trans e3)
    · rintro σ' H' ⟨v5, v6, rfl, a⟩
      rw [Int.toNat_natCast] at a
      refine ⟨_, _, _, rfl, ?_⟩
      rw [range_snoc, flatMap_snoc]
      exact a
  · rintro σ' H' ⟨v4, v5, v6, rfl, a⟩
    rw [show ((W : Int) + 1 - 1).toNat = W by omega, ← eth] at a
    exact en_sorted (K := K) (ed_var (acc_new a).dp) H' (Ex.refl _) _ fun rs v H2 hp e2 n => k rs v H2 hp (a.2.1.trans e2) (n.back a.2.1)
end
end EH

set_option Elab.async false
set_option linter.all false
set_option maxRecDepth 100000
set_option maxHeartbeats 4000000
namespace EH
open PySem PySem.Spec PyProof.Rows L2 Evl
theorem wrongs_upd (sz : List Nat) (s : List Int) : wrongs sz s = (List.range sz.length).flatMap fun h => (lying s.length (sz.getD h 0)).filter fun r => hasHue s r (sz.getD h 0) (h : Int) := rfl
theorem lying_mem {L S : Nat} {r : Nat × Nat} (h : r ∈ lying L S) (hS : 2 ≤ S) : r.1 + (S - 1) * r.2 < L ∧ 1 ≤ r.2 := by
  unfold lying at h
  obtain ⟨f, hf, hr⟩ := List.mem_flatMap.mp h
  obtain ⟨j, hj, rfl⟩ := List.mem_map.mp hr
  rw [List.mem_range] at hf hj
  refine ⟨?_, by simp⟩
  have h1 : j + 1 ≤ (L - 1 - f) / (S - 1) := hj
  have h2 : (j + 1) * (S - 1) ≤ L - 1 - f := by
    have := (Nat.le_div_iff_mul_le (by omega)).mp h1
    exact this
  show f + (S - 1) * (j + 1) < L
  rw [Nat.mul_comm]
  omega
theorem rowPl_lt {L S : Nat} {r : Nat × Nat} (h : r.1 + (S - 1) * r.2 < L) {p : Nat} (hp : p ∈ rowPl r S) : p < L := by
  unfold rowPl at hp
  obtain ⟨k, hk, rfl⟩ := List.mem_map.mp hp
  rw [List.mem_range] at hk
  have : k * r.2 ≤ (S - 1) * r.2 := Nat.mul_le_mul_right _ (by omega)
  omega
theorem lying_len (L S : Nat) (hL : L ≤ 40) : (lying L S).length ≤ 1600 := by
  rw [lying_eq]
  exact ly_len L S L hL (Nat.le_refl _)
section
variable {P : Program} {w : World} {K : PySem.W.Frag} {mg : Str → Option Value} {base : Heap}
def sp_are_sizes (K : PySem.W.Frag) : Sp := spD K fun ds d => ∃ sz, ds = [nT sz] ∧ SzOk sz ∧ d = .bool true
theorem ln_are_sizes : ∀ vs H Q E, sp_are_sizes K vs H Q E → vs.length = 1 := spD_len fun ds d ⟨i, e, _⟩ => by rw [e]; rfl
theorem sc_are_sizes : FnScope ["thing", "size"] ["thing"] (defScope (top 32)) := ⟨rfl, rfl, rfl, by decide +kernel, rfl, by decide +kernel, by decide +kernel⟩
theorem df_are_sizes (T : Txt K mg) (F : FnT K mg "are_sizes" (top 32)) (D_is_between : Df P w K mg base "is_between" 2 ["thing", "least", "most"] (sp_is_between K)) : Df P w K mg base "are_sizes" 3 ["thing"] (sp_are_sizes K) := by
  have nd := sc_are_sizes.nd
  refine df_mk (k := 2) F sc_are_sizes (fun _ _ _ _ _ _ us hl => match us, hl with | [_], _ => rfl) (ln_are_sizes) (fun f cdv A outer s H vs Q E hr h => ?_)
  refine ⟨_, (pss_cons (ps_if (PW.pt (pw_or (pt_not (pt_val (pe_callB (r := rIsi K) call_isi rfl T.b_isinstance (by decide +kernel) (pa_cons (pv 0) (pa_cons (pe_bltn (v := .ty "tuple") rfl T.b_tuple (by decide +kernel) rfl) pa_nil))))) (pw_or1 (pt_not (pt_chain op_le op_le pe_int (pe_callB (r := rLn K) call_len rfl T.b_len (by decide +kernel) (pa_cons (pv 0) pa_nil)) (pe_gi T.k_HUES rfl)))))) (pss_one (ps_ret pe_bl)) pss_nil)
      (pss_one (ps_ret (pe_callB (r := rAll K) (cr_all rfl) rfl T.b_all (by decide +kernel) (pa_cons (pe_lc (own := [("size", 1)]) (g := gName 1) (tt := tYes) rfl nd (pi_tup (pv 0)) (blkOk_by (N := ["thing", "size"]) (sc := defScope (top 32)) (by decide +kernel)) (fun _ _ _ _ _ => (pg_name (i := 1) nd rfl (by first | exact Or.inl rfl | exact Or.inr rfl))) (fun _ _ _ _ _ => pts_nil) (fun _ _ _ _ _ => (pe_d D_is_between (hr.mono (by decide)) rfl (pa_cons (pv 1) (pa_cons (pe_gi T.k_LEAST_SIZE rfl) (pa_cons (pe_gi T.k_MOST_SIZE rfl) pa_nil)))))) pa_nil))))), ?_⟩
  obtain ⟨ds, d, hv, ⟨sz, rfl, ok, rfl⟩, k⟩ := h
  obtain ⟨v, rfl, h1⟩ := dpa1 hv
  have l1 := ok.lo
  have l2 := ok.hi
  refine r_if (b := false) (et_is (et_or (a := false) (b := false) (et_not (a := true) (et_B (ei_tup (ed_var h1) (flats_int _)))) (fun _ => et_not (a := true) (et_is (et_test (ed_chain (K := K) ed_int (ed_lenN (ed_var h1)) (fun _ => ed_int) rv_le fun _ => rv_le)) ?_))) rfl) (fun e => nomatch e) fun _ H1 e1 => ?_
  · simp only [Bool.and_eq_true, decide_eq_true_eq]
    omega
  · have q := ed_all (K := K) (H := H1) (σ := L2.start ["thing", "size"] [v]) (te := tLc (iTup K (tVar 0)) (gName 1) tYes (tCall (sp_is_between K) [] E0 (tCons (tVar 1) (tCons (tC (.int 2)) (tCons (tC (.int 8)) tNil)))) [1]) (bs := (toI sz).map fun i => (decide (2 ≤ i) && decide (i ≤ 8))) ?_
    · rw [all_id, List.all_eq_true.mpr (fun n hn => by
        obtain ⟨m, hm, rfl⟩ := List.mem_map.mp hn
        have := ok.all m hm
        simp only [Bool.and_eq_true, decide_eq_true_eq]
        omega)] at q
      exact r_retD q (kk e1 k)
    · rw [← map_bools]
      exact en_lcI _ (ed_var (dpx e1 h1)) (by rw [toI_len]; omega) (fun _ => rfl) (fun i hi H2 e2 => (en_call (eda_cons (ed_var (.int i)) (eda_cons ed_int (eda_cons ed_int eda_nil))) ⟨i, 2, 8, rfl, rfl⟩).toD) (fun _ _ => rfl)
def sp_need_sizes (K : PySem.W.Frag) : Sp := spD K fun ds d => ∃ sz, ds = [nT sz] ∧ SzOk sz ∧ d = .none
theorem ln_need_sizes : ∀ vs H Q E, sp_need_sizes K vs H Q E → vs.length = 1 := spD_len fun ds d ⟨i, e, _⟩ => by rw [e]; rfl
theorem sc_need_sizes : FnScope ["sizes"] ["sizes"] (defScope (top 33)) := ⟨rfl, rfl, rfl, by decide +kernel, rfl, by decide +kernel, by decide +kernel⟩
theorem df_need_sizes (T : Txt K mg) (F : FnT K mg "need_sizes" (top 33)) (D_are_sizes : Df P w K mg base "are_sizes" 3 ["thing"] (sp_are_sizes K)) : Df P w K mg base "need_sizes" 4 ["sizes"] (sp_need_sizes K) := by
  have nd := sc_need_sizes.nd
  refine df_mk (k := 3) F sc_need_sizes (fun _ _ _ _ _ _ us hl => match us, hl with | [_], _ => rfl) (ln_need_sizes) (fun f cdv A outer s H vs Q E hr h => ?_)
  refine ⟨_, (pss_one (ps_if (pt_not (pt_val (pe_d D_are_sizes (hr.mono (by decide)) rfl (pa_cons (pv 0) pa_nil)))) (pss_one ps_never) pss_nil)), ?_⟩
  obtain ⟨ds, d, hv, ⟨ns, rfl, ok, rfl⟩, k⟩ := h
  obtain ⟨v, rfl, h1⟩ := dpa1 hv
  exact s_when (b := false) (et_not (a := true) (et_B (en_call (eda_cons (ed_var h1) eda_nil) ⟨ns, rfl, ok, rfl⟩).toD)) (fun e => nomatch e) fun _ H1 e1 => k _ _ e1 .non
def sp_has_hue (K : PySem.W.Frag) : Sp := spD K fun ds d => ∃ (s : List Int) (r : Nat × Nat) (n : Nat) (h : Int), ds = [iT s, rowD r, .int (n : Int), .int h] ∧ n ≤ 40 ∧ (∀ p ∈ rowPl r n, p < s.length) ∧ d = .bool (hasHue s r n h)
theorem ln_has_hue : ∀ vs H Q E, sp_has_hue K vs H Q E → vs.length = 4 := spD_len fun ds d ⟨_, _, _, _, e, _⟩ => by rw [e]; rfl
theorem rowPl_len (r : Nat × Nat) (n : Nat) : (rowPl r n).length = n := by simp [rowPl]
theorem sc_has_hue : FnScope ["strip", "row", "size", "hue", "place"] ["strip", "row", "size", "hue"] (defScope (top 34)) := ⟨rfl, rfl, rfl, by decide +kernel, rfl, by decide +kernel, by decide +kernel⟩
theorem df_has_hue (T : Txt K mg) (F : FnT K mg "has_hue" (top 34)) (D_row_places : Df P w K mg base "row_places" 1 ["row", "size"] (sp_row_places K)) : Df P w K mg base "has_hue" 2 ["strip", "row", "size", "hue"] (sp_has_hue K) := by
  have nd := sc_has_hue.nd
  refine df_mk (k := 1) F sc_has_hue (fun _ _ _ _ _ _ us hl => match us, hl with | [_, _, _, _], _ => rfl) (ln_has_hue) (fun f cdv A outer s H vs Q E hr h => ?_)
  refine ⟨_, (pss_one (ps_ret (pe_callB (r := rAll K) (cr_all rfl) rfl T.b_all (by decide +kernel) (pa_cons (pe_lc (own := [("place", 4)]) (g := gName 4) (tt := tYes) rfl nd (pi_tup (pe_d D_row_places (hr.mono (by decide)) rfl (pa_cons (pv 1) (pa_cons (pv 2) pa_nil)))) (blkOk_by (N := ["strip", "row", "size", "hue", "place"]) (sc := defScope (top 34)) (by decide +kernel)) (fun _ _ _ _ _ => (pg_name (i := 4) nd rfl (by first | exact Or.inl rfl | exact Or.inr rfl))) (fun _ _ _ _ _ => pts_nil) (fun _ _ _ _ _ => (pe_cmpR op_eq (pe_ix (r := rIxT K) ix_tup (pv 0) (pv 4) (fun _ _ => rfl)) (pv 3) (nomark _)))) pa_nil)))), ?_⟩
  obtain ⟨ds, d, hv, ⟨ss, r, n, hh, rfl, hn, hp, rfl⟩, k⟩ := h
  obtain ⟨v, v2, v3, v4, rfl, h1, h2, h3, h4⟩ := dpa4 hv
  refine r_retD (d := .bool (hasHue ss r n hh)) ?_ k
  unfold hasHue
  rw [← all_id]
  refine ed_all ?_
  rw [← map_bools]
  exact en_lcNa _ (en_call (eda_cons (ed_var h2) (eda_cons (ed_var h3) eda_nil)) ⟨r, n, rfl, hn, rfl⟩).toD (by rw [rowPl_len]; omega) (fun _ => rfl) (fun i hi H1 e1 => ed_op (ed_atI (ed_var (dpx e1 h1)) (ed_var (.int _)) (hp i hi)) (ed_var (dpx e1 h4)) rv_eqI) (fun _ _ => rfl)
/-! ### wrong_rows -/
def sp_wrong_rows (K : PySem.W.Frag) : Sp := fun vs H Q _ => ∃ (sz : List Nat) (s : List Int), DpAll K H vs [nT sz, iT s] ∧ SzOk sz ∧ s.length ≤ 40 ∧ ∀ (rs : List (Nat × Nat)) v H', rs.Perm (wrongs sz s) → Ex H H' → New K H H' v (.list (rs.map rowD)) → Q v H'
theorem ln_wrong_rows : ∀ vs H Q E, sp_wrong_rows K vs H Q E → vs.length = 2 := fun vs H Q E ⟨_, _, h, _⟩ => dpa_len h
def wrUp (sz : List Nat) (s : List Int) (h : Nat) : List (Nat × Nat) := (lying s.length (sz.getD h 0)).filter fun r => hasHue s r (sz.getD h 0) (h : Int)
theorem wrUp_len (sz : List Nat) (s : List Int) (h : Nat) (hs : s.length ≤ 40) : (wrUp sz s h).length ≤ 1600 := Nat.le_trans (List.length_filter_le _ _) (lying_len _ _ hs)
theorem sz_get {sz : List Nat} (ok : SzOk sz) {h : Nat} (hh : h < sz.length) : 2 ≤ sz.getD h 0 ∧ sz.getD h 0 ≤ 8 := by
  rw [List.getD_eq_getElem?_getD, List.getElem?_eq_getElem hh]
  exact ok.all _ (List.getElem_mem hh)
theorem nT_get {sz : List Nat} {i : Nat} {e : PyData} (h : ((toI sz).map PyData.int)[i]? = some e) : i < sz.length ∧ e = .int ((sz.getD i 0 : Nat) : Int) := by
  unfold toI at h
  rw [List.map_map, List.getElem?_map] at h
  obtain ⟨m, hm, rfl⟩ := Option.map_eq_some_iff.mp h
  obtain ⟨hi, e⟩ := List.getElem?_eq_some_iff.mp hm
  refine ⟨hi, ?_⟩
  rw [List.getD_eq_getElem?_getD, hm]
  rfl
/-- a comprehension over a list of rows, some kept -/
theorem comp_rows (q : Nat × Nat → Bool) (p : PyData → Bool) (rs : List (Nat × Nat)) (h : ∀ r ∈ rs, p (rowD r) = q r) : comp p (fun d => d) (rs.map rowD) = (rs.filter q).map rowD := by
  unfold comp
  rw [List.map_id', List.filter_map]
  refine congrArg (List.map rowD) (List.filter_congr fun r hr => ?_)
  exact h r hr
def unrow : PyData → Nat × Nat
  | .tuple [.int a, .int b] => (a.toNat, b.toNat)
  | _ => (0, 0)
theorem unrow_row (r : Nat × Nat) : unrow (rowD r) = r := by
  show ((r.1 : Int).toNat, (r.2 : Int).toNat) = r
  simp
theorem sc_wrong_rows : FnScope ["sizes", "strip", "found", "hue", "size", "row"] ["sizes", "strip"] (defScope (top 35)) := ⟨rfl, rfl, rfl, by decide +kernel, rfl, by decide +kernel, by decide +kernel⟩
theorem df_wrong_rows (T : Txt K mg) (F : FnT K mg "wrong_rows" (top 35)) (D_has_hue : Df P w K mg base "has_hue" 2 ["strip", "row", "size", "hue"] (sp_has_hue K)) (D_lying_rows : Df P w K mg base "lying_rows" 1 ["length", "size"] (sp_lying_rows K)) : Df P w K mg base "wrong_rows" 3 ["sizes", "strip"] (sp_wrong_rows K) := by
  have nd := sc_wrong_rows.nd
  refine df_mk (k := 2) F sc_wrong_rows (fun _ _ _ _ _ _ us hl => match us, hl with | [_, _], _ => rfl) (ln_wrong_rows) (fun f cdv A outer s H vs Q E hr h => ?_)
  refine ⟨_, (pss_cons (ps_set (i := 2) nd rfl (by first | exact Or.inl rfl | exact Or.inr rfl) (pe_lst pa_nil))
      (pss_cons (ps_for PassesOwn.never rfl (pi_enumT rfl T.b_enumerate (pa_cons (pv 0) pa_nil)) (pg_tup rfl (pgs_cons (pg_name (i := 3) nd rfl (by first | exact Or.inl rfl | exact Or.inr rfl)) (pgs_cons (pg_name (i := 4) nd rfl (by first | exact Or.inl rfl | exact Or.inr rfl)) pgs_nil))) (pss_one (ps_expr (pe_bm PySem.F.plainAttrs_list PySem.F.slot_list_extend PySem.F.type_list_extend mt_extend (pv 2) (pa_cons (pe_lc (own := [("row", 5)]) (g := gName 5) rfl nd (pi_list (pe_d D_lying_rows (hr.mono (by decide)) rfl (pa_cons (pe_callB (r := rLn K) call_len rfl T.b_len (by decide +kernel) (pa_cons (pv 1) pa_nil)) (pa_cons (pv 4) pa_nil)))) (blkOk_by (N := ["sizes", "strip", "found", "hue", "size", "row"]) (sc := defScope (top 35)) (by decide +kernel)) (fun _ _ _ _ _ => (pg_name (i := 5) nd rfl (by first | exact Or.inl rfl | exact Or.inr rfl))) (fun _ _ _ _ _ => (pts_one (pt_val (pe_d D_has_hue (hr.mono (by decide)) rfl (pa_cons (pv 1) (pa_cons (pv 5) (pa_cons (pv 4) (pa_cons (pv 3) pa_nil)))))))) (fun _ _ _ _ _ => (pv 5))) pa_nil)))))
      (pss_one (ps_ret (pe_callB (r := rSortedP K) cr_sortedP rfl T.b_sorted (by decide +kernel) (pa_cons (pv 2) pa_nil)))))), ?_⟩
  obtain ⟨sz, ss, hv, ok, hs, k⟩ := h
  obtain ⟨v, v2, rfl, h1, h2⟩ := dpa2 hv
  refine r_asgN (K := K) (en_lst eda_nil) fun p H1 hp e1 hl => ?_
  have a0 := acc_begin hp e1 hl
  refine r_forEv (K := K) (es := (toI sz).map PyData.int) h1 rfl (fun i σ' H' => ∃ v3 v4 v5, σ' = [some v, some v2, some (.ref p), v3, v4, v5] ∧ Acc K H p (((List.range i).flatMap (wrUp sz ss)).map rowD) H') ⟨none, none, none, rfl, a0⟩ (fun i σ' H' ⟨_, _, _, _, a⟩ => a.2.1) ?_ ?_
  · rintro i e x σ' H' H2 hei dx ⟨v3, v4, v5, rfl, a⟩ e4
    obtain ⟨hi, rfl⟩ := nT_get hei
    rw [dp_int dx]
    have hS := sz_get ok hi
    refine acc_ext (i := 2) (es := (wrUp sz ss i).map rowD) (acc_mono a e4) rfl ?_ (flats_rows _) ?_ fun H3 a3 => ?_
    · have h2' : Dp K H2 v2 (iT ss) := dpx (a.2.1.trans e4) h2
      have q := en_lcL (K := K) (vs := [5]) (j := 5) (tt := tB (tCall (sp_has_hue K) [] E0 (tCons (tVar 1) (tCons (tVar 5) (tCons (tVar 4) (tCons (tVar 3) tNil)))))) (te := tVar 5) (fun d => hasHue ss (unrow d) (sz.getD i 0) (i : Int)) (fun d => d)
        (en_call (K := K) (E := E0) (R := fun ds d => ∃ L S : Nat, ds = [.int (L : Int), .int (S : Int)] ∧ L ≤ 40 ∧ 2 ≤ S ∧ S ≤ 8 ∧ d = .list ((lying L S).map rowD)) (eda_cons (ed_lenI (ed_var (i := 1) (σ := ((([some v, some v2, some (V.ref p), v3, v4, v5] : L2.St).set 3 (some (V.int (i : Int)))).set 4 (some (V.int ((sz.getD i 0 : Nat) : Int))))) h2')) (eda_cons (ed_var (i := 4) (.int _)) eda_nil)) ⟨ss.length, sz.getD i 0, rfl, hs, hS.1, hS.2, rfl⟩).toD
        (by rw [List.length_map]; have := lying_len ss.length (sz.getD i 0) hs; omega) (fun _ => rfl) ?_ ?_
      · rw [comp_rows (fun r => hasHue ss r (sz.getD i 0) (i : Int)) _ _ (fun r _ => by rw [unrow_row])] at q
        exact q
      · intro e he y H3 e5 dy
        obtain ⟨r, hr, rfl⟩ := List.mem_map.mp he
        rw [unrow_row]
        exact et_B (en_call (eda_cons (ed_var (dpx e5 h2')) (eda_cons (ed_var dy) (eda_cons (ed_var (.int _)) (eda_cons (ed_var (.int _)) eda_nil)))) ⟨ss, r, sz.getD i 0, (i : Int), rfl, by omega, fun pl hpl => rowPl_lt (lying_mem hr hS.1).1 hpl, rfl⟩).toD
      · intro e he y H3 e5 dy _
        obtain ⟨r, hr, rfl⟩ := List.mem_map.mp he
        exact ⟨ed_var dy, rfl⟩
    · rw [List.length_map, List.length_map]
      have q1 := flatMap_le (wrUp sz ss) 1600 (List.range i) fun a _ => wrUp_len sz ss a hs
      rw [List.length_range] at q1
      have q2 := wrUp_len sz ss i hs
      have := ok.hi
      have : i * 1600 ≤ 4 * 1600 := Nat.mul_le_mul_right _ (by omega)
      omega
    · refine ⟨_, _, _, rfl, ?_⟩
      rw [range_snoc, flatMap_snoc, List.map_append]
      exact a3
  · rintro σ' H' ⟨v3, v4, v5, rfl, a⟩
    rw [iT_len, toI_len] at a
    exact en_sorted (K := K) (ed_var (acc_new a).dp) H' (Ex.refl _) _ fun rs v H2 hp e2 n => k rs v H2 hp (a.2.1.trans e2) (n.back a.2.1)
end
end EH

set_option Elab.async false
set_option linter.all false
set_option maxRecDepth 100000
set_option maxHeartbeats 4000000
namespace EH
open PySem PySem.Spec PyProof.Rows L2 Evl
/-! ### data compared -/
theorem lay_rows (rs : List (Nat × Nat)) : PyData.canLayAll0 (rs.map rowD) = true ∧ PyData.depthAll (rs.map rowD) ≤ 2 := by
  induction rs with
  | nil => exact ⟨rfl, by decide⟩
  | cons a r ih =>
    refine ⟨?_, ?_⟩
    · show (PyData.canLay0 (rowD a) && PyData.canLayAll0 (r.map rowD)) = true
      rw [ih.1]
      rfl
    · show max (PyData.depth (rowD a)) (PyData.depthAll (r.map rowD)) ≤ 2
      have : PyData.depth (rowD a) ≤ 2 := by simp [rowD, PyData.depth, PyData.depthAll]
      have := ih.2
      omega
theorem shaped_list {ds : List PyData} (h : PyData.canLayAll0 ds = true ∧ PyData.depthAll ds ≤ 60) : SeqAt.shaped (.list ds) = true := by
  show (PyData.canLayAll0 ds && decide (PyData.depthAll ds + 1 ≤ 64)) = true
  rw [h.1, decide_eq_true (by have := h.2; omega)]
  rfl
theorem shaped_rows (rs : List (Nat × Nat)) : SeqAt.shaped (.list (rs.map rowD)) = true := shaped_list ⟨(lay_rows rs).1, by have := (lay_rows rs).2; omega⟩
theorem eqv_nil (ds : List PyData) : PyData.eqv (.list ds) (.list []) = ds.isEmpty := by
  cases ds <;> rfl
theorem perm_empty {α : Type} {l m : List α} (h : l.Perm m) : l.isEmpty = m.isEmpty := by
  have := h.length_eq
  cases l <;> cases m <;> simp_all
section
variable {K : PySem.W.Frag} {σ : L2.St} {H : Hp} {ta : TA} {tb : TE} {E : XK}
theorem ed_wrEq {sz : List Nat} {s : List Int} (h : EvDA K ta σ H [nT sz, iT s]) (ok : SzOk sz) (hs : s.length ≤ 40) (hb : EvD K tb σ H (.list [])) : EvD K (tOp (rEqD K) (tCall (sp_wrong_rows K) [] E ta) tb) σ H (.bool (!wrong sz s)) := fun H1 e Q q =>
  h H1 e _ fun vs H2 e2 dvs => ⟨sz, s, by rw [List.append_nil]; exact dvs, ok, hs, fun rs v H3 hp e3 n => hb H3 ((e.trans e2).trans e3) _ fun w H4 e4 dw =>
    rv_eqD (shaped_rows rs) (by decide +kernel) H4 v w (dpx e4 n.dp) dw _ fun z H5 e5 dz => q z H5 (((e2.trans e3).trans e4).trans e5) (by
      rw [eqv_nil, show (rs.map rowD).isEmpty = rs.isEmpty by cases rs <;> rfl, perm_empty hp] at dz
      unfold wrong
      rw [Bool.not_not]
      exact dz)⟩
theorem ed_wrNe {sz : List Nat} {s : List Int} (h : EvDA K ta σ H [nT sz, iT s]) (ok : SzOk sz) (hs : s.length ≤ 40) (hb : EvD K tb σ H (.list [])) : EvD K (tOp (rNeD K) (tCall (sp_wrong_rows K) [] E ta) tb) σ H (.bool (wrong sz s)) := fun H1 e Q q =>
  h H1 e _ fun vs H2 e2 dvs => ⟨sz, s, by rw [List.append_nil]; exact dvs, ok, hs, fun rs v H3 hp e3 n => hb H3 ((e.trans e2).trans e3) _ fun w H4 e4 dw =>
    rv_neD (shaped_rows rs) (by decide +kernel) H4 v w (dpx e4 n.dp) dw _ fun z H5 e5 dz => q z H5 (((e2.trans e3).trans e4).trans e5) (by
      rw [eqv_nil, show (rs.map rowD).isEmpty = rs.isEmpty by cases rs <;> rfl, perm_empty hp] at dz
      exact dz)⟩
end
section
variable {P : Program} {w : World} {K : PySem.W.Frag} {mg : Str → Option Value} {base : Heap}
def sp_good_draft (K : PySem.W.Frag) : Sp := spD K fun ds d => ∃ sz dr, ds = [nT sz, iT dr] ∧ DrOk sz dr ∧ d = .bool true
theorem ln_good_draft : ∀ vs H Q E, sp_good_draft K vs H Q E → vs.length = 2 := spD_len fun ds d ⟨_, _, e, _⟩ => by rw [e]; rfl
theorem sc_good_draft : FnScope ["sizes", "thing", "hue"] ["sizes", "thing"] (defScope (top 38)) := ⟨rfl, rfl, rfl, by decide +kernel, rfl, by decide +kernel, by decide +kernel⟩
theorem df_good_draft (T : Txt K mg) (F : FnT K mg "good_draft" (top 38)) (D_is_between : Df P w K mg base "is_between" 2 ["thing", "least", "most"] (sp_is_between K)) : Df P w K mg base "good_draft" 3 ["sizes", "thing"] (sp_good_draft K) := by
  have nd := sc_good_draft.nd
  refine df_mk (k := 2) F sc_good_draft (fun _ _ _ _ _ _ us hl => match us, hl with | [_, _], _ => rfl) (ln_good_draft) (fun f cdv A outer s H vs Q E hr h => ?_)
  refine ⟨_, (pss_cons (ps_if (PW.pt (pw_or (pt_not (pt_val (pe_callB (r := rIsi K) call_isi rfl T.b_isinstance (by decide +kernel) (pa_cons (pv 1) (pa_cons (pe_bltn (v := .ty "tuple") rfl T.b_tuple (by decide +kernel) rfl) pa_nil))))) (pw_or1 (pt_cmpR op_gt (pe_callB (r := rLn K) call_len rfl T.b_len (by decide +kernel) (pa_cons (pv 1) pa_nil)) (pe_gi T.k_MOST_PLACES rfl) (nomark _))))) (pss_one (ps_ret pe_bl)) pss_nil)
      (pss_one (ps_ret (pe_callB (r := rAll K) (cr_all rfl) rfl T.b_all (by decide +kernel) (pa_cons (pe_lc (own := [("hue", 2)]) (g := gName 2) (tt := tYes) rfl nd (pi_tup (pv 1)) (blkOk_by (N := ["sizes", "thing", "hue"]) (sc := defScope (top 38)) (by decide +kernel)) (fun _ _ _ _ _ => (pg_name (i := 2) nd rfl (by first | exact Or.inl rfl | exact Or.inr rfl))) (fun _ _ _ _ _ => pts_nil) (fun _ _ _ _ _ => (pe_d D_is_between (hr.mono (by decide)) rfl (pa_cons (pv 2) (pa_cons (pe_gi T.k_BLANK rfl) (pa_cons (pe_op op_sub (pe_callB (r := rLn K) call_len rfl T.b_len (by decide +kernel) (pa_cons (pv 0) pa_nil)) pe_int) pa_nil)))))) pa_nil))))), ?_⟩
  obtain ⟨ds, d, hv, ⟨sz, dr, rfl, ok, rfl⟩, k⟩ := h
  obtain ⟨v, v2, rfl, h1, h2⟩ := dpa2 hv
  have l1 := ok.len
  refine r_if (b := false) (et_is (et_or (a := false) (et_not (a := true) (et_B (ei_tup (ed_var h2) (flats_int _)))) (fun _ => et_test (ed_op (ed_lenI (ed_var h2)) ed_int rv_gt))) ?_) (fun e => nomatch e) fun _ H1 e1 => ?_
  · simp only [Bool.false_or, decide_eq_false_iff_not]
    omega
  · have q := ed_all (K := K) (H := H1) (σ := L2.start ["sizes", "thing", "hue"] [v, v2]) (te := tLc (iTup K (tVar 1)) (gName 2) tYes (tCall (sp_is_between K) [] E0 (tCons (tVar 2) (tCons (tC (.int (-1))) (tCons (tOp (rI0 fun i j => .int (i - j)) (tCB (rLn K) (tCons (tVar 0) tNil)) (tC (.int 1))) tNil)))) [2]) (bs := dr.map fun i => (decide (-1 ≤ i) && decide (i ≤ (sz.length : Int) - 1))) ?_
    · rw [all_id, List.all_eq_true.mpr (fun n hn => by
        have := ok.all n hn
        simp only [Bool.and_eq_true, decide_eq_true_eq]
        omega)] at q
      exact r_retD q (kk e1 k)
    · rw [← map_bools]
      exact en_lcI _ (ed_var (dpx e1 h2)) (by omega) (fun _ => rfl) (fun i hi H2 e2 => (en_call (eda_cons (ed_var (.int i)) (eda_cons ed_int (eda_cons (ed_sub (ed_lenN (ed_var (dpx (e1.trans e2) h1))) ed_int rfl) eda_nil))) ⟨i, -1, (sz.length : Int) - 1, rfl, rfl⟩).toD) (fun _ _ => rfl)
def sp_need_draft (K : PySem.W.Frag) : Sp := spD K fun ds d => ∃ sz dr, ds = [nT sz, iT dr] ∧ SzOk sz ∧ DrOk sz dr ∧ d = .none
theorem ln_need_draft : ∀ vs H Q E, sp_need_draft K vs H Q E → vs.length = 2 := spD_len fun ds d ⟨_, _, e, _⟩ => by rw [e]; rfl
theorem sc_need_draft : FnScope ["sizes", "draft"] ["sizes", "draft"] (defScope (top 39)) := ⟨rfl, rfl, rfl, by decide +kernel, rfl, by decide +kernel, by decide +kernel⟩
theorem df_need_draft (T : Txt K mg) (F : FnT K mg "need_draft" (top 39)) (D_need_sizes : Df P w K mg base "need_sizes" 4 ["sizes"] (sp_need_sizes K)) (D_good_draft : Df P w K mg base "good_draft" 3 ["sizes", "thing"] (sp_good_draft K)) : Df P w K mg base "need_draft" 5 ["sizes", "draft"] (sp_need_draft K) := by
  have nd := sc_need_draft.nd
  refine df_mk (k := 4) F sc_need_draft (fun _ _ _ _ _ _ us hl => match us, hl with | [_, _], _ => rfl) (ln_need_draft) (fun f cdv A outer s H vs Q E hr h => ?_)
  refine ⟨_, (pss_cons (ps_expr (pe_d D_need_sizes (hr.mono (by decide)) rfl (pa_cons (pv 0) pa_nil)))
      (pss_one (ps_if (pt_not (pt_val (pe_d D_good_draft (hr.mono (by decide)) rfl (pa_cons (pv 0) (pa_cons (pv 1) pa_nil))))) (pss_one ps_never) pss_nil))), ?_⟩
  obtain ⟨ds, d, hv, ⟨sz, dr, rfl, ok, ok2, rfl⟩, k⟩ := h
  obtain ⟨v, v2, rfl, h1, h2⟩ := dpa2 hv
  refine r_drop (K := K) (d := .none) (en_call (eda_cons (ed_var h1) eda_nil) ⟨sz, rfl, ok, rfl⟩).toD fun H1 e1 => ?_
  exact s_when (b := false) (et_not (a := true) (et_B (en_call (eda_cons (ed_var (dpx e1 h1)) (eda_cons (ed_var (dpx e1 h2)) eda_nil)) ⟨sz, dr, rfl, ok2, rfl⟩).toD)) (fun e => nomatch e) fun _ H2 e2 => k _ _ (e1.trans e2) .non
def sp_clean (K : PySem.W.Frag) : Sp := spD K fun ds d => ∃ sz dr, ds = [nT sz, iT dr] ∧ SzOk sz ∧ DrOk sz dr ∧ d = .bool (!wrong sz dr)
theorem ln_clean : ∀ vs H Q E, sp_clean K vs H Q E → vs.length = 2 := spD_len fun ds d ⟨_, _, e, _⟩ => by rw [e]; rfl
theorem sc_clean : FnScope ["sizes", "draft"] ["sizes", "draft"] (defScope (top 40)) := ⟨rfl, rfl, rfl, by decide +kernel, rfl, by decide +kernel, by decide +kernel⟩
theorem df_clean (T : Txt K mg) (F : FnT K mg "clean" (top 40)) (D_need_draft : Df P w K mg base "need_draft" 5 ["sizes", "draft"] (sp_need_draft K)) (D_wrong_rows : Df P w K mg base "wrong_rows" 3 ["sizes", "strip"] (sp_wrong_rows K)) : Df P w K mg base "clean" 6 ["sizes", "draft"] (sp_clean K) := by
  have nd := sc_clean.nd
  refine df_mk (k := 5) F sc_clean (fun _ _ _ _ _ _ us hl => match us, hl with | [_, _], _ => rfl) (ln_clean) (fun f cdv A outer s H vs Q E hr h => ?_)
  refine ⟨_, (pss_cons (ps_expr (pe_d D_need_draft (hr.mono (by decide)) rfl (pa_cons (pv 0) (pa_cons (pv 1) pa_nil))))
      (pss_one (ps_ret (pe_cmpR (r := rEqD K) (op_eqD hr.units) (pe_d D_wrong_rows (hr.mono (by decide)) rfl (pa_cons (pv 0) (pa_cons (pv 1) pa_nil))) (pe_lst pa_nil) (nomark _))))), ?_⟩
  obtain ⟨ds, d, hv, ⟨sz, dr, rfl, ok, ok2, rfl⟩, k⟩ := h
  obtain ⟨v, v2, rfl, h1, h2⟩ := dpa2 hv
  refine r_drop (K := K) (d := .none) (en_call (eda_cons (ed_var h1) (eda_cons (ed_var h2) eda_nil)) ⟨sz, dr, rfl, ok, ok2, rfl⟩).toD fun H1 e1 => ?_
  exact r_retD (ed_wrEq (eda_cons (ed_var (dpx e1 h1)) (eda_cons (ed_var (dpx e1 h2)) eda_nil)) ok ok2.len (en_lst eda_nil).toD) (kk e1 k)
/-! ### blanks, with_hue -/
def blUp (d : List Int) (n : Nat) : List Nat := (List.range n).filter fun p => decide (d.getD p 0 = -1)
theorem blUp_snoc (d : List Int) (n : Nat) : blUp d (n + 1) = if decide (d.getD n 0 = -1) then blUp d n ++ [n] else blUp d n := by
  unfold blUp
  rw [range_snoc, List.filter_append]
  cases h : decide (d.getD n 0 = -1) <;> simp at h <;> simp [h]
theorem blUp_len (d : List Int) (n : Nat) : (blUp d n).length ≤ n := by
  have := List.length_filter_le (fun p => decide (d.getD p 0 = -1)) (List.range n)
  rw [List.length_range] at this
  exact this
def natD (l : List Nat) : List PyData := l.map fun (n : Nat) => PyData.int (n : Int)
theorem iT_get {l : List Int} {i : Nat} {e : PyData} (h : (l.map PyData.int)[i]? = some e) : i < l.length ∧ e = .int (l.getD i 0) := by
  rw [List.getElem?_map] at h
  obtain ⟨m, hm, rfl⟩ := Option.map_eq_some_iff.mp h
  obtain ⟨hi, e⟩ := List.getElem?_eq_some_iff.mp hm
  refine ⟨hi, ?_⟩
  rw [List.getD_eq_getElem?_getD, hm]
  rfl
def sp_blanks (K : PySem.W.Frag) : Sp := spD K fun ds d => ∃ dr : List Int, ds = [iT dr] ∧ dr.length ≤ 40 ∧ d = .list (natD (blanksM dr))
theorem ln_blanks : ∀ vs H Q E, sp_blanks K vs H Q E → vs.length = 1 := spD_len fun ds d ⟨_, e, _⟩ => by rw [e]; rfl
theorem sc_blanks : FnScope ["draft", "place", "hue"] ["draft"] (defScope (top 41)) := ⟨rfl, rfl, rfl, by decide +kernel, rfl, by decide +kernel, by decide +kernel⟩
theorem df_blanks (T : Txt K mg) (F : FnT K mg "blanks" (top 41))  : Df P w K mg base "blanks" 1 ["draft"] (sp_blanks K) := by
  have nd := sc_blanks.nd
  refine df_mk (k := 0) F sc_blanks (fun _ _ _ _ _ _ us hl => match us, hl with | [_], _ => rfl) (ln_blanks) (fun f cdv A outer s H vs Q E hr h => ?_)
  refine ⟨_, (pss_one (ps_ret (pe_lc (own := [("place", 1), ("hue", 2)]) (g := gTup K 2 (gCons (gName 1) (gCons (gName 2) gNil))) rfl nd (pi_enumT rfl T.b_enumerate (pa_cons (pv 0) pa_nil)) (blkOk_by (N := ["draft", "place", "hue"]) (sc := defScope (top 41)) (by decide +kernel)) (fun _ _ _ _ _ => (pg_tup rfl (pgs_cons (pg_name (i := 1) nd rfl (by first | exact Or.inl rfl | exact Or.inr rfl)) (pgs_cons (pg_name (i := 2) nd rfl (by first | exact Or.inl rfl | exact Or.inr rfl)) pgs_nil)))) (fun _ _ _ _ _ => (pts_one (pt_cmpR op_eq (pv 2) (pe_gi T.k_BLANK rfl) (nomark _)))) (fun _ _ _ _ _ => (pv 1))))), ?_⟩
  obtain ⟨ds, d, hv, ⟨dr, rfl, hl, rfl⟩, k⟩ := h
  obtain ⟨v, rfl, h1⟩ := dpa1 hv
  have q := en_lcE (K := K) (H := H) (te := tVar 0) (σ := L2.start ["draft", "place", "hue"] [v]) (tb := tVar 1) (tt := tTest (tOp rEq (tVar 2) (tC (.int (-1))))) (j1 := 1) (j2 := 2) (vs := [1, 2]) (es := dr.map PyData.int) (fun i e => decide (dr.getD i 0 = -1)) (fun i e => .int (i : Int)) (ed_var h1) (by rw [iT_len]; omega) (fun _ _ => rfl)
    (fun i e v H1 e1 he dv => by
      obtain ⟨_, rfl⟩ := iT_get he
      exact et_test (ed_op (ed_var dv) ed_int rv_eqI)) (fun i e v H1 e1 he dv _ => ⟨ed_var (.int _), rfl⟩) (fun i => natD (blUp dr (min i 40))) rfl (fun i e he => by
      obtain ⟨hi, _⟩ := iT_get he
      rw [show min (i + 1) 40 = min i 40 + 1 by omega, blUp_snoc, show min i 40 = i by omega]
      by_cases hz : dr.getD i 0 = -1
      · rw [if_pos (decide_eq_true hz), if_pos (decide_eq_true hz)]
        unfold natD
        rw [List.map_append]
        rfl
      · rw [if_neg (by rw [decide_eq_false hz]; decide), if_neg (by rw [decide_eq_false hz]; decide)]) (fun i => by
      unfold natD
      rw [List.length_map]
      have := blUp_len dr (min i 40)
      omega)
  rw [iT_len, show min dr.length 40 = dr.length by omega] at q
  exact r_ret q k
def sp_with_hue (K : PySem.W.Frag) : Sp := spD K fun ds d => ∃ (dr : List Int) (p : Nat) (h : Int), ds = [iT dr, .int (p : Int), .int h] ∧ p < dr.length ∧ dr.length ≤ 40 ∧ d = iT (dr.set p h)
theorem ln_with_hue : ∀ vs H Q E, sp_with_hue K vs H Q E → vs.length = 3 := spD_len fun ds d ⟨_, _, _, e, _⟩ => by rw [e]; rfl
theorem cut_to {p : Nat} {l : List PyData} (h : p ≤ l.length) : cutD l none (some (p : Int)) = l.take p := by
  unfold cutD
  rw [HT.sIx_none, HT.sIx_nat, Nat.min_eq_left h]
  simp
theorem cut_from {p : Nat} {l : List PyData} (h : p ≤ l.length) : cutD l (some (p : Int)) none = l.drop p := by
  unfold cutD
  rw [HT.sIx_none, HT.sIx_nat, Nat.min_eq_left h]
  exact List.take_of_length_le (by rw [List.length_drop]; exact Nat.le_refl _)
theorem set_cut (dr : List Int) (p : Nat) (h : Int) (hp : p < dr.length) : dr.set p h = dr.take p ++ [h] ++ dr.drop (p + 1) := by
  rw [List.set_eq_take_append_cons_drop, if_pos hp, List.append_assoc]
  rfl
theorem sc_with_hue : FnScope ["draft", "place", "hue"] ["draft", "place", "hue"] (defScope (top 42)) := ⟨rfl, rfl, rfl, by decide +kernel, rfl, by decide +kernel, by decide +kernel⟩
theorem df_with_hue (T : Txt K mg) (F : FnT K mg "with_hue" (top 42))  : Df P w K mg base "with_hue" 1 ["draft", "place", "hue"] (sp_with_hue K) := by
  have nd := sc_with_hue.nd
  refine df_mk (k := 0) F sc_with_hue (fun _ _ _ _ _ _ us hl => match us, hl with | [_, _, _], _ => rfl) (ln_with_hue) (fun f cdv A outer s H vs Q E hr h => ?_)
  refine ⟨_, (pss_one (ps_ret (pe_op (r := rCatA K) op_catA (pe_op (r := rCatA K) op_catA (pe_slice (r := rSlA K) sl_tupA (pv 0) po_none (po_some (pv 1))) (pe_tup (pa_cons (pv 2) pa_nil))) (pe_slice (r := rSlA K) sl_tupA (pv 0) (po_some (pe_op op_add (pv 1) pe_int)) po_none)))), ?_⟩
  obtain ⟨ds, d, hv, ⟨dr, p, hh, rfl, hp, hl, rfl⟩, k⟩ := h
  obtain ⟨v, v2, v3, rfl, h1, h2, h3⟩ := dpa3 hv
  have e : iT (dr.set p hh) = .tuple ((dr.map PyData.int).take p ++ [.int hh] ++ (dr.map PyData.int).drop (p + 1)) := by
    unfold iT
    rw [set_cut dr p hh hp, List.map_append, List.map_append, List.map_take, List.map_drop]
    rfl
  refine r_retD (d := iT (dr.set p hh)) ?_ k (flat_iT _)
  rw [e]
  refine ed_op (ed_op ((ed_slT (K := K) (es := dr.map PyData.int) (ed_var h1) eo_no (eo_at (ed_var h2))).eq (by rw [cut_to (by rw [iT_len]; omega)])) (en_tup (eda_cons (ed_var h3) eda_nil)) (rv_catT (by simp; omega))) ((ed_slT (K := K) (es := dr.map PyData.int) (ed_var h1) (eo_at (i := ((p + 1 : Nat) : Int)) (ed_add (ed_var h2) ed_int (by omega))) eo_no).eq (by rw [cut_from (by rw [iT_len]; omega)])) (rv_catT (by simp; omega))
end
end EH

set_option Elab.async false
set_option linter.all false
set_option maxRecDepth 100000
set_option maxHeartbeats 4000000
namespace EH
open PySem PySem.Spec PyProof.Rows L2 Evl
theorem thr_mem {L S pl : Nat} {r : Nat × Nat} (h : r ∈ thr L S pl) : r.1 + (S - 1) * r.2 < L := by
  rw [thr_eq] at h
  obtain ⟨j, hj, hr⟩ := List.mem_flatMap.mp h
  unfold thUp at hr
  obtain ⟨k, hk, rfl⟩ := List.mem_map.mp hr
  have := (List.mem_filter.mp hk).2
  unfold thCond at this
  simp only [Bool.and_eq_true, decide_eq_true_eq] at this
  exact this.2
theorem thr_le {L S pl : Nat} (hL : L ≤ 40) (hS : S ≤ 8) : (thr L S pl).length ≤ 320 := by
  rw [thr_eq]
  exact thr_len L S pl _ hS (Nat.le_trans (Nat.div_le_self _ _) (by omega))
section
variable {P : Program} {w : World} {K : PySem.W.Frag} {mg : Str → Option Value} {base : Heap}
def sp_bars_at (K : PySem.W.Frag) : Sp := fun vs H Q _ => ∃ (sz : List Nat) (dr : List Int) (p h : Nat), DpAll K H vs [nT sz, iT dr, .int (p : Int), .int (h : Int)] ∧ SzOk sz ∧ dr.length ≤ 40 ∧ p < dr.length ∧ h < sz.length ∧
  ∀ (rs : List (Nat × Nat)) v H', rs.Perm (barsM sz dr p h) → Ex H H' → New K H H' v (.list (rs.map rowD)) → Q v H'
theorem ln_bars_at : ∀ vs H Q E, sp_bars_at K vs H Q E → vs.length = 4 := fun vs H Q E ⟨_, _, _, _, h, _⟩ => dpa_len h
theorem sc_bars_at : FnScope ["sizes", "draft", "place", "hue", "size", "full", "found", "row", "one"] ["sizes", "draft", "place", "hue"] (defScope (top 43)) := ⟨rfl, rfl, rfl, by decide +kernel, rfl, by decide +kernel, by decide +kernel⟩
theorem df_bars_at (T : Txt K mg) (F : FnT K mg "bars_at" (top 43)) (D_with_hue : Df P w K mg base "with_hue" 1 ["draft", "place", "hue"] (sp_with_hue K)) (D_rows_through : Df P w K mg base "rows_through" 1 ["length", "size", "place"] (sp_rows_through K)) (D_row_places : Df P w K mg base "row_places" 1 ["row", "size"] (sp_row_places K)) : Df P w K mg base "bars_at" 2 ["sizes", "draft", "place", "hue"] (sp_bars_at K) := by
  have nd := sc_bars_at.nd
  refine df_mk (k := 1) F sc_bars_at (fun _ _ _ _ _ _ us hl => match us, hl with | [_, _, _, _], _ => rfl) (ln_bars_at) (fun f cdv A outer s H vs Q E hr h => ?_)
  refine ⟨_, (pss_cons (ps_set (i := 4) nd rfl (by first | exact Or.inl rfl | exact Or.inr rfl) (pe_ix (r := rIxT K) ix_tup (pv 0) (pv 3) (fun _ _ => rfl)))
      (pss_cons (ps_set (i := 5) nd rfl (by first | exact Or.inl rfl | exact Or.inr rfl) (pe_d D_with_hue (hr.mono (by decide)) rfl (pa_cons (pv 1) (pa_cons (pv 2) (pa_cons (pv 3) pa_nil)))))
      (pss_cons (ps_set (i := 6) nd rfl (by first | exact Or.inl rfl | exact Or.inr rfl) (pe_lst pa_nil))
      (pss_cons (ps_for PassesOwn.never rfl (pi_list (pe_d D_rows_through (hr.mono (by decide)) rfl (pa_cons (pe_callB (r := rLn K) call_len rfl T.b_len (by decide +kernel) (pa_cons (pv 1) pa_nil)) (pa_cons (pv 4) (pa_cons (pv 2) pa_nil))))) (pg_name (i := 7) nd rfl (by first | exact Or.inl rfl | exact Or.inr rfl)) (pss_one (ps_if (pt_val (pe_callB (r := rAll K) (cr_all rfl) rfl T.b_all (by decide +kernel) (pa_cons (pe_lc (own := [("one", 8)]) (g := gName 8) (tt := tYes) rfl nd (pi_tup (pe_d D_row_places (hr.mono (by decide)) rfl (pa_cons (pv 7) (pa_cons (pv 4) pa_nil)))) (blkOk_by (N := ["sizes", "draft", "place", "hue", "size", "full", "found", "row", "one"]) (sc := defScope (top 43)) (by decide +kernel)) (fun _ _ _ _ _ => (pg_name (i := 8) nd rfl (by first | exact Or.inl rfl | exact Or.inr rfl))) (fun _ _ _ _ _ => pts_nil) (fun _ _ _ _ _ => (pe_cmpR op_eq (pe_ix (r := rIxT K) ix_tup (pv 5) (pv 8) (fun _ _ => rfl)) (pv 3) (nomark _)))) pa_nil))) (pss_one (ps_expr (pe_bm PySem.F.plainAttrs_list PySem.F.slot_list_append PySem.F.type_list_append mt_append (pv 6) (pa_cons (pv 7) pa_nil)))) pss_nil)))
      (pss_one (ps_ret (pv 6))))))), ?_⟩
  obtain ⟨sz, dr, pl, hu, hv, ok, hl, hp, hh, k⟩ := h
  obtain ⟨v, v2, v3, v4, rfl, h1, h2, h3, h4⟩ := dpa4 hv
  have hS := sz_get ok hh
  rw [dp_int h3, dp_int h4]
  refine r_asg (K := K) (ed_atN (ed_var h1) (ed_var (.int _)) hh) fun u1 H1 e1 d1 => ?_
  rw [dp_int d1]
  refine r_asg (K := K) (en_call (eda_cons (ed_var (dpx e1 h2)) (eda_cons (ed_var (.int _)) (eda_cons (ed_var (.int _)) eda_nil))) ⟨dr, pl, (hu : Int), rfl, hp, hl, rfl⟩).toD fun u2 H2 e2 d2 => ?_
  refine r_asgN (K := K) (en_lst eda_nil) fun p H3 hpn e3 hlp => ?_
  have a0 := acc_begin hpn e3 hlp
  have x2 : Dp K H3 v2 (iT dr) := dpx ((e1.trans e2).trans e3) h2
  have d2' : Dp K H3 u2 (iT (dr.set pl (hu : Int))) := dpx e3 d2
  refine r_forCall (K := K) (eda_cons (ed_lenI (ed_var x2)) (eda_cons (ed_var (.int _)) (eda_cons (ed_var (.int _)) eda_nil))) fun vs H4 e4 dvs => ⟨dr.length, sz.getD hu 0, pl, by rw [List.append_nil]; exact dvs, by omega, hl, hS.1, hS.2, hp, fun rs u H5 hperm e5 n => ?_⟩
  obtain ⟨q, xs, rfl, hq, hx, hxa⟩ := n
  obtain ⟨_, _, _, ys, zp, _⟩ := acc_mono a0 e4
  have hpq : p ≠ q := ne_of_none zp hq
  let cond : Nat × Nat → Bool := fun r => hasHue (dr.set pl (hu : Int)) r (sz.getD hu 0) (hu : Int)
  refine loopL hx hxa (fun i σ' H' => ∃ v7 v8, σ' = [some v, some v2, some (.int (pl : Int)), some (.int (hu : Int)), some (.int ((sz.getD hu 0 : Nat) : Int)), some u2, some (.ref p), v7, v8] ∧ Acc K H2 p (((rs.take i).filter cond).map rowD) H' ∧ Keep p H5 H') ⟨none, none, rfl, acc_mono a0 (e4.trans e5), Keep.of (Ex.refl _)⟩ (fun i σ' H' ⟨_, _, _, _, z⟩ => z _ _ hpq.symm hx) ?_ ?_
  · rintro i e x σ' H' hei dx ⟨v7, v8, rfl, a, kp⟩
    rw [List.getElem?_map] at hei
    obtain ⟨r, hr, rfl⟩ := Option.map_eq_some_iff.mp hei
    have hmem : r ∈ thr dr.length (sz.getD hu 0) pl := hperm.mem_iff.mp (List.mem_of_getElem? hr)
    have hlt := thr_mem hmem
    have xu : Dp K H' u2 (iT (dr.set pl (hu : Int))) := dpx a.2.1 d2
    have xr : Dp K H' x (rowD r) := dpk (e5 _ _ zp) kp rfl dx
    refine s_when (b := cond r) (et_B (K := K) ?_) (fun hc H6 e6 => ?_) (fun hc H6 e6 => ⟨_, _, rfl, ?_, kp.trans (Keep.of e6)⟩)
    · show EvD K _ _ H' (.bool (hasHue (dr.set pl (hu : Int)) r (sz.getD hu 0) (hu : Int)))
      unfold hasHue
      rw [← all_id]
      refine ed_all ?_
      rw [← map_bools]
      exact en_lcNa _ (en_call (eda_cons (ed_var xr) (eda_cons (ed_var (.int _)) eda_nil)) ⟨r, sz.getD hu 0, rfl, by omega, rfl⟩).toD (by rw [rowPl_len]; omega) (fun _ => rfl) (fun i hi H1 e1 => ed_op (ed_atI (ed_var (dpx e1 xu)) (ed_var (.int _)) (by rw [List.length_set]; exact rowPl_lt hlt hi)) (ed_var (.int _)) rv_eqI) (fun _ _ => rfl)
    · refine acc_appK (i := 6) (d := rowD r) (acc_mono a e6) rfl (ed_var (dpx e6 xr)) rfl ?_ fun H7 a7 kp7 => ⟨_, _, rfl, ?_, (kp.trans (Keep.of e6)).trans kp7⟩
      · rw [List.length_map]
        have h9 := List.length_filter_le cond (rs.take i)
        rw [List.length_take, hperm.length_eq] at h9
        have := thr_le (L := dr.length) (S := sz.getD hu 0) (pl := pl) hl hS.2
        omega
      · rw [take_snoc hr, List.filter_append, List.map_append]
        simp only [List.filter_cons, hc, if_true, List.filter_nil, List.map_cons, List.map_nil]
        exact a7
    · rw [take_snoc hr, List.filter_append]
      simp only [List.filter_cons, hc, List.filter_nil, Bool.false_eq_true, if_false, List.append_nil]
      exact acc_mono a e6
  · rintro σ' H' ⟨v7, v8, rfl, a, kp⟩
    rw [List.length_map, List.take_length] at a
    exact ⟨_, rfl, k _ _ H' (hperm.filter cond) ((e1.trans e2).trans a.2.1) ((acc_new a).back (e1.trans e2))⟩
theorem ed_barEq {σ : L2.St} {H : Hp} {ta : TA} {tb : TE} {E : XK} {sz : List Nat} {dr : List Int} {p h : Nat} (ha : EvDA K ta σ H [nT sz, iT dr, .int (p : Int), .int (h : Int)]) (ok : SzOk sz) (hs : dr.length ≤ 40) (hp : p < dr.length) (hh : h < sz.length) (hb : EvD K tb σ H (.list [])) :
    EvD K (tOp (rEqD K) (tCall (sp_bars_at K) [] E ta) tb) σ H (.bool (barsM sz dr p h).isEmpty) := fun H1 e Q q =>
  ha H1 e _ fun vs H2 e2 dvs => ⟨sz, dr, p, h, by rw [List.append_nil]; exact dvs, ok, hs, hp, hh, fun rs v H3 hpm e3 n => hb H3 ((e.trans e2).trans e3) _ fun w H4 e4 dw =>
    rv_eqD (shaped_rows rs) (by decide +kernel) H4 v w (dpx e4 n.dp) dw _ fun z H5 e5 dz => q z H5 (((e2.trans e3).trans e4).trans e5) (by
      rw [eqv_nil, show (rs.map rowD).isEmpty = rs.isEmpty by cases rs <;> rfl, perm_empty hpm] at dz
      exact dz)⟩
def sp_open_at (K : PySem.W.Frag) : Sp := spD K fun ds d => ∃ (sz : List Nat) (dr : List Int) (p : Nat), ds = [nT sz, iT dr, .int (p : Int)] ∧ SzOk sz ∧ dr.length ≤ 40 ∧ p < dr.length ∧ d = nT (openM sz dr p)
theorem ln_open_at : ∀ vs H Q E, sp_open_at K vs H Q E → vs.length = 3 := spD_len fun ds d ⟨_, _, _, e, _⟩ => by rw [e]; rfl
theorem sc_open_at : FnScope ["sizes", "draft", "place", "hue"] ["sizes", "draft", "place"] (defScope (top 44)) := ⟨rfl, rfl, rfl, by decide +kernel, rfl, by decide +kernel, by decide +kernel⟩
theorem df_open_at (T : Txt K mg) (F : FnT K mg "open_at" (top 44)) (D_bars_at : Df P w K mg base "bars_at" 2 ["sizes", "draft", "place", "hue"] (sp_bars_at K)) : Df P w K mg base "open_at" 3 ["sizes", "draft", "place"] (sp_open_at K) := by
  have nd := sc_open_at.nd
  refine df_mk (k := 2) F sc_open_at (fun _ _ _ _ _ _ us hl => match us, hl with | [_, _, _], _ => rfl) (ln_open_at) (fun f cdv A outer s H vs Q E hr h => ?_)
  refine ⟨_, (pss_one (ps_ret (pe_callTy (r := rTp K) call_tuple_of rfl T.b_tuple (by decide +kernel) (pa_cons (pe_lc (own := [("hue", 3)]) (g := gName 3) rfl nd (pi_range1 rfl T.b_range (pa_cons (pe_callB (r := rLn K) call_len rfl T.b_len (by decide +kernel) (pa_cons (pv 0) pa_nil)) pa_nil)) (blkOk_by (N := ["sizes", "draft", "place", "hue"]) (sc := defScope (top 44)) (by decide +kernel)) (fun _ _ _ _ _ => (pg_name (i := 3) nd rfl (by first | exact Or.inl rfl | exact Or.inr rfl))) (fun _ _ _ _ _ => (pts_one (pt_cmpR (r := rEqD K) (op_eqD hr.units) (pe_d D_bars_at (hr.mono (by decide)) rfl (pa_cons (pv 0) (pa_cons (pv 1) (pa_cons (pv 2) (pa_cons (pv 3) pa_nil))))) (pe_lst pa_nil) (nomark _)))) (fun _ _ _ _ _ => (pv 3))) pa_nil)))), ?_⟩
  obtain ⟨ds, d, hv, ⟨sz, dr, pl, rfl, ok, hl, hp, rfl⟩, k⟩ := h
  obtain ⟨v, v2, v3, rfl, h1, h2, h3⟩ := dpa3 hv
  have l2 := ok.hi
  refine r_retD (d := nT (openM sz dr pl)) ?_ k (flat_nT _)
  rw [nT_eq]
  refine ed_tuple ?_
  refine (en_lcRf (lo := 0) (n := ((sz.length : Int)).toNat) _ (ei_r1 (K := K) (eda_cons (ed_lenN (ed_var h1)) eda_nil) (by omega)) (fun i => (barsM sz dr pl i).isEmpty) (fun (i : Nat) => .int (i : Int)) (by omega) (fun _ => rfl) (fun i hi H1 e1 => ?_) (fun i hi _ H1 e1 => ?_) (fun _ _ _ => rfl)).eq ?_
  · exact et_test (ed_barEq (eda_cons (ed_var (dpx e1 h1)) (eda_cons (ed_var (dpx e1 h2)) (eda_cons (ed_var (dpx e1 h3)) (eda_cons ((ed_var (.int _)).eq (by rw [Int.zero_add])) eda_nil)))) ok hl hp (by omega) (en_lst eda_nil).toD)
  · exact (ed_var (.int _)).eq (by rw [Int.zero_add])
  · rw [Int.toNat_natCast]
    rfl
def sp_is_blank (K : PySem.W.Frag) : Sp := spD K fun ds d => ∃ (dr : List Int) (p : Nat), ds = [iT dr, .int (p : Int)] ∧ d = .bool (decide (p < dr.length) && decide (dr.getD p 0 = -1))
theorem ln_is_blank : ∀ vs H Q E, sp_is_blank K vs H Q E → vs.length = 2 := spD_len fun ds d ⟨_, _, e, _⟩ => by rw [e]; rfl
theorem sc_is_blank : FnScope ["draft", "place"] ["draft", "place"] (defScope (top 45)) := ⟨rfl, rfl, rfl, by decide +kernel, rfl, by decide +kernel, by decide +kernel⟩
theorem df_is_blank (T : Txt K mg) (F : FnT K mg "is_blank" (top 45)) (D_is_between : Df P w K mg base "is_between" 2 ["thing", "least", "most"] (sp_is_between K)) : Df P w K mg base "is_blank" 3 ["draft", "place"] (sp_is_blank K) := by
  have nd := sc_is_blank.nd
  refine df_mk (k := 2) F sc_is_blank (fun _ _ _ _ _ _ us hl => match us, hl with | [_, _], _ => rfl) (ln_is_blank) (fun f cdv A outer s H vs Q E hr h => ?_)
  refine ⟨_, (pss_one (ps_ret (pe_and (pe_d D_is_between (hr.mono (by decide)) rfl (pa_cons (pv 1) (pa_cons pe_int (pa_cons (pe_op op_sub (pe_callB (r := rLn K) call_len rfl T.b_len (by decide +kernel) (pa_cons (pv 0) pa_nil)) pe_int) pa_nil)))) (pe_one (pe_cmpR op_eq (pe_ix (r := rIxT K) ix_tup (pv 0) (pv 1) (fun _ _ => rfl)) (pe_gi T.k_BLANK rfl) (nomark _)))))), ?_⟩
  obtain ⟨ds, d, hv, ⟨dr, pl, rfl, rfl⟩, k⟩ := h
  obtain ⟨v, v2, rfl, h1, h2⟩ := dpa2 hv
  have e : (decide ((0 : Int) ≤ (pl : Int)) && decide ((pl : Int) ≤ (dr.length : Int) - 1)) = decide (pl < dr.length) := by
    rw [decide_eq_true (show (0 : Int) ≤ (pl : Int) by omega), Bool.true_and]
    exact decide_eq_decide.mpr ⟨fun q => by omega, fun q => by omega⟩
  refine r_retD (d := .bool (decide (pl < dr.length) && decide (dr.getD pl 0 = -1))) ?_ k
  rw [← e]
  exact ed_and (en_call (eda_cons (ed_var h2) (eda_cons ed_int (eda_cons (ed_sub (ed_lenI (ed_var h1)) ed_int rfl) eda_nil))) ⟨(pl : Int), 0, (dr.length : Int) - 1, rfl, rfl⟩).toD fun q => ed_op (ed_atI (ed_var h1) (ed_var h2) (by rw [e] at q; exact of_decide_eq_true q)) ed_int rv_eqI
end
end EH

set_option Elab.async false
set_option linter.all false
set_option maxRecDepth 100000
set_option maxHeartbeats 4000000
namespace EH
open PySem PySem.Spec PyProof.Rows L2 Evl
theorem foldl_snoc {α β : Type} (f : β → α → β) (b : β) (l : List α) (x : α) : (l ++ [x]).foldl f b = f (l.foldl f b) x := by rw [List.foldl_append]; rfl
section
variable {P : Program} {w : World} {K : PySem.W.Frag} {mg : Str → Option Value} {base : Heap}
/-! ### product_of -/
theorem prod_le (sz : List Nat) (ok : ∀ n ∈ sz, 2 ≤ n ∧ n ≤ 8) (i : Nat) (hi : i ≤ sz.length) : prodM (sz.take i) ≤ 8 ^ i := by
  induction i with
  | zero => simp [prodM]
  | succ i ih =>
    have hlt : i < sz.length := hi
    have e := take_snoc (l := sz) (i := i) (x := sz[i]) (by simp [hlt])
    rw [e]
    unfold prodM
    rw [foldl_snoc, Nat.pow_succ]
    exact Nat.mul_le_mul (ih (by omega)) (ok _ (List.getElem_mem hlt)).2
def sp_product_of (K : PySem.W.Frag) : Sp := spD K fun ds d => ∃ sz : List Nat, ds = [nT sz] ∧ SzOk sz ∧ d = .int (prodM sz : Nat)
theorem ln_product_of : ∀ vs H Q E, sp_product_of K vs H Q E → vs.length = 1 := spD_len fun ds d ⟨_, e, _⟩ => by rw [e]; rfl
theorem sc_product_of : FnScope ["numbers", "found", "number"] ["numbers"] (defScope (top 50)) := ⟨rfl, rfl, rfl, by decide +kernel, rfl, by decide +kernel, by decide +kernel⟩
theorem df_product_of (T : Txt K mg) (F : FnT K mg "product_of" (top 50))  : Df P w K mg base "product_of" 1 ["numbers"] (sp_product_of K) := by
  have nd := sc_product_of.nd
  refine df_mk (k := 0) F sc_product_of (fun _ _ _ _ _ _ us hl => match us, hl with | [_], _ => rfl) (ln_product_of) (fun f cdv A outer s H vs Q E hr h => ?_)
  refine ⟨_, (pss_cons (ps_set (i := 1) nd rfl (by first | exact Or.inl rfl | exact Or.inr rfl) pe_int)
      (pss_cons (ps_for PassesOwn.never rfl (pi_tup (pv 0)) (pg_name (i := 2) nd rfl (by first | exact Or.inl rfl | exact Or.inr rfl)) (pss_one (ps_set (i := 1) nd rfl (by first | exact Or.inl rfl | exact Or.inr rfl) (pe_op op_mul (pv 1) (pv 2)))))
      (pss_one (ps_ret (pv 1))))), ?_⟩
  obtain ⟨ds, d, hv, ⟨sz, rfl, ok, rfl⟩, k⟩ := h
  obtain ⟨v, rfl, h1⟩ := dpa1 hv
  refine r_asg (K := K) (d := .int 1) ed_int fun u H1 e1 d1 => ?_
  rw [dp_int d1]
  refine r_forTx (K := K) (es := (toI sz).map PyData.int) (ed_var (dpx e1 h1)) (fun i σ' => ∃ v3, σ' = [some v, some (.int (prodM (sz.take i) : Nat)), v3]) ⟨none, rfl⟩ ?_ ?_
  · rintro i e x σ' H' e2 hei dx ⟨v3, rfl⟩
    obtain ⟨hi, rfl⟩ := nT_get hei
    rw [dp_int dx]
    have hb := prod_le sz ok.all i (by omega)
    have h8 : 8 ^ i ≤ 8 ^ 4 := Nat.pow_le_pow_right (by decide) (by have := ok.hi; omega)
    have hz : ((prodM (sz.take i) : Nat) : Int) * ((sz.getD i 0 : Nat) : Int) = ((prodM (sz.take (i + 1)) : Nat) : Int) := by
      have e := take_snoc (l := sz) (i := i) (x := sz.getD i 0) (by rw [List.getD_eq_getElem?_getD, List.getElem?_eq_getElem hi]; rfl)
      rw [e]
      unfold prodM
      rw [foldl_snoc, Int.natCast_mul]
    refine s_asgD (K := K) (ed_mul (ed_var (.int _)) (ed_var (.int _)) ⟨by omega, by omega⟩ hz) fun y H3 e3 dy => ?_
    rw [dp_int dy]
    exact ⟨e3, _, rfl⟩
  · rintro σ' H' e2 ⟨v3, rfl⟩
    rw [iT_len, toI_len, List.take_length]
    exact ⟨_, rfl, k _ _ (e1.trans e2) (.int _)⟩
/-! ### may_follow -/
def sp_may_follow (K : PySem.W.Frag) : Sp := spD K fun ds d => ∃ (sz : List Nat) (s : List Int) (h : Nat), ds = [nT sz, iT s, .int (h : Int)] ∧ SzOk sz ∧ s.length ≤ 40 ∧ h < sz.length ∧ d = .bool (mayM sz s h)
theorem ln_may_follow : ∀ vs H Q E, sp_may_follow K vs H Q E → vs.length = 3 := spD_len fun ds d ⟨_, _, _, e, _⟩ => by rw [e]; rfl
def mayRow (s : List Int) (o j : Nat) (h : Nat) : Bool := (List.range o).all fun k => decide (s.getD (s.length - (k + 1) * (j + 1)) 0 = (h : Int))
theorem sc_may_follow : FnScope ["sizes", "strip", "hue", "here", "others", "step", "k"] ["sizes", "strip", "hue"] (defScope (top 52)) := ⟨rfl, rfl, rfl, by decide +kernel, rfl, by decide +kernel, by decide +kernel⟩
theorem df_may_follow (T : Txt K mg) (F : FnT K mg "may_follow" (top 52))  : Df P w K mg base "may_follow" 1 ["sizes", "strip", "hue"] (sp_may_follow K) := by
  have nd := sc_may_follow.nd
  refine df_mk (k := 0) F sc_may_follow (fun _ _ _ _ _ _ us hl => match us, hl with | [_, _, _], _ => rfl) (ln_may_follow) (fun f cdv A outer s H vs Q E hr h => ?_)
  refine ⟨_, (pss_cons (ps_set (i := 3) nd rfl (by first | exact Or.inl rfl | exact Or.inr rfl) (pe_callB (r := rLn K) call_len rfl T.b_len (by decide +kernel) (pa_cons (pv 1) pa_nil)))
      (pss_cons (ps_set (i := 4) nd rfl (by first | exact Or.inl rfl | exact Or.inr rfl) (pe_op op_sub (pe_ix (r := rIxT K) ix_tup (pv 0) (pv 2) (fun _ _ => rfl)) pe_int))
      (pss_cons (ps_for PassesOwn.never rfl (pi_range2 rfl T.b_range (pa_cons pe_int (pa_cons (pe_op op_add (pe_op op_fdivN (pv 3) (pv 4)) pe_int) pa_nil))) (pg_name (i := 5) nd rfl (by first | exact Or.inl rfl | exact Or.inr rfl)) (pss_one (ps_if (pt_val (pe_callB (r := rAll K) (cr_all rfl) rfl T.b_all (by decide +kernel) (pa_cons (pe_lc (own := [("k", 6)]) (g := gName 6) (tt := tYes) rfl nd (pi_range2 rfl T.b_range (pa_cons pe_int (pa_cons (pe_op op_add (pv 4) pe_int) pa_nil))) (blkOk_by (N := ["sizes", "strip", "hue", "here", "others", "step", "k"]) (sc := defScope (top 52)) (by decide +kernel)) (fun _ _ _ _ _ => (pg_name (i := 6) nd rfl (by first | exact Or.inl rfl | exact Or.inr rfl))) (fun _ _ _ _ _ => pts_nil) (fun _ _ _ _ _ => (pe_cmpR op_eq (pe_ix (r := rIxT K) ix_tup (pv 1) (pe_op op_sub (pv 3) (pe_op op_mul (pv 6) (pv 5))) (fun _ _ => rfl)) (pv 2) (nomark _)))) pa_nil))) (pss_one (ps_ret pe_bl)) pss_nil)))
      (pss_one (ps_ret pe_bl))))), ?_⟩
  obtain ⟨ds, d, hv, ⟨sz, ss, hu, rfl, ok, hl, hh, rfl⟩, k⟩ := h
  obtain ⟨v, v2, v3, rfl, h1, h2, h3⟩ := dpa3 hv
  have hS := sz_get ok hh
  rw [dp_int h3]
  refine r_asg (K := K) (ed_lenI (ed_var h2)) fun u1 H1 e1 d1 => ?_
  rw [dp_int d1]
  refine r_asg (K := K) (d := .int ((sz.getD hu 0 - 1 : Nat) : Int)) (ed_sub (ed_atN (ed_var (dpx e1 h1)) (ed_var (.int _)) hh) ed_int (by omega)) fun u2 H2 e2 d2 => ?_
  rw [dp_int d2]
  have efd := fdiv_nat ss.length (sz.getD hu 0 - 1)
  have hW : ss.length / (sz.getD hu 0 - 1) ≤ 40 := Nat.le_trans (Nat.div_le_self _ _) hl
  have hmul : ∀ j, j < ss.length / (sz.getD hu 0 - 1) → ∀ kk, kk < sz.getD hu 0 - 1 → (kk + 1) * (j + 1) ≤ ss.length := fun j hj kk hk => by
    have q := (Nat.le_div_iff_mul_le (show 0 < sz.getD hu 0 - 1 by omega)).mp (show j + 1 ≤ ss.length / (sz.getD hu 0 - 1) from hj)
    have := Nat.mul_le_mul_right (j + 1) (show kk + 1 ≤ sz.getD hu 0 - 1 from hk)
    rw [Nat.mul_comm (sz.getD hu 0 - 1)] at this
    omega
  have emay : mayM sz ss hu = (List.range (ss.length / (sz.getD hu 0 - 1))).all fun j => !mayRow ss (sz.getD hu 0 - 1) j hu := rfl
  generalize ss.length / (sz.getD hu 0 - 1) = W at efd hW hmul emay
  refine r_forR (lo := 1) (n := ((W : Int) + 1 - 1).toNat) (ei_r2 (K := K) (eda_cons ed_int (eda_cons (ed_add (ed_fdiv (ed_var (.int _)) (ed_var (.int _)) ⟨by omega, by omega⟩ efd) ed_int rfl) eda_nil)) (by omega))
    (fun i σ' H' => ∃ v6 v7, σ' = [some v, some v2, some (.int (hu : Int)), some (.int (ss.length : Int)), some (.int ((sz.getD hu 0 - 1 : Nat) : Int)), v6, v7] ∧ Ex H H' ∧ ((List.range i).all fun j => !mayRow ss (sz.getD hu 0 - 1) j hu) = true) (fun H3 e3 => ⟨none, none, rfl, (e1.trans e2).trans e3, rfl⟩) ?_ ?_
  · rintro i σ' H' hi ⟨v6, v7, rfl, e3, ha⟩
    have hi' : i < W := by omega
    refine s_when (b := mayRow ss (sz.getD hu 0 - 1) i hu) (et_B (K := K) ?_) (fun hc H4 e4 => ?_) (fun hc H4 e4 => ⟨_, _, rfl, e3.trans e4, ?_⟩)
    · unfold mayRow
      rw [← all_id]
      refine ed_all ?_
      rw [← map_bools]
      refine (en_lcRa (lo := 1) (n := (((sz.getD hu 0 - 1 : Nat) : Int) + 1 - 1).toNat) _ (ei_r2 (K := K) (eda_cons ed_int (eda_cons (ed_add (ed_var (.int _)) ed_int rfl) eda_nil)) (by omega)) (fun kk => .bool (decide (ss.getD (ss.length - (kk + 1) * (i + 1)) 0 = (hu : Int)))) (by omega) (fun _ => rfl) (fun kk hk H5 e5 => ?_) (fun _ _ => rfl)).eq ?_
      · have hk' := hmul i hi' kk (by omega)
        have em : (1 + (kk : Int)) * (1 + (i : Int)) = (((kk + 1) * (i + 1) : Nat) : Int) := by
          rw [Int.natCast_mul, show 1 + (kk : Int) = ((kk + 1 : Nat) : Int) by omega, show 1 + (i : Int) = ((i + 1 : Nat) : Int) by omega]
        refine ed_op (ed_atI (p := ss.length - (kk + 1) * (i + 1)) (ed_var (dpx (e3.trans e5) h2)) (ed_sub (i := (ss.length : Int)) (j := (((kk + 1) * (i + 1) : Nat) : Int)) (ed_var (.int _)) (ed_mul (ed_var (.int (1 + (kk : Int)))) (ed_var (.int (1 + (i : Int)))) ⟨by omega, by omega⟩ em) (by omega)) ?_) (ed_var (.int _)) rv_eqI
        have : 1 ≤ (kk + 1) * (i + 1) := Nat.mul_pos (by omega) (by omega)
        omega
      · rw [show (((sz.getD hu 0 - 1 : Nat) : Int) + 1 - 1).toNat = sz.getD hu 0 - 1 by omega]
    · have ef : mayM sz ss hu = false := by
        rw [emay]
        refine Bool.eq_false_iff.mpr fun z => ?_
        have := List.all_eq_true.mp z i (List.mem_range.mpr hi')
        rw [hc] at this
        cases this
      rw [ef] at k
      exact r_retD (K := K) ed_bl (kk (e3.trans e4) k)
    · rw [range_snoc, List.all_append, ha]
      show (true && (!mayRow ss (sz.getD hu 0 - 1) i hu && true)) = true
      rw [hc]
      rfl
  · rintro σ' H' ⟨v6, v7, rfl, e3, ha⟩
    rw [show ((W : Int) + 1 - 1).toNat = W by omega, ← emay] at ha
    rw [ha] at k
    exact r_retD (K := K) ed_bl (kk e3 k)
end
end EH

set_option maxRecDepth 100000
namespace EH
def layM (sz : List Nat) : Nat → List (List Int)
  | 0 => [[]]
  | i + 1 => longM sz (layM sz i)
/-- n layers from here, each neither empty nor too long, then none -/
def layGo (sz : List Nat) : Nat → List (List Int) → Bool
  | 0, l => l.isEmpty
  | n + 1, l => !l.isEmpty && decide (l.length ≤ 10000) && layGo sz n (longM sz l)
theorem lay22 : layGo [2, 2] 3 [[]] = true := by decide +kernel
theorem lay33 : layGo [3, 3] 9 [[]] = true := by decide +kernel
end EH
namespace EH
theorem lay34 : layGo [3, 4] 18 [[]] = true := by decide +kernel
theorem lay223 : layGo [2, 2, 3] 7 [[]] = true := by decide +kernel
theorem lay4 : layGo [4] 4 [[]] = true := by decide +kernel
theorem lay26 : layGo [2, 6] 11 [[]] = true := by decide +kernel
end EH

set_option Elab.async false
set_option linter.all false
set_option maxRecDepth 100000
set_option maxHeartbeats 4000000
namespace EH
open PySem PySem.Spec PyProof.Rows L2 Evl
theorem flats_iTs (l : List (List Int)) : flats (l.map iT) = true := by
  induction l with
  | nil => rfl
  | cons a r ih =>
    show (flat (iT a) && flats (r.map iT)) = true
    rw [flat_iT, ih]
    rfl
def longRow (sz : List Nat) (s : List Int) : List (List Int) := ((List.range sz.length).filter fun h => mayM sz s h).map fun (h : Nat) => s ++ [(h : Int)]
theorem longM_eq (sz : List Nat) (l : List (List Int)) : longM sz l = l.flatMap (longRow sz) := rfl
theorem longRow_len (sz : List Nat) (s : List Int) : (longRow sz s).length ≤ sz.length := by
  unfold longRow
  rw [List.length_map]
  have := List.length_filter_le (fun h => mayM sz s h) (List.range sz.length)
  rw [List.length_range] at this
  exact this
theorem lay_lists (ds : List PyData) (h : ∀ d ∈ ds, PyData.canLay0 d = true ∧ PyData.depth d ≤ 50) : PyData.canLayAll0 ds = true ∧ PyData.depthAll ds ≤ 50 := by
  induction ds with
  | nil => exact ⟨rfl, by decide⟩
  | cons a r ih =>
    obtain ⟨h1, h2⟩ := ih fun d hd => h d (List.mem_cons_of_mem _ hd)
    obtain ⟨h3, h4⟩ := h a List.mem_cons_self
    refine ⟨?_, ?_⟩
    · show (PyData.canLay0 a && PyData.canLayAll0 r) = true
      rw [h3, h1]
      rfl
    · show max (PyData.depth a) (PyData.depthAll r) ≤ 50
      omega
theorem lay_ints (l : List Int) : PyData.canLayAll0 (l.map PyData.int) = true ∧ PyData.depthAll (l.map PyData.int) ≤ 49 := by
  induction l with
  | nil => exact ⟨rfl, by decide⟩
  | cons a r ih => exact ⟨ih.1, by
      show max (PyData.depth (PyData.int a)) (PyData.depthAll (r.map PyData.int)) ≤ 49
      have : PyData.depth (PyData.int a) ≤ 1 := by simp [PyData.depth]
      have := ih.2
      omega⟩
theorem lay_iT (l : List Int) : PyData.canLay0 (iT l) = true ∧ PyData.depth (iT l) ≤ 50 := ⟨(lay_ints l).1, by
  show PyData.depthAll (l.map PyData.int) + 1 ≤ 50
  have := (lay_ints l).2
  omega⟩
theorem shaped_iT (l : List Int) : SeqAt.shaped (iT l) = true := by
  show (PyData.canLay0 (iT l) && decide (PyData.depth (iT l) ≤ 64)) = true
  rw [(lay_iT l).1, decide_eq_true (by have := (lay_iT l).2; omega)]
  rfl
theorem shaped_iTs (l : List (List Int)) : SeqAt.shaped (.list (l.map iT)) = true := by
  have q := lay_lists (l.map iT) fun d hd => by
    obtain ⟨s, _, rfl⟩ := List.mem_map.mp hd
    exact lay_iT s
  exact shaped_list ⟨q.1, by have := q.2; omega⟩
section
variable {P : Program} {w : World} {K : PySem.W.Frag} {mg : Str → Option Value} {base : Heap}
def sp_longer_ones (K : PySem.W.Frag) : Sp := spD K fun ds d => ∃ (sz : List Nat) (l : List (List Int)), ds = [nT sz, .list (l.map iT)] ∧ SzOk sz ∧ l.length ≤ 10000 ∧ (∀ s ∈ l, s.length ≤ 39) ∧ d = .list ((longM sz l).map iT)
theorem ln_longer_ones : ∀ vs H Q E, sp_longer_ones K vs H Q E → vs.length = 2 := spD_len fun ds d ⟨_, _, e, _⟩ => by rw [e]; rfl
theorem sc_longer_ones : FnScope ["sizes", "some", "found", "strip", "hue"] ["sizes", "some"] (defScope (top 53)) := ⟨rfl, rfl, rfl, by decide +kernel, rfl, by decide +kernel, by decide +kernel⟩
theorem df_longer_ones (T : Txt K mg) (F : FnT K mg "longer_ones" (top 53)) (D_may_follow : Df P w K mg base "may_follow" 1 ["sizes", "strip", "hue"] (sp_may_follow K)) : Df P w K mg base "longer_ones" 2 ["sizes", "some"] (sp_longer_ones K) := by
  have nd := sc_longer_ones.nd
  refine df_mk (k := 1) F sc_longer_ones (fun _ _ _ _ _ _ us hl => match us, hl with | [_, _], _ => rfl) (ln_longer_ones) (fun f cdv A outer s H vs Q E hr h => ?_)
  refine ⟨_, (pss_cons (ps_set (i := 2) nd rfl (by first | exact Or.inl rfl | exact Or.inr rfl) (pe_lst pa_nil))
      (pss_cons (ps_for PassesOwn.never rfl (pi_list (pv 1)) (pg_name (i := 3) nd rfl (by first | exact Or.inl rfl | exact Or.inr rfl)) (pss_one (ps_expr (pe_bm PySem.F.plainAttrs_list PySem.F.slot_list_extend PySem.F.type_list_extend mt_extend (pv 2) (pa_cons (pe_lc (own := [("hue", 4)]) (g := gName 4) rfl nd (pi_range1 rfl T.b_range (pa_cons (pe_callB (r := rLn K) call_len rfl T.b_len (by decide +kernel) (pa_cons (pv 0) pa_nil)) pa_nil)) (blkOk_by (N := ["sizes", "some", "found", "strip", "hue"]) (sc := defScope (top 53)) (by decide +kernel)) (fun _ _ _ _ _ => (pg_name (i := 4) nd rfl (by first | exact Or.inl rfl | exact Or.inr rfl))) (fun _ _ _ _ _ => (pts_one (pt_val (pe_d D_may_follow (hr.mono (by decide)) rfl (pa_cons (pv 0) (pa_cons (pv 3) (pa_cons (pv 4) pa_nil))))))) (fun _ _ _ _ _ => (pe_op (r := rCatA K) op_catA (pv 3) (pe_tup (pa_cons (pv 4) pa_nil))))) pa_nil)))))
      (pss_one (ps_ret (pv 2))))), ?_⟩
  obtain ⟨ds, d, hv, ⟨sz, l, rfl, ok, hl, hs, rfl⟩, k⟩ := h
  obtain ⟨v, v2, rfl, h1, h2⟩ := dpa2 hv
  have l2 := ok.hi
  refine r_asgN (K := K) (en_lst eda_nil) fun p H1 hp e1 hlp => ?_
  have a0 := acc_begin hp e1 hlp
  refine r_forLv (K := K) h2 rfl (fun i σ' H' => ∃ v3 v4, σ' = [some v, some v2, some (.ref p), v3, v4] ∧ Acc K H p (((l.take i).flatMap (longRow sz)).map iT) H') ⟨none, none, rfl, a0⟩ (fun i σ' H' ⟨_, _, _, a⟩ => a.2.1) ?_ ?_
  · rintro i e x σ' H' hei dx ⟨v3, v4, rfl, a⟩
    rw [List.getElem?_map] at hei
    obtain ⟨ss, hss, rfl⟩ := Option.map_eq_some_iff.mp hei
    have hsl := hs ss (List.mem_of_getElem? hss)
    have xv : Dp K H' v (nT sz) := dpx a.2.1 h1
    have xx : Dp K H' x (iT ss) := dpx a.2.1 dx
    refine acc_ext (i := 2) (es := (longRow sz ss).map iT) a rfl ?_ (flats_iTs _) ?_ fun H3 a3 => ⟨_, _, rfl, ?_⟩
    · unfold longRow
      rw [List.map_map]
      refine (en_lcRf (lo := 0) (n := ((sz.length : Int)).toNat) _ (ei_r1 (K := K) (eda_cons (ed_lenN (ed_var xv)) eda_nil) (by omega)) (fun h => mayM sz ss h) (fun (h : Nat) => iT (ss ++ [(h : Int)])) (by omega) (fun _ => rfl) (fun hh hi H2 e2 => ?_) (fun hh hi _ H2 e2 => ?_) (fun _ _ _ => flat_iT _)).eq ?_
      · exact et_B (en_call (eda_cons (ed_var (dpx e2 xv)) (eda_cons (ed_var (dpx e2 xx)) (eda_cons ((ed_var (.int _)).eq (by rw [Int.zero_add])) eda_nil))) ⟨sz, ss, hh, rfl, ok, by omega, by omega, rfl⟩).toD
      · have e : iT (ss ++ [(hh : Int)]) = .tuple (ss.map PyData.int ++ [.int (hh : Int)]) := by
          unfold iT
          rw [List.map_append]
          rfl
        rw [e]
        exact ed_op (ed_var (dpx e2 xx)) (en_tup (eda_cons ((ed_var (.int (0 + (hh : Int)))).eq (by rw [Int.zero_add])) eda_nil)) (rv_catT (by simp; omega))
      · rw [Int.toNat_natCast]
        rfl
    · rw [List.length_map, List.length_map]
      have q1 := flatMap_le (longRow sz) 4 (l.take i) fun a _ => Nat.le_trans (longRow_len sz a) l2
      have q2 := longRow_len sz ss
      rw [List.length_take] at q1
      omega
    · rw [take_snoc hss, flatMap_snoc, List.map_append]
      exact a3
  · rintro σ' H' ⟨v3, v4, rfl, a⟩
    rw [List.length_map, List.take_length] at a
    exact ⟨_, rfl, k _ _ a.2.1 (acc_new a)⟩
end
end EH

set_option Elab.async false
set_option linter.all false
set_option maxRecDepth 100000
set_option maxHeartbeats 4000000
namespace EH
open PySem PySem.Spec PyProof.Rows L2 Evl
structure FarOk (sz : List Nat) (n : Nat) : Prop where
  pos : 1 ≤ n
  hi : n ≤ 40
  done : layM sz n = []
  go : ∀ i, i < n → layM sz i ≠ [] ∧ (layM sz i).length ≤ 10000
theorem layM_len (sz : List Nat) : ∀ i, ∀ s ∈ layM sz i, s.length = i
  | 0, s, h => by
    have : s = [] := by simpa [layM] using h
    rw [this]
    rfl
  | i + 1, s, h => by
    have h' : s ∈ (layM sz i).flatMap (longRow sz) := h
    obtain ⟨t, ht, hs⟩ := List.mem_flatMap.mp h'
    unfold longRow at hs
    obtain ⟨x, _, rfl⟩ := List.mem_map.mp hs
    rw [List.length_append, layM_len sz i t ht]
    rfl
theorem layGo_ok (sz : List Nat) : ∀ (n i : Nat), layGo sz n (layM sz i) = true → layM sz (i + n) = [] ∧ ∀ j, i ≤ j → j < i + n → layM sz j ≠ [] ∧ (layM sz j).length ≤ 10000
  | 0, i, h => ⟨by simpa [layGo] using h, fun j h1 h2 => by omega⟩
  | n + 1, i, h => by
    have h' : (!(layM sz i).isEmpty && decide ((layM sz i).length ≤ 10000) && layGo sz n (layM sz (i + 1))) = true := h
    simp only [Bool.and_eq_true, decide_eq_true_eq, Bool.not_eq_true'] at h'
    obtain ⟨h1, h2⟩ := layGo_ok sz n (i + 1) h'.2
    refine ⟨by rw [show i + (n + 1) = i + 1 + n by omega]; exact h1, fun j h3 h4 => ?_⟩
    by_cases hj : j = i
    · subst hj
      exact ⟨fun z => by rw [z] at h'; simp at h', h'.1.2⟩
    · exact h2 j (by omega) (by omega)
theorem farOk {sz : List Nat} {n : Nat} (h : layGo sz n [[]] = true) (h1 : 1 ≤ n) (h2 : n ≤ 40) : FarOk sz n := by
  obtain ⟨a, b⟩ := layGo_ok sz n 0 h
  exact ⟨h1, h2, by simpa using a, fun i hi => b i (Nat.zero_le _) (by omega)⟩
section
variable {P : Program} {w : World} {K : PySem.W.Frag} {mg : Str → Option Value} {base : Heap}
def sp_layers (K : PySem.W.Frag) : Sp := fun vs H Q _ => ∃ (sz : List Nat) (n : Nat), DpAll K H vs [nT sz] ∧ SzOk sz ∧ FarOk sz n ∧ ∀ p xs H', Ex H H' → H' p = some (.lst xs) → xs.length = n → Q (.ref p) H'
theorem ln_layers : ∀ vs H Q E, sp_layers K vs H Q E → vs.length = 1 := fun vs H Q E ⟨_, _, h, _⟩ => dpa_len h
theorem sc_layers : FnScope ["sizes", "found", "longer"] ["sizes"] (defScope (top 54)) := ⟨rfl, rfl, rfl, by decide +kernel, rfl, by decide +kernel, by decide +kernel⟩
theorem df_layers (T : Txt K mg) (F : FnT K mg "layers" (top 54)) (D_longer_ones : Df P w K mg base "longer_ones" 2 ["sizes", "some"] (sp_longer_ones K)) : Df P w K mg base "layers" 3 ["sizes"] (sp_layers K) := by
  have nd := sc_layers.nd
  refine df_mk (k := 2) F sc_layers (fun _ _ _ _ _ _ us hl => match us, hl with | [_], _ => rfl) (ln_layers) (fun f cdv A outer s H vs Q E hr h => ?_)
  refine ⟨_, (pss_cons (ps_set (i := 1) nd rfl (by first | exact Or.inl rfl | exact Or.inr rfl) (pe_lst (pa_cons (pe_lst (pa_cons (pe_tup pa_nil) pa_nil)) pa_nil)))
      (pss_cons (ps_set (i := 2) nd rfl (by first | exact Or.inl rfl | exact Or.inr rfl) (pe_d D_longer_ones (hr.mono (by decide)) rfl (pa_cons (pv 0) (pa_cons (pe_ix (r := rIxL K) ix_list (pv 1) pe_int (fun _ _ => rfl)) pa_nil))))
      (pss_cons (ps_while PassesOwn.never (pt_cmpR (r := rNeD K) (op_neD hr.units) (pv 2) (pe_lst pa_nil) (nomark _)) (pss_cons (ps_expr (pe_bm PySem.F.plainAttrs_list PySem.F.slot_list_append PySem.F.type_list_append mt_append (pv 1) (pa_cons (pv 2) pa_nil)))
      (pss_one (ps_set (i := 2) nd rfl (by first | exact Or.inl rfl | exact Or.inr rfl) (pe_d D_longer_ones (hr.mono (by decide)) rfl (pa_cons (pv 0) (pa_cons (pv 2) pa_nil)))))))
      (pss_one (ps_ret (pv 1)))))), ?_⟩
  obtain ⟨sz, n, hv, ok, far, k⟩ := h
  obtain ⟨v, rfl, h1⟩ := dpa1 hv
  have len39 : ∀ i, i < n → ∀ s ∈ layM sz i, s.length ≤ 39 := fun i hi s hs => by
    have := layM_len sz i s hs
    have := far.hi
    omega
  refine r_asgN (K := K) (ds := [.list [.tuple []]]) (en_lst (eda_cons (en_lst (eda_cons (en_tup eda_nil) eda_nil)).toD eda_nil)) fun p H1 hp e1 hl => ?_
  obtain ⟨ys, hy, hya⟩ := hl
  have dpf : Dp K H1 (.ref p) (.list [.list [.tuple []]]) := .lst hy hya
  refine r_asgN (K := K) (ds := (layM sz 1).map iT) (en_call (eda_cons (ed_var (dpx e1 h1)) (eda_cons (ed_op (ed_var dpf) ed_int (rv_ixL (d := .list ((layM sz 0).map iT)) (atI_nat (j := 0) rfl))) eda_nil)) ⟨sz, layM sz 0, rfl, ok, (far.go 0 far.pos).2, len39 0 far.pos, rfl⟩) fun q H2 hq e2 hl => ?_
  obtain ⟨zs, hz, hza⟩ := hl
  refine q_while (fun m σ' H' => ∃ (i : Nat) (q : Addr) (us xs : List V), m + i = n ∧ σ' = [some v, some (.ref p), some (.ref q)] ∧ Ex H H' ∧ H' p = some (.lst us) ∧ us.length = i ∧ q ≠ p ∧ H' q = some (.lst xs) ∧ DpAll K H' xs ((layM sz i).map iT)) (n - 1) ⟨1, q, ys, zs, by have := far.pos; omega, rfl, e1.trans e2, e2 _ _ hy, dpa_len hya, (ne_of_none hy hq).symm, hz, hza⟩ ?_
  rintro m σ' H' ⟨i, q, us, xs, hm, rfl, e3, hpu, hul, hqp, hqx, hxa⟩
  refine ⟨!(layM sz i).isEmpty, et_test ((ed_op (K := K) (ed_var (.lst hqx hxa)) (en_lst eda_nil).toD (rv_neD (shaped_iTs _) (by decide +kernel))).eq (by rw [eqv_nil, show ((layM sz i).map iT).isEmpty = (layM sz i).isEmpty by cases layM sz i <;> rfl])), fun hb H4 e4 => ?_, fun hb H4 e4 => ?_⟩
  · have hne : layM sz i ≠ [] := fun z => by
      rw [z] at hb
      simp at hb
    have hi : i < n := by
      by_cases h : i < n
      · exact h
      · have : i = n := by omega
        rw [this] at hne
        exact absurd far.done hne
    refine ⟨fun σ2 H2 => ∃ (q : Addr) (us xs : List V), σ2 = [some v, some (.ref p), some (.ref q)] ∧ Ex H H2 ∧ H2 p = some (.lst us) ∧ us.length = i + 1 ∧ q ≠ p ∧ H2 q = some (.lst xs) ∧ DpAll K H2 xs ((layM sz (i + 1)).map iT), fun σ2 H2 ⟨q, us, xs, h1, h2⟩ => ⟨m - 1, by omega, i + 1, q, us, xs, by omega, h1, h2⟩, ?_⟩
    refine ⟨_, rfl, .inl ⟨rfl, us, sq_of (e4 _ _ hpu)⟩, _, rfl, p, us, .ref q, rfl, rfl, e4 _ _ hpu, sz_lt (by have := far.hi; omega), ?_⟩
    have hqx5 : upd H4 p (.lst (us ++ [.ref q])) q = some (.lst xs) := by rw [upd_ne hqp]; exact e4 _ _ hqx
    have hxa5 : DpAll K (upd H4 p (.lst (us ++ [.ref q]))) xs ((layM sz i).map iT) := dpus (e4 _ _ hpu) (flats_iTs _) (dpxs e4 hxa)
    have e5 : Ex H (upd H4 p (.lst (us ++ [.ref q]))) := Ex.mut (e3.trans e4) hp
    refine s_asgN (K := K) (en_call (eda_cons (ed_var (dpx e5 h1)) (eda_cons (ed_var (.lst hqx5 hxa5)) eda_nil)) ⟨sz, layM sz i, rfl, ok, (far.go i hi).2, len39 i hi, rfl⟩) fun q2 H6 hn e6 ⟨ws, hw, hwa⟩ => ?_
    exact ⟨q2, _, ws, rfl, e5.trans e6, e6 _ _ upd_same, by rw [List.length_append, hul]; rfl, (ne_of_none upd_same hn).symm, hw, hwa⟩
  · have hi : i = n := by
      by_cases h : i < n
      · have := (far.go i h).1
        cases hl : layM sz i with
        | nil => exact absurd hl this
        | cons a b =>
          rw [hl] at hb
          simp at hb
      · omega
    exact ⟨_, rfl, k p us _ (e3.trans e4) (e4 _ _ hpu) (by rw [hul, hi])⟩
end
end EH

set_option Elab.async false
set_option linter.all false
set_option maxRecDepth 100000
set_option maxHeartbeats 4000000
namespace EH
open PySem PySem.Spec PyProof.Rows L2 Evl
section
variable {P : Program} {w : World} {K : PySem.W.Frag} {mg : Str → Option Value} {base : Heap}
theorem natD_get {l : List Nat} {i : Nat} {e : PyData} (h : (natD l)[i]? = some e) : ∃ p, l[i]? = some p ∧ e = .int (p : Int) := by
  unfold natD at h
  rw [List.getElem?_map] at h
  obtain ⟨p, hp, rfl⟩ := Option.map_eq_some_iff.mp h
  exact ⟨p, hp, rfl⟩
theorem natD_len (l : List Nat) : (natD l).length = l.length := List.length_map ..
theorem bl_mem {d : List Int} {p : Nat} (h : p ∈ blanksM d) : p < d.length ∧ d.getD p 0 = -1 := by
  unfold blanksM at h
  obtain ⟨h1, h2⟩ := List.mem_filter.mp h
  exact ⟨List.mem_range.mp h1, of_decide_eq_true h2⟩
theorem bl_len (d : List Int) : (blanksM d).length ≤ d.length := blUp_len d d.length
def sp_ways_to_put (K : PySem.W.Frag) : Sp := spD K fun ds d => ∃ (sz : List Nat) (dr : List Int), ds = [nT sz, iT dr] ∧ SzOk sz ∧ dr.length ≤ 40 ∧ d = .int (waysM sz dr : Nat)
theorem ln_ways_to_put : ∀ vs H Q E, sp_ways_to_put K vs H Q E → vs.length = 2 := spD_len fun ds d ⟨_, _, e, _⟩ => by rw [e]; rfl
def wayUp (sz : List Nat) (l : List Nat) : Nat := l.foldl (fun f _ => f * max 2 sz.length) 1
theorem sc_ways_to_put : FnScope ["sizes", "draft", "found", "place"] ["sizes", "draft"] (defScope (top 58)) := ⟨rfl, rfl, rfl, by decide +kernel, rfl, by decide +kernel, by decide +kernel⟩
theorem df_ways_to_put (T : Txt K mg) (F : FnT K mg "ways_to_put" (top 58)) (D_blanks : Df P w K mg base "blanks" 1 ["draft"] (sp_blanks K)) : Df P w K mg base "ways_to_put" 2 ["sizes", "draft"] (sp_ways_to_put K) := by
  have nd := sc_ways_to_put.nd
  refine df_mk (k := 1) F sc_ways_to_put (fun _ _ _ _ _ _ us hl => match us, hl with | [_, _], _ => rfl) (ln_ways_to_put) (fun f cdv A outer s H vs Q E hr h => ?_)
  refine ⟨_, (pss_cons (ps_set (i := 2) nd rfl (by first | exact Or.inl rfl | exact Or.inr rfl) pe_int)
      (pss_cons (ps_for PassesOwn.never rfl (pi_list (pe_d D_blanks (hr.mono (by decide)) rfl (pa_cons (pv 1) pa_nil))) (pg_name (i := 3) nd rfl (by first | exact Or.inl rfl | exact Or.inr rfl)) (pss_one (ps_set (i := 2) nd rfl (by first | exact Or.inl rfl | exact Or.inr rfl) (pe_op op_mul (pv 2) (pe_callB (call_max2 rfl) rfl T.b_max (by decide +kernel) (pa_cons pe_int (pa_cons (pe_callB (r := rLn K) call_len rfl T.b_len (by decide +kernel) (pa_cons (pv 0) pa_nil)) pa_nil)))))))
      (pss_one (ps_ret (pv 2))))), ?_⟩
  obtain ⟨ds, d, hv, ⟨sz, dr, rfl, ok, hl, rfl⟩, k⟩ := h
  obtain ⟨v, v2, rfl, h1, h2⟩ := dpa2 hv
  have l2 := ok.hi
  refine r_asg (K := K) (d := .int 1) ed_int fun u H1 e1 d1 => ?_
  rw [dp_int d1]
  refine r_forLx (K := K) (es := natD (blanksM dr)) (en_call (eda_cons (ed_var (dpx e1 h2)) eda_nil) ⟨dr, rfl, hl, rfl⟩).toD (fun i σ' => ∃ v3, σ' = [some v, some v2, some (.int (wayUp sz ((blanksM dr).take i) : Nat)), v3]) ⟨none, rfl⟩ ?_ ?_
  · rintro i e x σ' H' e2 hei dx ⟨v3, rfl⟩
    obtain ⟨p, hp, rfl⟩ := natD_get hei
    have hz : ((wayUp sz ((blanksM dr).take i) : Nat) : Int) * ((max 2 sz.length : Nat) : Int) = ((wayUp sz ((blanksM dr).take (i + 1)) : Nat) : Int) := by
      rw [take_snoc hp]
      unfold wayUp
      rw [foldl_snoc, Int.natCast_mul]
    refine s_asgD (K := K) (ed_mulR (ed_var (.int _)) ((en_cb (eda_cons ed_int (eda_cons (ed_lenN (ed_var (dpx (e1.trans e2) h1))) eda_nil)) rc_max2).toD.eq (d := .int (if (sz.length : Int) > 2 then (sz.length : Int) else 2)) (c := .int ((max 2 sz.length : Nat) : Int)) ?_) ⟨by omega, by omega⟩ hz) fun y H3 e3 dy => ?_
    · by_cases hc : (sz.length : Int) > 2
      · rw [if_pos hc, Nat.max_eq_right (by omega)]
      · rw [if_neg hc, Nat.max_eq_left (by omega)]
        rfl
    · rw [dp_int dy]
      exact ⟨e3, _, rfl⟩
  · rintro σ' H' e2 ⟨v3, rfl⟩
    rw [natD_len, List.take_length]
    exact ⟨_, rfl, k _ _ (e1.trans e2) (.int _)⟩
/-! ### fillings_of -/
def fillUp (sz : List Nat) (dr : List Int) (l : List Nat) : List (List Int) := l.foldl (fun f p => fillStep sz p f) [dr]
def fillRow (sz : List Nat) (p : Nat) (s : List Int) : List (List Int) := (openM sz s p).map fun (h : Nat) => s.set p (h : Int)
theorem open_len (sz : List Nat) (d : List Int) (p : Nat) : (openM sz d p).length ≤ sz.length := by
  have := List.length_filter_le (fun h => (barsM sz d p h).isEmpty) (List.range sz.length)
  rw [List.length_range] at this
  exact this
theorem fillRow_len (sz : List Nat) (p : Nat) (s : List Int) : (fillRow sz p s).length ≤ max 2 sz.length := by
  unfold fillRow
  rw [List.length_map]
  exact Nat.le_trans (open_len sz s p) (Nat.le_max_right _ _)
theorem fillUp_len (sz : List Nat) (dr : List Int) (l : List Nat) : (fillUp sz dr l).length ≤ wayUp sz l := by
  have key : ∀ (l : List Nat) (f : List (List Int)) (c : Nat), f.length ≤ c → (l.foldl (fun f p => fillStep sz p f) f).length ≤ l.foldl (fun f _ => f * max 2 sz.length) c := by
    intro l
    induction l with
    | nil => exact fun f c h => h
    | cons p r ih =>
      intro f c h
      refine ih _ _ ?_
      have q := flatMap_le (fillRow sz p) (max 2 sz.length) f fun a _ => fillRow_len sz p a
      exact Nat.le_trans q (Nat.mul_le_mul_right _ h)
  exact key l [dr] 1 (Nat.le_refl _)
theorem way_mono (sz : List Nat) (l : List Nat) (i : Nat) : wayUp sz (l.take i) ≤ wayUp sz l := by
  have key : ∀ (l : List Nat) (c : Nat), c ≤ l.foldl (fun f _ => f * max 2 sz.length) c := by
    intro l
    induction l with
    | nil => exact fun c => Nat.le_refl _
    | cons p r ih => exact fun c => Nat.le_trans (Nat.le_mul_of_pos_right c (by omega)) (ih _)
  have e : l = l.take i ++ l.drop i := (List.take_append_drop i l).symm
  unfold wayUp
  rw [show l.foldl (fun f _ => f * max 2 sz.length) 1 = (l.take i ++ l.drop i).foldl (fun f _ => f * max 2 sz.length) 1 by rw [← e], List.foldl_append]
  exact key _ _
theorem fill_lens (sz : List Nat) (dr : List Int) (l : List Nat) : ∀ s ∈ fillUp sz dr l, s.length = dr.length := by
  have key : ∀ (l : List Nat) (f : List (List Int)), (∀ s ∈ f, s.length = dr.length) → ∀ s ∈ l.foldl (fun f p => fillStep sz p f) f, s.length = dr.length := by
    intro l
    induction l with
    | nil => exact fun f h => h
    | cons p r ih =>
      intro f h
      refine ih _ fun s hs => ?_
      obtain ⟨t, ht, hs⟩ := List.mem_flatMap.mp hs
      obtain ⟨x, _, rfl⟩ := List.mem_map.mp hs
      rw [List.length_set]
      exact h t ht
  exact key l [dr] fun s hs => by rw [List.mem_singleton.mp hs]
def sp_fillings_of (K : PySem.W.Frag) : Sp := spD K fun ds d => ∃ (sz : List Nat) (dr : List Int), ds = [nT sz, iT dr] ∧ SzOk sz ∧ dr.length ≤ 40 ∧ waysM sz dr ≤ 512 ∧ d = .list ((fillM sz dr).map iT)
theorem ln_fillings_of : ∀ vs H Q E, sp_fillings_of K vs H Q E → vs.length = 2 := spD_len fun ds d ⟨_, _, e, _⟩ => by rw [e]; rfl
theorem sc_fillings_of : FnScope ["sizes", "draft", "found", "place", "longer", "some", "hue"] ["sizes", "draft"] (defScope (top 60)) := ⟨rfl, rfl, rfl, by decide +kernel, rfl, by decide +kernel, by decide +kernel⟩
theorem df_fillings_of (T : Txt K mg) (F : FnT K mg "fillings_of" (top 60)) (D_wrong_rows : Df P w K mg base "wrong_rows" 3 ["sizes", "strip"] (sp_wrong_rows K)) (D_blanks : Df P w K mg base "blanks" 1 ["draft"] (sp_blanks K)) (D_open_at : Df P w K mg base "open_at" 3 ["sizes", "draft", "place"] (sp_open_at K)) (D_with_hue : Df P w K mg base "with_hue" 1 ["draft", "place", "hue"] (sp_with_hue K)) : Df P w K mg base "fillings_of" 4 ["sizes", "draft"] (sp_fillings_of K) := by
  have nd := sc_fillings_of.nd
  refine df_mk (k := 3) F sc_fillings_of (fun _ _ _ _ _ _ us hl => match us, hl with | [_, _], _ => rfl) (ln_fillings_of) (fun f cdv A outer s H vs Q E hr h => ?_)
  refine ⟨_, (pss_cons (ps_if (pt_cmpR (r := rNeD K) (op_neD hr.units) (pe_d D_wrong_rows (hr.mono (by decide)) rfl (pa_cons (pv 0) (pa_cons (pv 1) pa_nil))) (pe_lst pa_nil) (nomark _)) (pss_one (ps_ret (pe_lst pa_nil))) pss_nil)
      (pss_cons (ps_set (i := 2) nd rfl (by first | exact Or.inl rfl | exact Or.inr rfl) (pe_lst (pa_cons (pv 1) pa_nil)))
      (pss_cons (ps_for PassesOwn.never rfl (pi_list (pe_d D_blanks (hr.mono (by decide)) rfl (pa_cons (pv 1) pa_nil))) (pg_name (i := 3) nd rfl (by first | exact Or.inl rfl | exact Or.inr rfl)) (pss_cons (ps_set (i := 4) nd rfl (by first | exact Or.inl rfl | exact Or.inr rfl) (pe_lst pa_nil))
      (pss_cons (ps_for PassesOwn.never rfl (pi_list (pv 2)) (pg_name (i := 5) nd rfl (by first | exact Or.inl rfl | exact Or.inr rfl)) (pss_one (ps_expr (pe_bm PySem.F.plainAttrs_list PySem.F.slot_list_extend PySem.F.type_list_extend mt_extend (pv 4) (pa_cons (pe_lc (own := [("hue", 6)]) (g := gName 6) (tt := tYes) rfl nd (pi_tup (pe_d D_open_at (hr.mono (by decide)) rfl (pa_cons (pv 0) (pa_cons (pv 5) (pa_cons (pv 3) pa_nil))))) (blkOk_by (N := ["sizes", "draft", "found", "place", "longer", "some", "hue"]) (sc := defScope (top 60)) (by decide +kernel)) (fun _ _ _ _ _ => (pg_name (i := 6) nd rfl (by first | exact Or.inl rfl | exact Or.inr rfl))) (fun _ _ _ _ _ => pts_nil) (fun _ _ _ _ _ => (pe_d D_with_hue (hr.mono (by decide)) rfl (pa_cons (pv 5) (pa_cons (pv 3) (pa_cons (pv 6) pa_nil)))))) pa_nil)))))
      (pss_one (ps_set (i := 2) nd rfl (by first | exact Or.inl rfl | exact Or.inr rfl) (pv 4))))))
      (pss_one (ps_ret (pv 2)))))), ?_⟩
  obtain ⟨ds, d, hv, ⟨sz, dr, rfl, ok, hl, hways, rfl⟩, k⟩ := h
  obtain ⟨v, v2, rfl, h1, h2⟩ := dpa2 hv
  have l2 := ok.hi
  refine r_if (b := wrong sz dr) (et_test (ed_wrNe (eda_cons (ed_var h1) (eda_cons (ed_var h2) eda_nil)) ok hl (en_lst eda_nil).toD)) (fun hb H1 e1 => ?_) (fun hb H1 e1 => ?_)
  · have e : fillM sz dr = [] := if_pos hb
    rw [e] at k
    exact r_ret (K := K) (en_lst eda_nil) (kk e1 k)
  have efm : fillM sz dr = fillUp sz dr (blanksM dr) := if_neg (by rw [hb]; decide)
  refine r_asgN (K := K) (ds := [dr].map iT) (en_lst (eda_cons (ed_var (dpx e1 h2)) eda_nil)) fun q H2 hq e2 hlq => ?_
  have a0 : Acc K H1 q ([dr].map iT) H2 := acc_begin hq e2 hlq (flats_iTs _)
  refine r_forLy (K := K) (es := natD (blanksM dr)) (en_call (eda_cons (ed_var (dpx (e1.trans e2) h2)) eda_nil) ⟨dr, rfl, hl, rfl⟩).toD (fun i σ' H' => ∃ q v3 v4 v5 v6, σ' = [some v, some v2, some (.ref q), v3, v4, v5, v6] ∧ Acc K H1 q ((fillUp sz dr ((blanksM dr).take i)).map iT) H') (fun H3 e3 => ⟨q, none, none, none, none, rfl, acc_mono a0 e3⟩) ?_ ?_
  · rintro i e x σ' H' e3 hei dx ⟨q, v3, v4, v5, v6, rfl, a⟩
    obtain ⟨pl, hpl, rfl⟩ := natD_get hei
    rw [dp_int dx]
    have hplt := (bl_mem (List.mem_of_getElem? hpl)).1
    refine r_asgN (K := K) (en_lst eda_nil) fun p H4 hp e4 hlp => ?_
    have b0 := acc_begin hp e4 hlp
    have hlens := fill_lens sz dr ((blanksM dr).take i)
    have hbnd : (fillUp sz dr ((blanksM dr).take i)).length ≤ 512 := Nat.le_trans (fillUp_len sz dr _) (Nat.le_trans (way_mono sz (blanksM dr) i) hways)
    have estep : fillUp sz dr ((blanksM dr).take (i + 1)) = (fillUp sz dr ((blanksM dr).take i)).flatMap (fillRow sz pl) := by
      rw [take_snoc hpl]
      unfold fillUp
      rw [foldl_snoc]
      rfl
    rw [estep]
    generalize fillUp sz dr ((blanksM dr).take i) = F at a hlens hbnd
    have dq : Dp K H' (.ref q) (.list (F.map iT)) := (acc_new a).dp
    refine r_forLv (K := K) dq rfl (fun m σ' H'' => ∃ v5 v6, σ' = [some v, some v2, some (.ref q), some (.int (pl : Int)), some (.ref p), v5, v6] ∧ Acc K H' p (((F.take m).flatMap (fillRow sz pl)).map iT) H'') ⟨v5, v6, rfl, b0⟩ (fun m σ' H'' ⟨_, _, _, z⟩ => z.2.1) ?_ ?_
    · rintro m e x2 σ' H'' hem dx2 ⟨v5, v6, rfl, b⟩
      rw [List.getElem?_map] at hem
      obtain ⟨ss, hss, rfl⟩ := Option.map_eq_some_iff.mp hem
      have hsl := hlens ss (List.mem_of_getElem? hss)
      have eH : Ex H1 H'' := a.2.1.trans b.2.1
      have xv : Dp K H'' v (nT sz) := dpx (e1.trans eH) h1
      have xs : Dp K H'' x2 (iT ss) := dpx b.2.1 dx2
      refine acc_ext (i := 4) (es := (fillRow sz pl ss).map iT) b rfl ?_ (flats_iTs _) ?_ fun H5 b5 => ⟨_, _, rfl, ?_⟩
      · unfold fillRow
        rw [List.map_map]
        exact en_lcNa _ (en_call (eda_cons (ed_var xv) (eda_cons (ed_var xs) (eda_cons (ed_var (.int _)) eda_nil))) ⟨sz, ss, pl, rfl, ok, by omega, by omega, rfl⟩).toD (by have := open_len sz ss pl; omega) (fun _ => rfl) (fun hh hi H6 e6 => (en_call (eda_cons (ed_var (dpx e6 xs)) (eda_cons (ed_var (.int _)) (eda_cons (ed_var (.int _)) eda_nil))) ⟨ss, pl, (hh : Int), rfl, by omega, by omega, rfl⟩).toD) (fun hh _ => flat_iT _)
      · rw [List.length_map, List.length_map]
        have q1 := flatMap_le (fillRow sz pl) 4 (F.take m) fun a _ => Nat.le_trans (fillRow_len sz pl a) (by omega)
        have q2 := fillRow_len sz pl ss
        rw [List.length_take] at q1
        omega
      · rw [take_snoc hss, flatMap_snoc, List.map_append]
        exact b5
    · rintro σ' H'' ⟨v5, v6, rfl, b⟩
      rw [List.length_map, List.take_length] at b
      exact ⟨_, rfl, b.2.1, p, _, _, _, _, rfl, fresh_back a.2.1 hp, a.2.1.trans b.2.1, b.2.2⟩
  · rintro σ' H' e3 ⟨q, v3, v4, v5, v6, rfl, a⟩
    rw [natD_len, List.take_length, ← efm] at a
    exact ⟨_, rfl, k _ _ (e1.trans a.2.1) ((acc_new a).back e1)⟩
end
end EH

set_option Elab.async false
set_option linter.all false
set_option maxRecDepth 100000
set_option maxHeartbeats 4000000
namespace EH
open PySem PySem.Spec PyProof.Rows L2 Evl
theorem r_retC {K : PySem.W.Frag} {σ : L2.St} {H : Hp} {sp : Sp} {dvs : List V} {E : XK} {ta : TA} {ds : List PyData} {D : Ends} (h : EvDA K ta σ H ds) (k : ∀ vs H1, Ex H H1 → DpAll K H1 vs ds → sp (vs ++ dvs) H1 D.rt E) : tRet (tCall sp dvs E ta) D σ H := h H (Ex.refl H) _ k
def isNo : PyData → Bool
  | .none => true
  | _ => false
theorem dp_isNo {K : PySem.W.Frag} {H : Hp} {v : V} {d : PyData} (h : Dp K H v d) : decide (v = .non) = isNo d := by cases h <;> rfl
theorem rv_notN {K : PySem.W.Frag} {d : PyData} : RvD K (fun x y H Q => y = .non ∧ Q (.bl (!decide (x = .non))) H) d .none (.bool (!isNo d)) := fun H x y dx dy Q q => ⟨dp_non dy, q _ H (Ex.refl H) (by rw [dp_isNo dx]; exact .bl _)⟩
theorem rv_isN {K : PySem.W.Frag} {d : PyData} : RvD K (fun x y H Q => y = .non ∧ Q (.bl (decide (x = .non))) H) d .none (.bool (isNo d)) := fun H x y dx dy Q q => ⟨dp_non dy, q _ H (Ex.refl H) (by rw [dp_isNo dx]; exact .bl _)⟩
theorem eqv_unit (ds : List PyData) : PyData.eqv (.tuple ds) (.tuple []) = ds.isEmpty := by cases ds <;> simp [PyData.eqv, PyData.eqvAll]
theorem shaped_nT (l : List Nat) : SeqAt.shaped (nT l) = true := shaped_iT _
def narD : Option (Nat × List Nat) → PyData
  | none => .none
  | some (p, l) => .tuple [.int (p : Int), nT l]
theorem flat_nar (o : Option (Nat × List Nat)) : flat (narD o) = true := by
  rcases o with _ | ⟨p, l⟩
  · rfl
  · show (true && (flat (nT l) && true)) = true
    rw [flat_nT]
    rfl
theorem nar_mem {sz : List Nat} {d : List Int} {p : Nat} {l : List Nat} : ∀ {bs : List Nat}, narrow sz d bs = some (p, l) → p ∈ bs ∧ l = openM sz d p
  | b :: r, h => by
    unfold narrow at h
    by_cases hc : (openM sz d b).length < 2
    · rw [if_pos hc] at h
      injection h with h
      injection h with h1 h2
      subst h1
      exact ⟨List.mem_cons_self, h2.symm⟩
    · rw [if_neg hc] at h
      obtain ⟨h1, h2⟩ := nar_mem h
      exact ⟨List.mem_cons_of_mem _ h1, h2⟩
theorem open_mem {sz : List Nat} {d : List Int} {p h : Nat} (hm : h ∈ openM sz d p) : h < sz.length := List.mem_range.mp (List.mem_filter.mp hm).1
section
variable {P : Program} {w : World} {K : PySem.W.Frag} {mg : Str → Option Value} {base : Heap}
def sp_first_narrow (K : PySem.W.Frag) : Sp := spD K fun ds d => ∃ (sz : List Nat) (dr : List Int), ds = [nT sz, iT dr] ∧ SzOk sz ∧ dr.length ≤ 40 ∧ d = narD (narrowM sz dr)
theorem ln_first_narrow : ∀ vs H Q E, sp_first_narrow K vs H Q E → vs.length = 2 := spD_len fun ds d ⟨_, _, e, _⟩ => by rw [e]; rfl
theorem sc_first_narrow : FnScope ["sizes", "draft", "place", "hues"] ["sizes", "draft"] (defScope (top 65)) := ⟨rfl, rfl, rfl, by decide +kernel, rfl, by decide +kernel, by decide +kernel⟩
theorem df_first_narrow (T : Txt K mg) (F : FnT K mg "first_narrow" (top 65)) (D_blanks : Df P w K mg base "blanks" 1 ["draft"] (sp_blanks K)) (D_open_at : Df P w K mg base "open_at" 3 ["sizes", "draft", "place"] (sp_open_at K)) : Df P w K mg base "first_narrow" 4 ["sizes", "draft"] (sp_first_narrow K) := by
  have nd := sc_first_narrow.nd
  refine df_mk (k := 3) F sc_first_narrow (fun _ _ _ _ _ _ us hl => match us, hl with | [_, _], _ => rfl) (ln_first_narrow) (fun f cdv A outer s H vs Q E hr h => ?_)
  refine ⟨_, (pss_cons (ps_for PassesOwn.never rfl (pi_list (pe_d D_blanks (hr.mono (by decide)) rfl (pa_cons (pv 1) pa_nil))) (pg_name (i := 2) nd rfl (by first | exact Or.inl rfl | exact Or.inr rfl)) (pss_cons (ps_set (i := 3) nd rfl (by first | exact Or.inl rfl | exact Or.inr rfl) (pe_d D_open_at (hr.mono (by decide)) rfl (pa_cons (pv 0) (pa_cons (pv 1) (pa_cons (pv 2) pa_nil)))))
      (pss_one (ps_if (pt_cmpR op_lt (pe_callB (r := rLn K) call_len rfl T.b_len (by decide +kernel) (pa_cons (pv 3) pa_nil)) pe_int (nomark _)) (pss_one (ps_ret (pe_tup (pa_cons (pv 2) (pa_cons (pv 3) pa_nil))))) pss_nil))))
      (pss_one (ps_ret pe_non))), ?_⟩
  obtain ⟨ds, d, hv, ⟨sz, dr, rfl, ok, hl, rfl⟩, k⟩ := h
  obtain ⟨v, v2, rfl, h1, h2⟩ := dpa2 hv
  refine r_forLx (K := K) (es := natD (blanksM dr)) (en_call (eda_cons (ed_var h2) eda_nil) ⟨dr, rfl, hl, rfl⟩).toD (fun i σ' => ∃ v3 v4, σ' = [some v, some v2, v3, v4] ∧ narrow sz dr ((blanksM dr).drop i) = narrowM sz dr) ⟨none, none, rfl, rfl⟩ ?_ ?_
  · rintro i e x σ' H' e2 hei dx ⟨v3, v4, rfl, hn⟩
    obtain ⟨pl, hpl, rfl⟩ := natD_get hei
    rw [dp_int dx]
    have hplt := (bl_mem (List.mem_of_getElem? hpl)).1
    obtain ⟨hi, hpi⟩ := List.getElem?_eq_some_iff.mp hpl
    have hd : (blanksM dr).drop i = pl :: (blanksM dr).drop (i + 1) := by rw [List.drop_eq_getElem_cons hi, hpi]
    rw [hd] at hn
    refine r_asg (K := K) (d := nT (openM sz dr pl)) (en_call (eda_cons (ed_var (dpx e2 h1)) (eda_cons (ed_var (dpx e2 h2)) (eda_cons (ed_var (.int _)) eda_nil))) ⟨sz, dr, pl, rfl, ok, hl, hplt, rfl⟩).toD fun u H3 e3 du => ?_
    refine s_when (b := decide (((openM sz dr pl).length : Int) < 2)) (et_test (K := K) (ed_op (ed_lenN (ed_var du)) ed_int rv_lt)) (fun hc H4 e4 => ?_) (fun hc H4 e4 => ⟨e3.trans e4, _, _, rfl, ?_⟩)
    · have hc : (openM sz dr pl).length < 2 := by have := of_decide_eq_true hc; omega
      have e : narrowM sz dr = some (pl, openM sz dr pl) := by
        rw [← hn]
        unfold narrow
        rw [if_pos hc]
      rw [e] at k
      exact r_retD (K := K) (en_tup (eda_cons (ed_var (.int _)) (eda_cons (ed_var (dpx e4 du)) eda_nil))) (kk ((e2.trans e3).trans e4) k) (flat_nar (some (pl, openM sz dr pl)))
    · have hc : ¬ (openM sz dr pl).length < 2 := by have := of_decide_eq_false hc; omega
      rw [← hn]
      conv => rhs; unfold narrow
      rw [if_neg hc]
  · rintro σ' H' e2 ⟨v3, v4, rfl, hn⟩
    rw [natD_len, List.drop_length] at hn
    rw [← hn] at k
    exact r_retD (K := K) ed_non (kk e2 k)
def stuckD : Option Nat → PyData
  | none => .none
  | some p => .int (p : Int)
def runD (sz : List Nat) (dr : List Int) (st : List PyData) : PyData := .tuple [iT (runM sz dr).1, .list st, stuckD (runM sz dr).2]
def sp_run_of (K : PySem.W.Frag) : Sp := fun vs H Q _ => ∃ (sz : List Nat) (dr : List Int), DpAll K H vs [nT sz, iT dr] ∧ SzOk sz ∧ dr.length ≤ 40 ∧ ∀ st v H', Ex H H' → Dp K H' v (runD sz dr st) → Q v H'
theorem ln_run_of : ∀ vs H Q E, sp_run_of K vs H Q E → vs.length = 2 := fun vs H Q E ⟨_, _, h, _⟩ => dpa_len h
theorem bl_set {d : List Int} {p : Nat} {h : Nat} (hp : p ∈ blanksM d) : (blanksM (d.set p (h : Int))).length + 1 ≤ (blanksM d).length := by
  have hm := List.mem_filter.mp hp
  have e : blanksM (d.set p (h : Int)) = (blanksM d).filter fun q => decide (q ≠ p) := by
    unfold blanksM
    rw [List.filter_filter, List.length_set]
    refine List.filter_congr fun q hq => ?_
    have hql := List.mem_range.mp hq
    by_cases hqp : q = p
    · subst hqp
      rw [List.getD_eq_getElem?_getD, List.getElem?_set_self hql]
      simp
    · rw [List.getD_eq_getElem?_getD, List.getElem?_set_ne (Ne.symm hqp), ← List.getD_eq_getElem?_getD]
      simp [hqp]
  rw [e]
  have : ∀ l : List Nat, p ∈ l → (l.filter fun q => decide (q ≠ p)).length + 1 ≤ l.length := by
    intro l
    induction l with
    | nil => intro z; cases z
    | cons a r ih =>
      intro z
      by_cases ha : a = p
      · subst ha
        have := List.length_filter_le (fun q => decide (q ≠ a)) r
        simp only [ne_eq] at this
        simp only [List.filter_cons, ne_eq, not_true_eq_false, decide_false, Bool.false_eq_true, if_false, List.length_cons]
        omega
      · have := ih (by rcases List.mem_cons.mp z with z | z; exact absurd z.symm ha; exact z)
        simp only [List.filter_cons, ne_eq, ha, not_false_eq_true, decide_true, if_true, List.length_cons]
        simp only [ne_eq] at this
        omega
  exact this _ hp
theorem sc_run_of : FnScope ["sizes", "draft", "steps", "found"] ["sizes", "draft"] (defScope (top 66)) := ⟨rfl, rfl, rfl, by decide +kernel, rfl, by decide +kernel, by decide +kernel⟩
theorem df_run_of (T : Txt K mg) (F : FnT K mg "run_of" (top 66)) (D_first_narrow : Df P w K mg base "first_narrow" 4 ["sizes", "draft"] (sp_first_narrow K)) (D_with_hue : Df P w K mg base "with_hue" 1 ["draft", "place", "hue"] (sp_with_hue K)) : Df P w K mg base "run_of" 5 ["sizes", "draft"] (sp_run_of K) := by
  have nd := sc_run_of.nd
  refine df_mk (k := 4) F sc_run_of (fun _ _ _ _ _ _ us hl => match us, hl with | [_, _], _ => rfl) (ln_run_of) (fun f cdv A outer s H vs Q E hr h => ?_)
  refine ⟨_, (pss_cons (ps_set (i := 2) nd rfl (by first | exact Or.inl rfl | exact Or.inr rfl) (pe_lst pa_nil))
      (pss_cons (ps_set (i := 3) nd rfl (by first | exact Or.inl rfl | exact Or.inr rfl) (pe_d D_first_narrow (hr.mono (by decide)) rfl (pa_cons (pv 0) (pa_cons (pv 1) pa_nil))))
      (pss_cons (ps_while PassesOwn.never (PW.pt (pw_and (pt_cmpR op_notN (pv 3) pe_non (nomark _)) (pw_and1 (pt_cmpR (r := rNeD K) (op_neD hr.units) (pe_ix (r := rIxT K) ix_tup (pv 3) pe_int (fun _ _ => rfl)) (pe_tup pa_nil) (nomark _))))) (pss_cons (ps_expr (pe_bm PySem.F.plainAttrs_list PySem.F.slot_list_append PySem.F.type_list_append mt_append (pv 2) (pa_cons (pe_tup (pa_cons (pe_ix (r := rIxT K) ix_tup (pv 3) pe_int (fun _ _ => rfl)) (pa_cons (pe_ix (r := rIxT K) ix_tup (pe_ix (r := rIxT K) ix_tup (pv 3) pe_int (fun _ _ => rfl)) pe_int (fun _ _ => rfl)) pa_nil))) pa_nil)))
      (pss_cons (ps_set (i := 1) nd rfl (by first | exact Or.inl rfl | exact Or.inr rfl) (pe_d D_with_hue (hr.mono (by decide)) rfl (pa_cons (pv 1) (pa_cons (pe_ix (r := rIxT K) ix_tup (pv 3) pe_int (fun _ _ => rfl)) (pa_cons (pe_ix (r := rIxT K) ix_tup (pe_ix (r := rIxT K) ix_tup (pv 3) pe_int (fun _ _ => rfl)) pe_int (fun _ _ => rfl)) pa_nil)))))
      (pss_one (ps_set (i := 3) nd rfl (by first | exact Or.inl rfl | exact Or.inr rfl) (pe_d D_first_narrow (hr.mono (by decide)) rfl (pa_cons (pv 0) (pa_cons (pv 1) pa_nil))))))))
      (pss_cons (ps_if (pt_cmpR op_isN (pv 3) pe_non (nomark _)) (pss_one (ps_ret (pe_tup (pa_cons (pv 1) (pa_cons (pv 2) (pa_cons pe_non pa_nil)))))) pss_nil)
      (pss_one (ps_ret (pe_tup (pa_cons (pv 1) (pa_cons (pv 2) (pa_cons (pe_ix (r := rIxT K) ix_tup (pv 3) pe_int (fun _ _ => rfl)) pa_nil)))))))))), ?_⟩
  obtain ⟨sz, dr, hv, ok, hl, k⟩ := h
  obtain ⟨v, v2, rfl, h1, h2⟩ := dpa2 hv
  refine r_asgN (K := K) (en_lst eda_nil) fun p H1 hp e1 hlp => ?_
  have a0 := acc_begin hp e1 hlp
  refine r_asg (K := K) (d := narD (narrowM sz dr)) (en_call (eda_cons (ed_var (dpx e1 h1)) (eda_cons (ed_var (dpx e1 h2)) eda_nil)) ⟨sz, dr, rfl, ok, hl, rfl⟩).toD fun u H2 e2 du => ?_
  refine q_while (fun m σ' H' => ∃ (d : List Int) (st : List PyData) (w2 w4 : V), runF sz (m + 1) d = runM sz dr ∧ (blanksM d).length ≤ m ∧ d.length = dr.length ∧ st.length + (blanksM d).length ≤ 40 ∧ σ' = [some v, some w2, some (.ref p), some w4] ∧ Acc K H p st H' ∧ Dp K H' w2 (iT d) ∧ Dp K H' w4 (narD (narrowM sz d))) (blanksM dr).length ⟨dr, [], v2, u, rfl, Nat.le_refl _, rfl, by have := bl_len dr; simp; omega, rfl, acc_mono a0 e2, dpx (e1.trans e2) h2, du⟩ ?_
  rintro m σ' H' ⟨d, st, w2, w4, hrun, hbl, hdl, hst, rfl, a, d2, d4⟩
  cases hn : narrowM sz d with
  | none =>
    rw [hn] at d4
    refine ⟨false, et_and (a := false) (b := true) (et_test (K := K) (ed_op (ed_var d4) ed_non rv_notN)) (fun z => by cases z), (fun z => by cases z), fun _ H4 e4 => ?_⟩
    refine s_when (b := true) (et_test (K := K) (ed_op (ed_var (dpx e4 d4)) ed_non rv_isN)) (fun _ H5 e5 => ?_) (fun z => by cases z)
    have er : runM sz dr = (d, none) := by
      rw [← hrun]
      unfold runF
      rw [hn]
    have a5 := acc_mono a (e4.trans e5)
    refine (en_tup (K := K) (eda_cons (ed_var (dpx (e4.trans e5) d2)) (eda_cons (ed_var (acc_new a5).dp) (eda_cons ed_non eda_nil)))) H5 (Ex.refl _) _ fun z H6 e6 dz => k st z H6 (a5.2.1.trans e6) ?_
    unfold runD
    rw [er]
    exact dz
  | some q =>
    obtain ⟨pl, hs⟩ := q
    rw [hn] at d4
    obtain ⟨hpb, hop⟩ := nar_mem hn
    have hplt := (bl_mem hpb).1
    have dpl : ∀ H4, Ex H' H4 → EvD K (tOp (rIxT K) (tVar 3) (tC (.int 1))) [some v, some w2, some (.ref p), some w4] H4 (nT hs) := fun H4 e4 => ed_op (ed_var (dpx e4 d4)) ed_int (rv_ixT (atI_nat (j := 1) rfl))
    have dp0 : ∀ H4, Ex H' H4 → EvD K (tOp (rIxT K) (tVar 3) (tC (.int 0))) [some v, some w2, some (.ref p), some w4] H4 (.int (pl : Int)) := fun H4 e4 => ed_op (ed_var (dpx e4 d4)) ed_int (rv_ixT (atI_nat (j := 0) rfl))
    refine ⟨true && !hs.isEmpty, et_and (et_test (K := K) (ed_op (ed_var d4) ed_non rv_notN)) fun _ => et_test ((ed_op (dpl H' (Ex.refl _)) (en_tup eda_nil) (rv_neD (shaped_nT _) (by decide +kernel))).eq ?_), fun hb H4 e4 => ?_, fun hb H4 e4 => ?_⟩
    · rw [nT_eq, eqv_unit]
      cases hs <;> rfl
    · cases hhs : hs with
      | nil => rw [hhs] at hb; cases hb
      | cons hh hr =>
        rw [hhs] at dpl
        have hhm : hh ∈ openM sz d pl := by rw [← hop, hhs]; exact List.mem_cons_self
        have dp1 : ∀ H5, Ex H' H5 → EvD K (tOp (rIxT K) (tOp (rIxT K) (tVar 3) (tC (.int 1))) (tC (.int 0))) [some v, some w2, some (.ref p), some w4] H5 (.int (hh : Int)) := fun H5 e5 => ed_op (dpl H5 e5) ed_int (rv_ixT (at_n (p := 0) rfl))
        have hbs := bl_set (h := hh) hpb
        have hm1 : m = (m - 1) + 1 := by omega
        refine ⟨fun σ2 H2 => ∃ (d : List Int) (st : List PyData) (w2 w4 : V), runF sz (m - 1 + 1) d = runM sz dr ∧ (blanksM d).length ≤ m - 1 ∧ d.length = dr.length ∧ st.length + (blanksM d).length ≤ 40 ∧ σ2 = [some v, some w2, some (.ref p), some w4] ∧ Acc K H p st H2 ∧ Dp K H2 w2 (iT d) ∧ Dp K H2 w4 (narD (narrowM sz d)), fun σ2 H2 z => ⟨m - 1, by omega, z⟩, ?_⟩
        refine acc_appK (K := K) (i := 2) (d := .tuple [.int (pl : Int), .int (hh : Int)]) (acc_mono a e4) rfl (en_tup (eda_cons (dp0 H4 e4) (eda_cons (dp1 H4 e4) eda_nil))) rfl (by omega) fun H5 a5 kp5 => ?_
        have x1 : Dp K H5 v (nT sz) := dpx a5.2.1 h1
        obtain ⟨_, _, _, ysp, zsp, _⟩ := a
        have x2 : Dp K H5 w2 (iT d) := dpk (e4 _ _ zsp) kp5 (flat_iT _) (dpx e4 d2)
        have x4 : Dp K H5 w4 (narD (some (pl, hh :: hr))) := by
          rw [← hhs]
          exact dpk (e4 _ _ zsp) kp5 (flat_nar _) (dpx e4 d4)
        have y0 : EvD K (tOp (rIxT K) (tVar 3) (tC (.int 0))) [some v, some w2, some (.ref p), some w4] H5 (.int (pl : Int)) := ed_op (ed_var x4) ed_int (rv_ixT (atI_nat (j := 0) rfl))
        have y1 : EvD K (tOp (rIxT K) (tOp (rIxT K) (tVar 3) (tC (.int 1))) (tC (.int 0))) [some v, some w2, some (.ref p), some w4] H5 (.int (hh : Int)) := ed_op (ed_op (c := nT (hh :: hr)) (ed_var x4) ed_int (rv_ixT (atI_nat (j := 1) rfl))) ed_int (rv_ixT (at_n (p := 0) rfl))
        refine r_asg (K := K) (d := iT (d.set pl (hh : Int))) (en_call (eda_cons (ed_var x2) (eda_cons y0 (eda_cons y1 eda_nil))) ⟨d, pl, (hh : Int), rfl, hplt, by omega, rfl⟩).toD fun w2' H6 e6 dw2 => ?_
        refine s_asgD (K := K) (d := narD (narrowM sz (d.set pl (hh : Int)))) (en_call (eda_cons (ed_var (dpx e6 x1)) (eda_cons (ed_var dw2) eda_nil)) ⟨sz, d.set pl (hh : Int), rfl, ok, by rw [List.length_set]; omega, rfl⟩).toD fun w4' H7 e7 dw4 => ?_
        refine ⟨d.set pl (hh : Int), _, w2', w4', ?_, by omega, by rw [List.length_set]; exact hdl, ?_, rfl, acc_mono a5 (e6.trans e7), dpx e7 dw2, dw4⟩
        · rw [← hm1, ← hrun]
          conv => rhs; unfold runF
          rw [hn, hhs]
        · rw [List.length_append]
          show _ + 1 + _ ≤ 40
          omega
    · have hhs : hs = [] := by
        cases hs with
        | nil => rfl
        | cons a b => cases hb
      subst hhs
      refine s_when (b := false) (et_test (K := K) (ed_op (ed_var (dpx e4 d4)) ed_non rv_isN)) (fun z => by cases z) (fun _ H5 e5 => ?_)
      have er : runM sz dr = (d, some pl) := by
        rw [← hrun]
        unfold runF
        rw [hn]
      have a5 := acc_mono a (e4.trans e5)
      refine (en_tup (K := K) (eda_cons (ed_var (dpx (e4.trans e5) d2)) (eda_cons (ed_var (acc_new a5).dp) (eda_cons (dp0 H5 (e4.trans e5)) eda_nil)))) H5 (Ex.refl _) _ fun z H6 e6 dz => k st z H6 (a5.2.1.trans e6) ?_
      unfold runD
      rw [er]
      exact dz
def sp_run (K : PySem.W.Frag) : Sp := fun vs H Q _ => ∃ (sz : List Nat) (dr : List Int), DpAll K H vs [nT sz, iT dr] ∧ SzOk sz ∧ DrOk sz dr ∧ ∀ st v H', Ex H H' → Dp K H' v (runD sz dr st) → Q v H'
theorem ln_run : ∀ vs H Q E, sp_run K vs H Q E → vs.length = 2 := fun vs H Q E ⟨_, _, h, _⟩ => dpa_len h
theorem sc_run : FnScope ["sizes", "draft"] ["sizes", "draft"] (defScope (top 67)) := ⟨rfl, rfl, rfl, by decide +kernel, rfl, by decide +kernel, by decide +kernel⟩
theorem df_run (T : Txt K mg) (F : FnT K mg "run" (top 67)) (D_need_draft : Df P w K mg base "need_draft" 5 ["sizes", "draft"] (sp_need_draft K)) (D_run_of : Df P w K mg base "run_of" 5 ["sizes", "draft"] (sp_run_of K)) : Df P w K mg base "run" 6 ["sizes", "draft"] (sp_run K) := by
  have nd := sc_run.nd
  refine df_mk (k := 5) F sc_run (fun _ _ _ _ _ _ us hl => match us, hl with | [_, _], _ => rfl) (ln_run) (fun f cdv A outer s H vs Q E hr h => ?_)
  refine ⟨_, (pss_cons (ps_expr (pe_d D_need_draft (hr.mono (by decide)) rfl (pa_cons (pv 0) (pa_cons (pv 1) pa_nil))))
      (pss_one (ps_ret (pe_d D_run_of (hr.mono (by decide)) rfl (pa_cons (pv 0) (pa_cons (pv 1) pa_nil)))))), ?_⟩
  obtain ⟨sz, dr, hv, ok, od, k⟩ := h
  obtain ⟨v, v2, rfl, h1, h2⟩ := dpa2 hv
  refine r_drop (K := K) (en_call (eda_cons (ed_var h1) (eda_cons (ed_var h2) eda_nil)) ⟨sz, dr, rfl, ok, od, rfl⟩).toD fun H1 e1 => ?_
  exact r_retC (K := K) (eda_cons (ed_var (dpx e1 h1)) (eda_cons (ed_var (dpx e1 h2)) eda_nil)) fun vs H2 e2 dvs => ⟨sz, dr, by rw [List.append_nil]; exact dvs, ok, od.len, fun st z H3 e3 dz => k st z H3 ((e1.trans e2).trans e3) dz⟩
end
end EH

set_option Elab.async false
set_option linter.all false
set_option maxRecDepth 100000
set_option maxHeartbeats 4000000
namespace EH
open PySem PySem.Spec PyProof.Rows L2 Evl
/-- an own class of errors without own __init__ -/
structure EcT (K : PySem.W.Frag) (mg : Str → Option Value) (x : Str) : Prop where
  ex : ∃ (C : Addr) (bmB : List Value), mg x = some (.ref C) ∧ PySem.W.keepIn K (.ref C) = true ∧ PySem.W.excIn K C bmB "ValueError.__new__" = true ∧ ExcBaseFacts "ValueError" "ValueError.__new__" "ValueError.__init__" bmB ∧
    PySem.W.subIn K (.ref C) (.type "BaseException") = some true ∧ PySem.W.typeIn K (.ref C) = some (.type "type")
/-- a def that may let errors out, and its promise -/
structure Dx (P : Program) (w : World) (K : PySem.W.Frag) (mg : Str → Option Value) (base : Heap) (x : Str) (k : Nat) (ps : List Str) (sp : Sp) : Prop where
  ex : ∃ (f : Addr) (fd : FuncData), FnOk P w K mg base (L2.CX P w) k f fd ps sp ∧ mg x = some (.ref f) ∧ PySem.W.keepIn K (.ref f) = true ∧ Binds K fd ps []
/-- what a def lets out is its caller's -/
abbrev WXof (E : XK) : WX := fun cls d _ H => E cls d H
section
variable {P : Program} {w : World} {K : PySem.W.Frag} {mg : Str → Option Value} {base : Heap}
theorem takes_def {N : List Str} {qual : Str} {scope : Scope} {f : Addr} {cdv : Value} {A : Around} {outer : List Env} {s : Shared} {H : Hp} {E : XK} : L2.Takes (cxOf (L2.CX P w) P w K mg base N qual scope f cdv A outer s H E) (WXof E) :=
  L2.takes_of rfl rfl rfl rfl
theorem dx_mk {x : Str} {st : Stmt} {N ps : List Str} {k : Nat} {sp : Sp} (F : FnT K mg x st) (S : FnScope N ps (defScope st))
    (hb : ∀ (kV doc pm : Value) (an : Option Addr) (cdv ct : Value) (us : List Value), us.length = ps.length → bindArgs (PySem.W.fnOf x x (defArgs st) (defBody st) (defScope st) .none kV doc pm an cdv ct) ⟨us, []⟩ = pure (ps.zip us))
    (len : ∀ vs H Q E, sp vs H Q E → vs.length = ps.length)
    (hbody : ∀ (f : Addr) (cdv : Value) (A : Around) (outer : List Env) (s : Shared) (H : Hp) (vs : List V) (Q : VK) (E : XK), Room k (A.deeper (envOfC x (defScope st) s.heap.objs.size f cdv)) → L2.Takes (cxOf (L2.CX P w) P w K mg base N x (defScope st) f cdv A outer s H E) (WXof E) → sp vs H Q E →
      ∃ t, PSs (cxOf (L2.CX P w) P w K mg base N x (defScope st) f cdv A outer s H E) (defBody st) t ∧ t { nx := fun _ H' => Q .non H', rt := Q } (start N vs) H) : Dx P w K mg base x (k + 1) ps sp := by
  obtain ⟨f, fd, F, hm⟩ := F.ex
  exact ⟨f, fd, F.ok S len fun cdv A outer s H vs Q E hr h => hbody f cdv A outer s H vs Q E hr takes_def h, hm, F.kp, F.bindsN hb⟩
end
section
variable {X : Cx} {x : Str} {k : Nat} {ps : List Str} {sp : Sp} {e : Expr} {es : List Expr} {t : TA} {p p2 pos : Pos} {W : WX} {m : Str} {j : Nat}
theorem pe_dx (tk : L2.Takes X W) (D : Dx X.prog X.w X.K X.mg X.base x k ps sp) (hr : Room k X.A) (hg : Gl X x) (ha : PA X (e :: es) t) (hdb : (x == ("__debug__" : Str)) = false := by decide)
    (he : starEach (e :: es) X.env = (false, eval e X.env) :: starEach es X.env := by rfl) (hpl : (backTo pos (starEach es X.env)).any (·.1) = false := by rfl) : PE X (.Call (.Name x p) (e :: es) [] pos) (tCallS sp (WE W) t) := by
  obtain ⟨f, fd, F, hm, hk, hb⟩ := D.ex
  exact pe_callS F hr hg hm hk hb (L2.passAt tk) ha hdb he hpl
/-- X('m'), X one of them -/
def tMk (mg : Str → Option Value) (x : Str) : L2.St → Hp → XK → Prop := fun _ H Q => ∀ c, mg x = some c → Q c none H
theorem pmk_ec (T : EcT X.K X.mg x) (hg : Gl X x) (hdb : (x == ("__debug__" : Str)) = false := by decide) : L2.PMk X (.Call (.Name x p) [.Constant (.str m) j p2] [] pos) (tMk X.mg x) := by
  obtain ⟨C, bmB, gC, kC, q, F, h1, h2⟩ := T.ex
  exact fun pins s σ H Q I h => L2.pmk_own F q gC kC (raises_own h1 h2) hg hdb pins s σ H Q I (h _ gC)
end
/-- told: data, or the name of the class of the error -/
abbrev Res := Except Str PyData
/-- the error's own dict, if it has one, is known -/
def DOk (d : Option Addr) (H : Hp) : Prop := ∀ dx, d = some dx → ∃ fs, H dx = some (.xd fs)
theorem dok_none {H : Hp} : DOk none H := fun _ z => nomatch z
def RzE (mg : Str → Option Value) (x : Str) (H : Hp) (E : XK) : Prop := ∀ c d H', mg x = some c → Ex H H' → DOk d H' → E c d H'
def ResQ (K : PySem.W.Frag) (mg : Str → Option Value) (H : Hp) (r : Res) (Q : VK) (E : XK) : Prop := match r with
  | .ok d => ∀ v H', Ex H H' → New K H H' v d → Q v H'
  | .error x => RzE mg x H E
def spR (K : PySem.W.Frag) (mg : Str → Option Value) (R : List PyData → Res → Prop) : Sp := fun vs H Q E => ∃ ds r, DpAll K H vs ds ∧ R ds r ∧ ResQ K mg H r Q E
theorem spR_len {K : PySem.W.Frag} {mg : Str → Option Value} {R : List PyData → Res → Prop} {n : Nat} (h : ∀ ds d, R ds d → ds.length = n) : ∀ vs H Q E, spR K mg R vs H Q E → vs.length = n := fun vs H Q E ⟨ds, d, h1, h2, _⟩ => (dpa_len h1).trans (h ds d h2)
def EvE (K : PySem.W.Frag) (mg : Str → Option Value) (E : XK) (te : TE) (σ : L2.St) (H : Hp) (r : Res) : Prop := ∀ H1, Ex H H1 → ∀ Q : VK, ResQ K mg H1 r Q E → te σ H1 Q
section
variable {K : PySem.W.Frag} {mg : Str → Option Value} {σ : L2.St} {H H1 : Hp} {E E' : XK} {te : TE} {ta : TA} {r : Res} {d : PyData} {ds : List PyData} {Q Q' : VK} {x : Str} {D : Ends} {tz : TS}
theorem RzE.mono (h : RzE mg x H E) (e : Ex H H1) : RzE mg x H1 E := fun c d H2 m e2 o => h c d H2 m (e.trans e2) o
theorem ResQ.mono (h : ResQ K mg H r Q E) (e : Ex H H1) : ResQ K mg H1 r Q E := by
  cases r with
  | ok d => exact kk e h
  | error x => exact RzE.mono h e
theorem EvN.toE (h : EvN K te σ H d) : EvE K mg E te σ H (.ok d) := fun H1 e Q q => h H1 e Q q
theorem EvE.eq {r' : Res} (h : EvE K mg E te σ H r) (e : r = r') : EvE K mg E te σ H r' := e ▸ h
theorem ee_call {R : List PyData → Res → Prop} (h : EvDA K ta σ H ds) (hR : R ds r) : EvE K mg E (tCallS (spR K mg R) (WE (WXof E)) ta) σ H r := fun H1 e Q q =>
  h H1 e _ fun xs H2 e2 dxs => ⟨ds, r, dxs, hR, q.mono e2⟩
theorem r_dropE (h : EvE K mg E te σ H r) (k : ∀ d, r = .ok d → ∀ H1, Ex H H1 → tz D σ H1) (kx : ∀ x, r = .error x → RzE mg x H E) : tSeq (tDrop te) tz D σ H := h H (Ex.refl H) _ (by
  cases r with
  | ok d => exact fun v H1 e n => k d rfl H1 e
  | error x => exact kx x rfl)
theorem r_retE (h : EvE K mg E te σ H r) (q : ResQ K mg H r D.rt E) : tRet te D σ H := h H (Ex.refl H) _ q
theorem r_asgE {i : Nat} (h : EvE K mg E te σ H r) (k : ∀ d, r = .ok d → ∀ v H1, Ex H H1 → New K H H1 v d → tz D (σ.set i (some v)) H1) (kx : ∀ x, r = .error x → RzE mg x H E) : tSeq (tAsg te (gName i)) tz D σ H := h H (Ex.refl H) _ (by
  cases r with
  | ok d => exact fun v H1 e n => k d rfl v H1 e n
  | error x => exact kx x rfl)
end
end EH

set_option Elab.async false
set_option linter.all false
set_option maxRecDepth 100000
set_option maxHeartbeats 4000000
namespace EH
open PySem PySem.Spec PyProof.Rows L2 Evl
/-- the class that all errors hang on, as a name of the text -/
structure HueT (K : PySem.W.Frag) (mg : Str → Option Value) : Prop where
  ex : ∃ U : Addr, mg "HueError" = some (.ref U) ∧ PySem.W.specialIn K (.ref U) "__getattribute__" = some (some (.builtin "type.__getattribute__")) ∧ PySem.W.readsIn K U (.type "type") = true ∧
    PySem.W.findCls K (.ref U) (.type "type") "__init__" = some (.val (.builtin "ValueError.__init__"))
section
variable {X : Cx} {e : Expr} {es : List Expr} {ta : TA} {p1 p2 p pos : Pos}
/-- HueError.__init__(self, ..) -/
theorem pe_hueinit {pl : Sem Bool} (T : HueT X.K X.mg) (hg : Gl X "HueError") (ha : PA X (e :: es) ta)
    (hc : eval (.Call (.Attribute (.Name "HueError" p1) "__init__" p2) (e :: es) [] pos) X.env = (do
      let base ← eval (.Name "HueError" p1) X.env
      standAt p2.atName
      let (m, front) ← holding [base] (getMethod base "__init__" pl)
      callWith pos m front (backTo pos (starEach (e :: es) X.env)) (backToKw pos (keywordEach [] X.env))) := by rfl)
    (h1 : starEach (e :: es) X.env = (false, eval e X.env) :: starEach es X.env := by rfl) (h2 : (backTo pos (starEach es X.env)).any (·.1) = false := by rfl) : PE X (.Call (.Attribute (.Name "HueError" p1) "__init__" p2) (e :: es) [] pos) (tVeI X.K ta) := by
  obtain ⟨U, hm, sp, rd, fc⟩ := T.ex
  constructor
  intro pins s σ H Q I h
  apply PySem.W.methodCall_KW (ld_glob I hg hm ?_ (by decide)) hc
  apply PySem.W.method_cls I.kIn sp
  apply PySem.W.cls_value I.kIn rd fc (by decide +kernel)
  refine PyProof.Rows.callWith_method1 (thn (ha.run pos pins _ σ H _ (I.tok _) h) ?_) h1 h2
  rintro us s1 ⟨vs, H1, I1, rr, a, C, ws, rfl, hl, hC, ea, q⟩
  cases rr with
  | cons r0 r1 =>
    cases r0
    have small := Paired.length r1
    exact oinit_ok hC I1 ea (by rw [← small, sizeLine_eq]; omega) fun s' J => ⟨.non, H1, J, rfl, q⟩
/-- C(e, ..), C's own __init__ keeping sp; nothing is handled -/
theorem pmk_made {x : Str} {C fI : Addr} {k : Nat} {fd : FuncData} {ps : List Str} {sp : Sp} (T : OexC X.K C) (iC : PySem.W.findIn X.K (.ref C) "__init__" = some (some (.ref fI))) (tI : PySem.W.typeIn X.K (.ref fI) = some (.type "function"))
    (F1 : FnOk X.prog X.w X.K X.mg X.base CX0 k fI fd ps sp) (hr : Room (k + 1) X.A) (hb : Binds X.K fd ps []) (hg : Gl X x) (hm : X.mg x = some (.ref C)) (ha : PA X (e :: es) ta)
    (hdb : (x == ("__debug__" : Str)) = false := by decide) (h1 : starEach (e :: es) X.env = (false, eval e X.env) :: starEach es X.env := by rfl) (h2 : (backTo pos (starEach es X.env)).any (·.1) = false := by rfl) :
    L2.PMk X (.Call (.Name x p) (e :: es) [] pos) (tMkO C sp [] ta) := by
  intro pins s σ H Q I h
  obtain ⟨nm, q, N, bs, bm, sn, sub, ab, col, dd, k0, k1, k2, k3, k5, hC, hbm⟩ := T.cls
  apply wpAny_Call_Name_kw (ld_glob I hg hm ?_ hdb)
  refine PySem.W.callWith_K (h₀ := X.base) I.ok.mod.kin T.kC (thn (ha.run pos pins s σ H _ I h) ?_) h1 h2
  rintro us ⟨hp, g, dr, tk, os⟩ ⟨vs, H1, I1, rr, hz, todo⟩
  refine ⟨I1.kIn, ?_⟩
  show wpAny _ _ (call (.ref C) us) _ _ _
  have lo : hp.objs.size ≤ hp.objs.size + 1 := by omega
  have fresh : H1 (hp.objs.size + 1) = none := I1.hok.fresh lo
  have todo := todo _ fresh
  rw [List.append_nil] at todo
  have stay : ∀ b o, hp.get? b = some o → ((hp.push (PySem.W.kdv_tup us)).push (PySem.HandSPX.excO C hp.objs.size)).get? b = some o := fun b o he => Heap.get?_push_of_some _ (Heap.get?_push_of_some _ he)
  have there : ((hp.push (PySem.W.kdv_tup us)).push (PySem.HandSPX.excO C hp.objs.size)).get? (hp.objs.size + 1) = some (PySem.HandSPX.excO C hp.objs.size) := by heap_get
  have I2 := I1.laid (t' := tk) (a := hp.objs.size + 1) (o := exo (hp.objs.size + 1) C none) (h' := (hp.push (PySem.W.kdv_tup us)).push (PySem.HandSPX.excO C hp.objs.size)) stay lo (exo_ok there)
  have rel : Vals (V.ref (hp.objs.size + 1) :: vs) (Value.ref (hp.objs.size + 1) :: us) := .cons rfl rr
  have many : (Value.ref (hp.objs.size + 1) :: us ++ []).length = ps.length := by
    rw [← F1.len _ _ _ _ todo, List.append_nil]
    exact rel.length.symm
  have bound := hb ⟨(hp.push (PySem.W.kdv_tup us)).push (PySem.HandSPX.excO C hp.objs.size), g, dr, tk, os⟩ (Value.ref (hp.objs.size + 1) :: us) I2.kIn many
  rw [List.append_nil] at bound
  have few : us.length ≤ sizeLine := by
    have := Paired.length rr
    rw [← this, sizeLine_eq]
    omega
  apply wpAny_call
  apply PySem.HandSPX.call_own F.excBase_ValueError (fun Y => PySem.HandSPX.refsVE_contains Y bm hbm) (I1.kIn _ _ hC) (PySem.W.looks_findIn I1.kIn iC) (fun self => PySem.W.bind_fn I1.kIn self tI) few
  apply codeAny_mono (F1.run _ X.stack _ _ ⟨Value.ref (hp.objs.size + 1) :: us, []⟩ (Value.ref (hp.objs.size + 1) :: us) _ _ (fun _ _ _ => False) (hr.make C us []) (I2.env0.make C us []) bound rel todo)
  intro r s' got
  cases r with
  | error er => exact False.elim got
  | ok fl =>
    cases fl with
    | next => exact False.elim got
    | brk => exact False.elim got
    | cont => exact False.elim got
    | ret u =>
      obtain ⟨h2, g2, d2, t2, os'⟩ := s'
      obtain ⟨v, H2, os2, bare2, un2, hok2, rv, rfl, d, fs, ea, ed, hd1, q2⟩ := got
      obtain ⟨t0, G, J, kG, ge, hoe, na⟩ := mk_end0 (d2 := d2) (t2 := t2) I1 lo stay un2 hok2 os2 bare2 ea ed hd1
      refine ⟨rv, hp.objs.size + 1, _, _, ⟨G, g2, d2, t2, os'⟩, _, .ref C, some d, rfl, J, kG, ge, hoe, ⟨rfl, rfl⟩, rfl, rfl, na, rfl, bare2, raises_own T.exC T.tyC, q2⟩
end
/-- TooGreat's __init__(self, many, most) -/
def sp_great (K : PySem.W.Frag) : Sp := fun vs H Q _ => ∃ (a C : Addr) (x y : V), vs = [.ref a, x, y] ∧ OexC K C ∧ PySem.W.findIn K (.ref C) "many" = some none ∧ PySem.W.findIn K (.ref C) "most" = some none ∧ H a = some (exo a C none) ∧
  ∀ dx, H dx = none → dx ≠ a → Q .non (upd (upd (upd H dx (exd dx [("many", x)])) a (exo a C (some dx))) dx (exd dx [("most", y), ("many", x)]))
/-- the class TooGreat, as the text made it -/
structure GreatC (K : PySem.W.Frag) (mg : Str → Option Value) : Prop where
  ex : ∃ (C fI : Addr) (fd : FuncData), mg "TooGreat" = some (.ref C) ∧ OexC K C ∧ PySem.W.findIn K (.ref C) "__init__" = some (some (.ref fI)) ∧ PySem.W.typeIn K (.ref fI) = some (.type "function") ∧
    FunD K "__init__" "TooGreat.__init__" (defArgs (inClass (top 17) 0)) (defBody (inClass (top 17) 0)) (defScope (inClass (top 17) 0)) [] [] fI fd ∧ PySem.W.findIn K (.ref C) "many" = some none ∧ PySem.W.findIn K (.ref C) "most" = some none
structure GreatT (P : Program) (w : World) (K : PySem.W.Frag) (mg : Str → Option Value) (base : Heap) : Prop where
  ex : ∃ (C fI : Addr) (fd : FuncData), mg "TooGreat" = some (.ref C) ∧ OexC K C ∧ PySem.W.findIn K (.ref C) "__init__" = some (some (.ref fI)) ∧ PySem.W.typeIn K (.ref fI) = some (.type "function") ∧
    FnOk P w K mg base CX0 1 fI fd ["self", "many", "most"] (sp_great K) ∧ Binds K fd ["self", "many", "most"] [] ∧ PySem.W.findIn K (.ref C) "many" = some none ∧ PySem.W.findIn K (.ref C) "most" = some none
theorem sc_great : FnScope ["self", "many", "most"] ["self", "many", "most"] (defScope (inClass (top 17) 0)) := ⟨rfl, rfl, rfl, by decide +kernel, rfl, by decide +kernel, by decide +kernel⟩
theorem ln_great {K : PySem.W.Frag} : ∀ vs H Q E, sp_great K vs H Q E → vs.length = 3 := fun vs H Q E ⟨_, _, _, _, e, _⟩ => by rw [e]; rfl
theorem great_ok {P : Program} {w : World} {K : PySem.W.Frag} {mg : Str → Option Value} {base : Heap} (U : HueT K mg) (G : GreatC K mg) : GreatT P w K mg base := by
  obtain ⟨C, fI, fd, hm, hC, hi, ht, F, n1, n2⟩ := G.ex
  refine ⟨C, fI, fd, hm, hC, hi, ht, ?_, F.bindsN fun _ _ _ _ _ _ us hl => match us, hl with | [_, _, _], _ => rfl, n1, n2⟩
  refine F.ok sc_great ln_great fun cdv A outer s H vs Q E hr h => ?_
  have nd := sc_great.nd
  refine ⟨_, PSs.nox (pss_cons (ps_expr (pe_hueinit U rfl (pa_cons (pv 0) (pa_cons pe_str pa_nil)))) (pss_cons (ps_ost (pv 0) (pv 1)) (pss_one (ps_ost (pv 0) (pv 2))))), ?_⟩
  obtain ⟨a, C, x, y, rfl, hC, n1, n2, ha, k⟩ := h
  refine ⟨_, rfl, a, C, _, rfl, by simp, hC, ha, ?_⟩
  refine ⟨_, rfl, _, rfl, a, C, rfl, hC, n1, .inl ⟨ha, fun dx hd hn => ?_⟩⟩
  refine ⟨_, rfl, _, rfl, a, C, rfl, hC, n2, .inr ⟨dx, [("many", x)], upd_same, ?_, by simp, ?_⟩⟩
  · rw [upd_ne hn, upd_same]
  · exact k dx hd hn
section
variable {X : Cx} {e : Expr} {es : List Expr} {ta : TA} {p pos : Pos}
/-- TooGreat(many, most) -/
def tGreat (K : PySem.W.Frag) (mg : Str → Option Value) (ta : TA) : L2.St → Hp → XK → Prop := fun σ H Q => ∀ C, mg "TooGreat" = some (.ref C) → tMkO C (sp_great K) [] ta σ H Q
theorem pmk_great (G : GreatT X.prog X.w X.K X.mg X.base) (hr : Room 2 X.A) (hg : Gl X "TooGreat") (ha : PA X (e :: es) ta)
    (h1 : starEach (e :: es) X.env = (false, eval e X.env) :: starEach es X.env := by rfl) (h2 : (backTo pos (starEach es X.env)).any (·.1) = false := by rfl) :
    L2.PMk X (.Call (.Name "TooGreat" p) (e :: es) [] pos) (tGreat X.K X.mg ta) := by
  obtain ⟨C, fI, fd, hm, hC, hi, ht, F, B, _, _⟩ := G.ex
  exact fun pins s σ H Q I h => pmk_made hC hi ht F hr B hg hm ha (by decide) h1 h2 pins s σ H Q I (h C hm)
end
theorem mk_great {P : Program} {w : World} {K : PySem.W.Frag} {mg : Str → Option Value} {base : Heap} {σ : L2.St} {H : Hp} {ta : TA} {d1 d2 : PyData} {Q : XK} (G : GreatT P w K mg base) (h : EvDA K ta σ H [d1, d2]) (k : RzE mg "TooGreat" H Q) : tGreat K mg ta σ H Q := fun C hC => by
  obtain ⟨C', fI, fd, hm, hO, hi, ht, F, B, n1, n2⟩ := G.ex
  rw [hm] at hC
  cases hC
  refine h H (Ex.refl H) _ fun vs H1 e1 dvs => ?_
  obtain ⟨x, y, rfl, dx, dy⟩ := dpa2 dvs
  refine ⟨by simp, fun a ha => ⟨a, C, x, y, rfl, hO, n1, n2, upd_same, fun d hd hn => ⟨rfl, d, _, ?_, upd_same, ?_, k _ _ _ hm ?_ (fun dx z => by cases z; exact ⟨_, upd_same⟩)⟩⟩⟩
  · rw [upd_ne (Ne.symm hn), upd_same]
  · rw [upd_ne hn] at hd
    exact hd
  · rw [upd_ne hn] at hd
    refine e1.trans fun b o hb => ?_
    have nb : b ≠ a := fun z => by rw [z, ha] at hb; cases hb
    have nd : b ≠ d := fun z => by rw [z, hd] at hb; cases hb
    rw [upd_ne nd, del_ne nb, upd_ne nd, upd_ne nb, upd_ne nd, upd_ne nb]
    exact hb
end EH

set_option Elab.async false
set_option linter.all false
set_option maxRecDepth 100000
set_option maxHeartbeats 4000000
namespace EH
open PySem PySem.Spec PyProof.Rows L2 Evl
structure TxtX (P : Program) (w : World) (K : PySem.W.Frag) (mg : Str → Option Value) (base : Heap) : Prop extends Txt K mg where
  e_NoPlace : EcT K mg "NoPlace"
  e_NoDeed : EcT K mg "NoDeed"
  great : GreatT P w K mg base
section
variable {P : Program} {w : World} {K : PySem.W.Frag} {mg : Str → Option Value} {base : Heap}
theorem ev_callQ {σ : L2.St} {H : Hp} {sp : Sp} {dvs : List V} {E : XK} {ta : TA} {ds : List PyData} {Q : VK} (h : EvDA K ta σ H ds) (k : ∀ vs H1, Ex H H1 → DpAll K H1 vs ds → sp (vs ++ dvs) H1 Q E) : tCall sp dvs E ta σ H Q := h H (Ex.refl H) _ k
def blankAt (dr : List Int) (p : Nat) : Bool := decide (p < dr.length) && decide (dr.getD p 0 = -1)
def sp_need_blank (K : PySem.W.Frag) (mg : Str → Option Value) : Sp := spR K mg fun ds r => ∃ sz dr, ∃ p : Nat, ds = [nT sz, iT dr, .int (p : Int)] ∧ SzOk sz ∧ DrOk sz dr ∧ r = if blankAt dr p then .ok .none else .error "NoPlace"
theorem ln_need_blank : ∀ vs H Q E, sp_need_blank K mg vs H Q E → vs.length = 3 := spR_len fun ds d ⟨_, _, _, e, _⟩ => by rw [e]; rfl
theorem sc_need_blank : FnScope ["sizes", "draft", "place"] ["sizes", "draft", "place"] (defScope (top 46)) := ⟨rfl, rfl, rfl, by decide +kernel, rfl, by decide +kernel, by decide +kernel⟩
theorem dx_need_blank (T : TxtX P w K mg base) (F : FnT K mg "need_blank" (top 46)) (D_need_draft : Df P w K mg base "need_draft" 5 ["sizes", "draft"] (sp_need_draft K)) (D_is_blank : Df P w K mg base "is_blank" 3 ["draft", "place"] (sp_is_blank K)) : Dx P w K mg base "need_blank" 6 ["sizes", "draft", "place"] (sp_need_blank K mg) := by
  have nd := sc_need_blank.nd
  refine dx_mk (k := 5) F sc_need_blank (fun _ _ _ _ _ _ us hl => match us, hl with | [_, _, _], _ => rfl) (ln_need_blank) (fun f cdv A outer s H vs Q E hr tk h => ?_)
  refine ⟨_, (pss_cons (ps_expr (pe_d D_need_draft (hr.mono (by decide)) rfl (pa_cons (pv 0) (pa_cons (pv 1) pa_nil))))
      (pss_one (ps_if (pt_not (pt_val (pe_d D_is_blank (hr.mono (by decide)) rfl (pa_cons (pv 1) (pa_cons (pv 2) pa_nil))))) (pss_one (L2.ps_raise rfl tk (pmk_ec T.e_NoPlace rfl))) pss_nil))), ?_⟩
  obtain ⟨ds, r, hv, ⟨sz, dr, p, rfl, ok, od, rfl⟩, k⟩ := h
  obtain ⟨v, v2, v3, rfl, h1, h2, h3⟩ := dpa3 hv
  refine r_drop (K := K) (en_call (eda_cons (ed_var h1) (eda_cons (ed_var h2) eda_nil)) ⟨sz, dr, rfl, ok, od, rfl⟩).toD fun H1 e1 => ?_
  refine s_when (b := !blankAt dr p) (et_not (et_B (K := K) (en_call (eda_cons (ed_var (dpx e1 h2)) (eda_cons (ed_var (dpx e1 h3)) eda_nil)) ⟨dr, p, rfl, rfl⟩).toD)) (fun hb H4 e4 => ?_) (fun hb H4 e4 => ?_)
  · have hb : blankAt dr p = false := by simpa using hb
    rw [hb] at k
    exact fun c hc => k c none H4 hc (e1.trans e4) dok_none
  · have hb : blankAt dr p = true := by simpa using hb
    rw [hb] at k
    exact k _ H4 (e1.trans e4) .non
def sp_open_hues (K : PySem.W.Frag) (mg : Str → Option Value) : Sp := spR K mg fun ds r => ∃ sz dr, ∃ p : Nat, ds = [nT sz, iT dr, .int (p : Int)] ∧ SzOk sz ∧ DrOk sz dr ∧ r = if blankAt dr p then .ok (nT (openM sz dr p)) else .error "NoPlace"
theorem ln_open_hues : ∀ vs H Q E, sp_open_hues K mg vs H Q E → vs.length = 3 := spR_len fun ds d ⟨_, _, _, e, _⟩ => by rw [e]; rfl
theorem sc_open_hues : FnScope ["sizes", "draft", "place"] ["sizes", "draft", "place"] (defScope (top 47)) := ⟨rfl, rfl, rfl, by decide +kernel, rfl, by decide +kernel, by decide +kernel⟩
theorem dx_open_hues (T : TxtX P w K mg base) (F : FnT K mg "open_hues" (top 47)) (D_need_blank : Dx P w K mg base "need_blank" 6 ["sizes", "draft", "place"] (sp_need_blank K mg)) (D_open_at : Df P w K mg base "open_at" 3 ["sizes", "draft", "place"] (sp_open_at K)) : Dx P w K mg base "open_hues" 7 ["sizes", "draft", "place"] (sp_open_hues K mg) := by
  have nd := sc_open_hues.nd
  refine dx_mk (k := 6) F sc_open_hues (fun _ _ _ _ _ _ us hl => match us, hl with | [_, _, _], _ => rfl) (ln_open_hues) (fun f cdv A outer s H vs Q E hr tk h => ?_)
  refine ⟨_, (pss_cons (ps_expr (pe_dx tk D_need_blank (hr.mono (by decide)) rfl (pa_cons (pv 0) (pa_cons (pv 1) (pa_cons (pv 2) pa_nil)))))
      (pss_one (ps_ret (pe_d D_open_at (hr.mono (by decide)) rfl (pa_cons (pv 0) (pa_cons (pv 1) (pa_cons (pv 2) pa_nil))))))), ?_⟩
  obtain ⟨ds, r, hv, ⟨sz, dr, p, rfl, ok, od, rfl⟩, k⟩ := h
  obtain ⟨v, v2, v3, rfl, h1, h2, h3⟩ := dpa3 hv
  refine r_dropE (K := K) (mg := mg) (E := E) (ee_call (eda_cons (ed_var h1) (eda_cons (ed_var h2) (eda_cons (ed_var h3) eda_nil))) ⟨sz, dr, p, rfl, ok, od, rfl⟩) (fun d hd H1 e1 => ?_) (fun x hx => ?_)
  · by_cases hb : blankAt dr p = true
    · rw [if_pos hb] at k
      unfold blankAt at hb
      simp only [Bool.and_eq_true, decide_eq_true_eq] at hb
      exact r_retD (K := K) (en_call (eda_cons (ed_var (dpx e1 h1)) (eda_cons (ed_var (dpx e1 h2)) (eda_cons (ed_var (dpx e1 h3)) eda_nil))) ⟨sz, dr, p, rfl, ok, od.len, hb.1, rfl⟩).toD (kk e1 k) (flat_nT _)
    · rw [if_neg hb] at hd
      cases hd
  · by_cases hb : blankAt dr p = true
    · rw [if_pos hb] at hx
      cases hx
    · rw [if_neg hb] at k hx
      cases hx
      exact k
def sp_need_small (K : PySem.W.Frag) (mg : Str → Option Value) : Sp := spR K mg fun ds r => ∃ sz, ds = [nT sz] ∧ SzOk sz ∧ r = if prodM sz ≤ 12 then .ok .none else .error "TooGreat"
theorem ln_need_small : ∀ vs H Q E, sp_need_small K mg vs H Q E → vs.length = 1 := spR_len fun ds d ⟨_, e, _⟩ => by rw [e]; rfl
theorem sc_need_small : FnScope ["sizes"] ["sizes"] (defScope (top 51)) := ⟨rfl, rfl, rfl, by decide +kernel, rfl, by decide +kernel, by decide +kernel⟩
theorem dx_need_small (T : TxtX P w K mg base) (F : FnT K mg "need_small" (top 51)) (D_need_sizes : Df P w K mg base "need_sizes" 4 ["sizes"] (sp_need_sizes K)) (D_product_of : Df P w K mg base "product_of" 1 ["numbers"] (sp_product_of K)) : Dx P w K mg base "need_small" 5 ["sizes"] (sp_need_small K mg) := by
  have nd := sc_need_small.nd
  refine dx_mk (k := 4) F sc_need_small (fun _ _ _ _ _ _ us hl => match us, hl with | [_], _ => rfl) (ln_need_small) (fun f cdv A outer s H vs Q E hr tk h => ?_)
  refine ⟨_, (pss_cons (ps_expr (pe_d D_need_sizes (hr.mono (by decide)) rfl (pa_cons (pv 0) pa_nil)))
      (pss_one (ps_if (pt_cmpR op_gt (pe_d D_product_of (hr.mono (by decide)) rfl (pa_cons (pv 0) pa_nil)) (pe_gi T.k_MOST_PRODUCT rfl) (nomark _)) (pss_one (L2.ps_raise rfl tk (pmk_great T.great (hr.mono (by decide)) rfl (pa_cons (pe_d D_product_of (hr.mono (by decide)) rfl (pa_cons (pv 0) pa_nil)) (pa_cons (pe_gi T.k_MOST_PRODUCT rfl) pa_nil))))) pss_nil))), ?_⟩
  obtain ⟨ds, r, hv, ⟨sz, rfl, ok, rfl⟩, k⟩ := h
  obtain ⟨v, rfl, h1⟩ := dpa1 hv
  refine r_drop (K := K) (en_call (eda_cons (ed_var h1) eda_nil) ⟨sz, rfl, ok, rfl⟩).toD fun H1 e1 => ?_
  have pr : ∀ H2, Ex H1 H2 → EvD K (tCall (sp_product_of K) [] E0 (tCons (tVar 0) tNil)) [some v] H2 (.int ((prodM sz : Nat) : Int)) := fun H2 e2 => (en_call (eda_cons (ed_var (dpx (e1.trans e2) h1)) eda_nil) ⟨sz, rfl, ok, rfl⟩).toD
  refine s_when (b := decide (12 < ((prodM sz : Nat) : Int))) (et_test (K := K) (ed_op (pr H1 (Ex.refl _)) ed_int rv_gt)) (fun hb H4 e4 => ?_) (fun hb H4 e4 => ?_)
  · have hb : ¬ prodM sz ≤ 12 := by have := of_decide_eq_true hb; omega
    rw [if_neg hb] at k
    exact mk_great T.great (eda_cons (pr H4 e4) (eda_cons ed_int eda_nil)) (RzE.mono k (e1.trans e4))
  · have hb : prodM sz ≤ 12 := by have := of_decide_eq_false hb; omega
    rw [if_pos hb] at k
    exact k _ H4 (e1.trans e4) .non
def sp_farthest (K : PySem.W.Frag) (mg : Str → Option Value) : Sp := spR K mg fun ds r => ∃ sz, ∃ n : Nat, ds = [nT sz] ∧ SzOk sz ∧ (prodM sz ≤ 12 → FarOk sz n) ∧ r = if prodM sz ≤ 12 then .ok (.int ((n : Int) - 1)) else .error "TooGreat"
theorem ln_farthest : ∀ vs H Q E, sp_farthest K mg vs H Q E → vs.length = 1 := spR_len fun ds d ⟨_, _, e, _⟩ => by rw [e]; rfl
theorem sc_farthest : FnScope ["sizes"] ["sizes"] (defScope (top 55)) := ⟨rfl, rfl, rfl, by decide +kernel, rfl, by decide +kernel, by decide +kernel⟩
theorem dx_farthest (T : TxtX P w K mg base) (F : FnT K mg "farthest" (top 55)) (D_need_small : Dx P w K mg base "need_small" 5 ["sizes"] (sp_need_small K mg)) (D_layers : Df P w K mg base "layers" 3 ["sizes"] (sp_layers K)) : Dx P w K mg base "farthest" 6 ["sizes"] (sp_farthest K mg) := by
  have nd := sc_farthest.nd
  refine dx_mk (k := 5) F sc_farthest (fun _ _ _ _ _ _ us hl => match us, hl with | [_], _ => rfl) (ln_farthest) (fun f cdv A outer s H vs Q E hr tk h => ?_)
  refine ⟨_, (pss_cons (ps_expr (pe_dx tk D_need_small (hr.mono (by decide)) rfl (pa_cons (pv 0) pa_nil)))
      (pss_one (ps_ret (pe_op op_sub (pe_callB (r := rLn K) call_len rfl T.b_len (by decide +kernel) (pa_cons (pe_d D_layers (hr.mono (by decide)) rfl (pa_cons (pv 0) pa_nil)) pa_nil)) pe_int)))), ?_⟩
  obtain ⟨ds, r, hv, ⟨sz, n, rfl, ok, far, rfl⟩, k⟩ := h
  obtain ⟨v, rfl, h1⟩ := dpa1 hv
  refine r_dropE (K := K) (mg := mg) (E := E) (ee_call (eda_cons (ed_var h1) eda_nil) ⟨sz, rfl, ok, rfl⟩) (fun d hd H1 e1 => ?_) (fun x hx => ?_)
  · by_cases hb : prodM sz ≤ 12
    · rw [if_pos hb] at k
      have fl : ∀ H2 (Q2 : VK), Ex H1 H2 → (∀ H3, Ex H2 H3 → Q2 (.int (n : Int)) H3) → tCB (rLn K) (tCons (tCall (sp_layers K) [] E0 (tCons (tVar 0) tNil)) tNil) [some v] H2 Q2 := fun H2 Q2 e2 q =>
        ev_callQ (K := K) (eda_cons (ed_var (dpx (e1.trans e2) h1)) eda_nil) fun vs H3 e3 dvs => ⟨sz, n, by rw [List.append_nil]; exact dvs, ok, far hb, fun p xs H4 e4 hp hl => ⟨_, _, rfl, .inl ⟨xs, sq_of hp, rfl⟩, by rw [hl]; exact q H4 (e3.trans e4)⟩⟩
      exact fl H1 _ (Ex.refl _) fun H3 e3 => ⟨_, _, rfl, rfl, k _ H3 (e1.trans e3) (.int _)⟩
    · rw [if_neg hb] at hd
      cases hd
  · by_cases hb : prodM sz ≤ 12
    · rw [if_pos hb] at hx
      cases hx
    · rw [if_neg hb] at k hx
      cases hx
      exact k
def sp_need_few (K : PySem.W.Frag) (mg : Str → Option Value) : Sp := spR K mg fun ds r => ∃ sz dr, ∃ m : Nat, ds = [nT sz, iT dr, .int (m : Int)] ∧ SzOk sz ∧ DrOk sz dr ∧ r = if waysM sz dr ≤ m then .ok .none else .error "TooGreat"
theorem ln_need_few : ∀ vs H Q E, sp_need_few K mg vs H Q E → vs.length = 3 := spR_len fun ds d ⟨_, _, _, e, _⟩ => by rw [e]; rfl
theorem sc_need_few : FnScope ["sizes", "draft", "most"] ["sizes", "draft", "most"] (defScope (top 59)) := ⟨rfl, rfl, rfl, by decide +kernel, rfl, by decide +kernel, by decide +kernel⟩
theorem dx_need_few (T : TxtX P w K mg base) (F : FnT K mg "need_few" (top 59)) (D_need_draft : Df P w K mg base "need_draft" 5 ["sizes", "draft"] (sp_need_draft K)) (D_ways_to_put : Df P w K mg base "ways_to_put" 2 ["sizes", "draft"] (sp_ways_to_put K)) : Dx P w K mg base "need_few" 6 ["sizes", "draft", "most"] (sp_need_few K mg) := by
  have nd := sc_need_few.nd
  refine dx_mk (k := 5) F sc_need_few (fun _ _ _ _ _ _ us hl => match us, hl with | [_, _, _], _ => rfl) (ln_need_few) (fun f cdv A outer s H vs Q E hr tk h => ?_)
  refine ⟨_, (pss_cons (ps_expr (pe_d D_need_draft (hr.mono (by decide)) rfl (pa_cons (pv 0) (pa_cons (pv 1) pa_nil))))
      (pss_one (ps_if (pt_cmpR op_gt (pe_d D_ways_to_put (hr.mono (by decide)) rfl (pa_cons (pv 0) (pa_cons (pv 1) pa_nil))) (pv 2) (nomark _)) (pss_one (L2.ps_raise rfl tk (pmk_great T.great (hr.mono (by decide)) rfl (pa_cons (pe_d D_ways_to_put (hr.mono (by decide)) rfl (pa_cons (pv 0) (pa_cons (pv 1) pa_nil))) (pa_cons (pv 2) pa_nil))))) pss_nil))), ?_⟩
  obtain ⟨ds, r, hv, ⟨sz, dr, m, rfl, ok, od, rfl⟩, k⟩ := h
  obtain ⟨v, v2, v3, rfl, h1, h2, h3⟩ := dpa3 hv
  rw [dp_int h3]
  refine r_drop (K := K) (en_call (eda_cons (ed_var h1) (eda_cons (ed_var h2) eda_nil)) ⟨sz, dr, rfl, ok, od, rfl⟩).toD fun H1 e1 => ?_
  have pr : ∀ H2, Ex H1 H2 → EvD K (tCall (sp_ways_to_put K) [] E0 (tCons (tVar 0) (tCons (tVar 1) tNil))) [some v, some v2, some (.int (m : Int))] H2 (.int ((waysM sz dr : Nat) : Int)) := fun H2 e2 =>
    (en_call (eda_cons (ed_var (dpx (e1.trans e2) h1)) (eda_cons (ed_var (dpx (e1.trans e2) h2)) eda_nil)) ⟨sz, dr, rfl, ok, od.len, rfl⟩).toD
  refine s_when (b := decide ((m : Int) < ((waysM sz dr : Nat) : Int))) (et_test (K := K) (ed_op (pr H1 (Ex.refl _)) (ed_var (.int _)) rv_gt)) (fun hb H4 e4 => ?_) (fun hb H4 e4 => ?_)
  · have hb : ¬ waysM sz dr ≤ m := by have := of_decide_eq_true hb; omega
    rw [if_neg hb] at k
    exact mk_great T.great (eda_cons (pr H4 e4) (eda_cons (ed_var (.int _)) eda_nil)) (RzE.mono k (e1.trans e4))
  · have hb : waysM sz dr ≤ m := by have := of_decide_eq_false hb; omega
    rw [if_pos hb] at k
    exact k _ H4 (e1.trans e4) .non
def sp_all_fillings (K : PySem.W.Frag) (mg : Str → Option Value) : Sp := spR K mg fun ds r => ∃ sz dr, ds = [nT sz, iT dr] ∧ SzOk sz ∧ DrOk sz dr ∧ r = if waysM sz dr ≤ 512 then .ok (.list ((fillM sz dr).map iT)) else .error "TooGreat"
theorem ln_all_fillings : ∀ vs H Q E, sp_all_fillings K mg vs H Q E → vs.length = 2 := spR_len fun ds d ⟨_, _, e, _⟩ => by rw [e]; rfl
theorem sc_all_fillings : FnScope ["sizes", "draft"] ["sizes", "draft"] (defScope (top 61)) := ⟨rfl, rfl, rfl, by decide +kernel, rfl, by decide +kernel, by decide +kernel⟩
theorem dx_all_fillings (T : TxtX P w K mg base) (F : FnT K mg "all_fillings" (top 61)) (D_need_few : Dx P w K mg base "need_few" 6 ["sizes", "draft", "most"] (sp_need_few K mg)) (D_fillings_of : Df P w K mg base "fillings_of" 4 ["sizes", "draft"] (sp_fillings_of K)) : Dx P w K mg base "all_fillings" 7 ["sizes", "draft"] (sp_all_fillings K mg) := by
  have nd := sc_all_fillings.nd
  refine dx_mk (k := 6) F sc_all_fillings (fun _ _ _ _ _ _ us hl => match us, hl with | [_, _], _ => rfl) (ln_all_fillings) (fun f cdv A outer s H vs Q E hr tk h => ?_)
  refine ⟨_, (pss_cons (ps_expr (pe_dx tk D_need_few (hr.mono (by decide)) rfl (pa_cons (pv 0) (pa_cons (pv 1) (pa_cons (pe_gi T.k_MOST_WAYS rfl) pa_nil)))))
      (pss_one (ps_ret (pe_d D_fillings_of (hr.mono (by decide)) rfl (pa_cons (pv 0) (pa_cons (pv 1) pa_nil)))))), ?_⟩
  obtain ⟨ds, r, hv, ⟨sz, dr, rfl, ok, od, rfl⟩, k⟩ := h
  obtain ⟨v, v2, rfl, h1, h2⟩ := dpa2 hv
  refine r_dropE (K := K) (mg := mg) (E := E) (ee_call (eda_cons (ed_var h1) (eda_cons (ed_var h2) (eda_cons ed_int eda_nil))) ⟨sz, dr, 512, rfl, ok, od, rfl⟩) (fun d hd H1 e1 => ?_) (fun x hx => ?_)
  · by_cases hb : waysM sz dr ≤ 512
    · rw [if_pos hb] at k
      exact r_ret (K := K) (en_call (eda_cons (ed_var (dpx e1 h1)) (eda_cons (ed_var (dpx e1 h2)) eda_nil)) ⟨sz, dr, rfl, ok, od.len, hb, rfl⟩) (kk e1 k)
    · rw [if_neg hb] at hd
      cases hd
  · by_cases hb : waysM sz dr ≤ 512
    · rw [if_pos hb] at hx
      cases hx
    · rw [if_neg hb] at k hx
      cases hx
      exact k
def sp_fillings_many (K : PySem.W.Frag) (mg : Str → Option Value) : Sp := spR K mg fun ds r => ∃ sz dr, ds = [nT sz, iT dr] ∧ SzOk sz ∧ DrOk sz dr ∧ r = if waysM sz dr ≤ 512 then .ok (.int ((fillM sz dr).length : Nat)) else .error "TooGreat"
theorem ln_fillings_many : ∀ vs H Q E, sp_fillings_many K mg vs H Q E → vs.length = 2 := spR_len fun ds d ⟨_, _, e, _⟩ => by rw [e]; rfl
theorem sc_fillings_many : FnScope ["sizes", "draft"] ["sizes", "draft"] (defScope (top 62)) := ⟨rfl, rfl, rfl, by decide +kernel, rfl, by decide +kernel, by decide +kernel⟩
theorem dx_fillings_many (T : TxtX P w K mg base) (F : FnT K mg "fillings_many" (top 62)) (D_all_fillings : Dx P w K mg base "all_fillings" 7 ["sizes", "draft"] (sp_all_fillings K mg)) : Dx P w K mg base "fillings_many" 8 ["sizes", "draft"] (sp_fillings_many K mg) := by
  have nd := sc_fillings_many.nd
  refine dx_mk (k := 7) F sc_fillings_many (fun _ _ _ _ _ _ us hl => match us, hl with | [_, _], _ => rfl) (ln_fillings_many) (fun f cdv A outer s H vs Q E hr tk h => ?_)
  refine ⟨_, (pss_one (ps_ret (pe_callB (r := rLn K) call_len rfl T.b_len (by decide +kernel) (pa_cons (pe_dx tk D_all_fillings (hr.mono (by decide)) rfl (pa_cons (pv 0) (pa_cons (pv 1) pa_nil))) pa_nil)))), ?_⟩
  obtain ⟨ds, r, hv, ⟨sz, dr, rfl, ok, od, rfl⟩, k⟩ := h
  obtain ⟨v, v2, rfl, h1, h2⟩ := dpa2 hv
  refine (ee_call (K := K) (mg := mg) (E := E) (σ := [some v, some v2]) (eda_cons (ed_var h1) (eda_cons (ed_var h2) eda_nil)) ⟨sz, dr, rfl, ok, od, rfl⟩) H (Ex.refl H) _ ?_
  by_cases hb : waysM sz dr ≤ 512
  · rw [if_pos hb] at k ⊢
    intro v H1 e1 n
    exact rc_lenL H1 [v] (dpa_one n.dp) _ fun z H2 e2 nz => k z H2 (e1.trans e2) (by
      rw [List.length_map] at nz
      exact nz)
  · rw [if_neg hb] at k ⊢
    exact k
def firstD (l : List (List Int)) : PyData := match l with
  | [] => .none
  | a :: _ => iT a
def sp_first_filling (K : PySem.W.Frag) (mg : Str → Option Value) : Sp := spR K mg fun ds r => ∃ sz dr, ds = [nT sz, iT dr] ∧ SzOk sz ∧ DrOk sz dr ∧ r = if waysM sz dr ≤ 512 then .ok (firstD (fillM sz dr)) else .error "TooGreat"
theorem ln_first_filling : ∀ vs H Q E, sp_first_filling K mg vs H Q E → vs.length = 2 := spR_len fun ds d ⟨_, _, e, _⟩ => by rw [e]; rfl
theorem sc_first_filling : FnScope ["sizes", "draft", "found"] ["sizes", "draft"] (defScope (top 63)) := ⟨rfl, rfl, rfl, by decide +kernel, rfl, by decide +kernel, by decide +kernel⟩
theorem dx_first_filling (T : TxtX P w K mg base) (F : FnT K mg "first_filling" (top 63)) (D_all_fillings : Dx P w K mg base "all_fillings" 7 ["sizes", "draft"] (sp_all_fillings K mg)) : Dx P w K mg base "first_filling" 8 ["sizes", "draft"] (sp_first_filling K mg) := by
  have nd := sc_first_filling.nd
  refine dx_mk (k := 7) F sc_first_filling (fun _ _ _ _ _ _ us hl => match us, hl with | [_, _], _ => rfl) (ln_first_filling) (fun f cdv A outer s H vs Q E hr tk h => ?_)
  refine ⟨_, (pss_cons (ps_set (i := 2) nd rfl (by first | exact Or.inl rfl | exact Or.inr rfl) (pe_dx tk D_all_fillings (hr.mono (by decide)) rfl (pa_cons (pv 0) (pa_cons (pv 1) pa_nil))))
      (pss_cons (ps_if (pt_cmpR (r := rEqD K) (op_eqD hr.units) (pv 2) (pe_lst pa_nil) (nomark _)) (pss_one (ps_ret pe_non)) pss_nil)
      (pss_one (ps_ret (pe_ix (r := rIxL K) ix_list (pv 2) pe_int (fun _ _ => rfl)))))), ?_⟩
  obtain ⟨ds, r, hv, ⟨sz, dr, rfl, ok, od, rfl⟩, k⟩ := h
  obtain ⟨v, v2, rfl, h1, h2⟩ := dpa2 hv
  refine r_asgE (K := K) (mg := mg) (E := E) (ee_call (eda_cons (ed_var h1) (eda_cons (ed_var h2) eda_nil)) ⟨sz, dr, rfl, ok, od, rfl⟩) (fun d hd v3 H1 e1 n => ?_) (fun x hx => ?_)
  · by_cases hb : waysM sz dr ≤ 512
    · rw [if_pos hb] at k hd
      cases hd
      have d3 := n.dp
      refine s_when (b := (fillM sz dr).isEmpty) (et_test (K := K) ((ed_op (ed_var d3) (en_lst eda_nil).toD (rv_eqD (shaped_iTs _) (by decide +kernel))).eq (by rw [eqv_nil, show ((fillM sz dr).map iT).isEmpty = (fillM sz dr).isEmpty by cases fillM sz dr <;> rfl]))) (fun hc H4 e4 => ?_) (fun hc H4 e4 => ?_)
      · cases hf : fillM sz dr with
        | nil =>
          rw [hf] at k
          exact r_retD (K := K) ed_non (kk (e1.trans e4) k)
        | cons a b => rw [hf] at hc; cases hc
      · cases hf : fillM sz dr with
        | nil => rw [hf] at hc; cases hc
        | cons a b =>
          rw [hf] at k d3
          exact r_retD (K := K) (d := iT a) (ed_op (ed_var (dpx e4 d3)) ed_int (rv_ixL (atI_nat (j := 0) rfl))) (kk (e1.trans e4) k) (flat_iT a)
    · rw [if_neg hb] at hd
      cases hd
  · by_cases hb : waysM sz dr ≤ 512
    · rw [if_pos hb] at hx
      cases hx
    · rw [if_neg hb] at k hx
      cases hx
      exact k
end
end EH

set_option Elab.async false
set_option linter.all false
set_option maxRecDepth 100000
set_option maxHeartbeats 4000000
namespace EH
open PySem PySem.Spec PyProof.Rows L2 Evl
abbrev sT (l : List Nat) : Str := ⟨l.toArray⟩
theorem sT_len (l : List Nat) : (sT l).length = l.length := by simp [sT, Str.length]
theorem joinL_one : ∀ l : List Nat, TL.joinL [] (l.map fun c => [c]) = l
  | [] => rfl
  | [a] => rfl
  | a :: b :: r => by
    show [a] ++ ([] ++ TL.joinL [] ((b :: r).map fun c => [c])) = _
    rw [joinL_one (b :: r)]
    rfl
theorem join_chars (l : List Nat) : Txt.join (sT []) (l.map fun c => sT [c]) = sT l := by
  have e := SX.join_S [] (l.map fun c => [c])
  rw [List.map_map, joinL_one] at e
  exact e
theorem lens_chars (l : List Nat) : ((l.map fun c => sT [c]).map (·.length)).sum = l.length := by
  induction l with
  | nil => rfl
  | cons a r ih =>
    simp only [List.map_cons, List.sum_cons, List.length_cons, ih]
    show (1 : Nat) + _ = _
    omega
abbrev rJoinT (K : PySem.W.Frag) : V → List V → Hp → VK → Prop := fun x xs H Q => ∃ a p, ∃ ys : List Str, x = .str a ∧ xs = [.ref p] ∧ (SqL K H p (ys.map V.str) ∨ SqT K H p (ys.map V.str)) ∧ (ys.map (·.length)).sum + ys.length * a.length ≤ 16777216 ∧ Q (.str (Txt.join a ys)) H
abbrev rSplitT : V → List V → Hp → VK → Prop := fun x xs H Q => ∃ a b, x = .str a ∧ xs = [.str b] ∧ (b.length == 0) = false ∧ a.length + 2 ≤ sizeLine ∧ rNewStrs (Txt.split a b) H Q
abbrev rPartT : V → List V → Hp → VK → Prop := fun x xs H Q => ∃ a b, x = .str a ∧ xs = [.str b] ∧ (b.length == 0) = false ∧ a.length ≤ sizeLine ∧ ∀ p, H p = none → Q (.ref p) (upd H p (.tup [.str (Txt.partition a b).1, .str (Txt.partition a b).2.1, .str (Txt.partition a b).2.2]))
abbrev rSix : V → List V → Hp → VK → Prop := fun x xs H Q => ∃ a b i rest, x = .str a ∧ xs = [.str b] ∧ Builtin.Str.occurrences a b 0 a.length 1 = i :: rest ∧ Q (.int (i : Nat)) H
abbrev rInS : R2 := fun x y H Q => ∃ (c : Nat) (z : Str), x = .str ⟨#[c]⟩ ∧ y = .str z ∧ Q (.bl (decide (c ∈ z.cps.toList))) H
theorem pe_six {X : Cx} {o e : Expr} {to te : TE} {apos pos : Pos} (ho : PE X o to) (he : PE X e te) (hs : starEach [e] X.env = [(false, eval e X.env)] := by rfl) (hbase : attributeBase o "index" X.env (eval o X.env) = eval o X.env := by rfl) (hline : (apos.endLine == pos.line) = true := by rfl) :
    PE X (.Call (.Attribute o "index" apos) [e] [] pos) (tM1 rSix to te) := pe_m1 F.slot_str_index F.type_str_index mt_sindex ho he hs hbase hline
section
variable {K : PySem.W.Frag} {σ : L2.St} {H H1 H' : Hp} {ta tb tc te tl : TE} {t tt : TT} {a b c d : PyData} {v : V} {es ds : List PyData} {vs : List Nat} {j : Nat} {z y : Str}
theorem en_m1 {r : V → List V → Hp → VK → Prop} (ha : EvD K ta σ H (.str z)) (hb : EvD K tb σ H d) (hr : ∀ H2 y, Dp K H2 y d → ∀ Q : VK, (∀ v H3, Ex H2 H3 → New K H2 H3 v c → Q v H3) → r (.str z) [y] H2 Q) : EvN K (tM1 r ta tb) σ H c := fun H1 e Q q =>
  ha H1 e _ fun v H2 e2 dv => ⟨⟨z, dp_str dv⟩, hb H2 (e.trans e2) _ fun u H3 e3 du => by
    rw [dp_str dv]
    exact hr H3 u du Q fun w H4 e4 n => q w H4 ((e2.trans e3).trans e4) (n.back (e2.trans e3))⟩
theorem ed_join {ys : List Str} (ha : EvD K ta σ H (.str z)) (hb : EvD K tb σ H (.list (ys.map PyData.str))) (hz : (ys.map (·.length)).sum + ys.length * z.length ≤ 16777216) : EvD K (tM1 (rJoinT K) ta tb) σ H (.str (Txt.join z ys)) :=
  (en_m1 ha hb fun H2 y dy Q q => by
    obtain ⟨p, xs, rfl, hs, hx⟩ := dp_lst dy
    rw [dpa_strs hx] at hs
    exact ⟨z, p, ys, rfl, rfl, .inl hs, hz, q _ H2 (Ex.refl H2) (Dp.str _)⟩).toD
theorem en_split (ha : EvD K ta σ H (.str z)) (hb : EvD K tb σ H (.str y)) (hy : (y.length == 0) = false) (hz : z.length ≤ 1000) : EvN K (tM1 rSplitT ta tb) σ H (.list ((Txt.split z y).map PyData.str)) :=
  en_m1 ha hb fun H2 u du Q q => by
    rw [dp_str du]
    exact ⟨z, y, rfl, rfl, hy, by rw [sizeLine_eq]; omega, fun p hp => q _ _ (Ex.new hp) ⟨p, _, rfl, hp, upd_same, dpa_str _⟩⟩
theorem ed_part (ha : EvD K ta σ H (.str z)) (hb : EvD K tb σ H (.str y)) (hy : (y.length == 0) = false) (hz : z.length ≤ 1000) : EvD K (tM1 rPartT ta tb) σ H (.tuple [.str (Txt.partition z y).1, .str (Txt.partition z y).2.1, .str (Txt.partition z y).2.2]) :=
  (en_m1 ha hb fun H2 u du Q q => by
    rw [dp_str du]
    exact ⟨z, y, rfl, rfl, hy, by rw [sizeLine_eq]; omega, fun p hp => q _ _ (Ex.new hp) (Dp.tup upd_same (.cons (.str _) (.cons (.str _) (.cons (.str _) .nil))))⟩).toD
theorem ed_six {i : Nat} {rest : List Nat} (ha : EvD K ta σ H (.str z)) (hb : EvD K tb σ H (.str y)) (h : Builtin.Str.occurrences z y 0 z.length 1 = i :: rest) : EvD K (tM1 rSix ta tb) σ H (.int (i : Int)) :=
  (en_m1 ha hb fun H2 u du Q q => by
    rw [dp_str du]
    exact ⟨z, y, i, rest, rfl, rfl, h, q _ H2 (Ex.refl H2) (Dp.int _)⟩).toD
theorem rv_inS {k : Nat} : RvD K rInS (.str (sT [k])) (.str z) (.bool (decide (k ∈ z.cps.toList))) := fun H x u dx du Q q => by
  rw [dp_str dx, dp_str du]
  exact ⟨k, z, rfl, rfl, q _ H (Ex.refl H) (.bl _)⟩
/-- text or other -/
theorem ed_orS (ha : EvD K ta σ H (.str z)) (hb : EvD K tb σ H (.str y)) (hz : z.length ≤ 1000) : EvD K (tOrT K ta tb) σ H (.str (if z.length = 0 then y else z)) := fun H1 e Q q =>
  ha H1 e _ fun v H2 e2 dv => ⟨((z.length : Int) != 0), by rw [dp_str dv]; exact ⟨by rw [sizeLine_eq]; omega, rfl⟩, by
    by_cases h : z.length = 0
    · rw [if_pos h] at q
      have hc : ((z.length : Int) != 0) = false := by rw [h]; rfl
      rw [hc]
      exact hb H2 (e.trans e2) Q fun w H3 e3 dw => q w H3 (e2.trans e3) dw
    · rw [if_neg h] at q
      have hc : ((z.length : Int) != 0) = true := by
        rw [bne_iff_ne]
        omega
      rw [hc]
      exact q v H2 e2 dv⟩
theorem ed_lenS (h : EvD K te σ H (.str z)) (hz : z.length ≤ 100000) : EvD K (tCB (rLn K) (tCons te tNil)) σ H (.int (z.length : Int)) := (en_cb (eda_cons h eda_nil) (rc_lenS hz)).toD
theorem rv_addS (hz : z.length + y.length ≤ 100000) : RvD K (fun x u H Q => ∃ i j, x = .str i ∧ u = .str j ∧ i.length + j.length ≤ sizeLine ∧ Q (.str (i ++ j)) H) (.str z) (.str y) (.str (z ++ y)) := fun H x u dx du Q q => by
  rw [dp_str dx, dp_str du]
  exact ⟨z, y, rfl, rfl, sz_of hz, q _ H (Ex.refl H) (.str _)⟩
theorem q_when {b : Bool} {D : Ends} {tu tz : TS} (h : EvT t σ H b) (h1 : b = true → ∀ H1, Ex H H1 → tu { D with nx := tz D } σ H1) (h2 : b = false → ∀ H1, Ex H H1 → tz D σ H1) : tSeq (tIfS t tu tNext) tz D σ H := s_when (D := { D with nx := tz D }) h h1 h2
/-- over a text's signs -/
theorem en_lcS (p : Nat → Bool) (f : Nat → PyData) (h : EvD K tl σ H (.str z)) (hz : z.length ≤ 40000) (hw : ∀ x, wipe ((wipe σ vs).set j (some x)) vs = wipe σ vs)
    (ht : ∀ k ∈ z.cps.toList, ∀ H1, Ex H H1 → EvT tt ((wipe σ vs).set j (some (.str (sT [k])))) H1 (p k)) (he : ∀ k ∈ z.cps.toList, p k = true → ∀ H1, Ex H H1 → EvD K te ((wipe σ vs).set j (some (.str (sT [k])))) H1 (f k)) (hf : ∀ k ∈ z.cps.toList, p k = true → flat (f k) = true) :
    EvN K (tLc (iStr tl) (gName j) tt te vs) σ H (.list ((z.cps.toList.filter p).map f)) := fun H0 e0 Q q => h H0 e0 _ fun v H1 e1 dv => by
  rw [dp_str dv]
  have hn : z.cps.size = z.cps.toList.length := by simp
  have hz' : z.cps.toList.length ≤ 40000 := by rw [← hn]; exact hz
  refine ⟨z, rfl, fun Dl hD => lc_it walk_str (fun i H' => Acc K H1 Dl (((z.cps.toList.take i).filter p).map f) H') (acc_nil hD) (fun _ _ _ _ => True.intro) (fun i x H' H2 hi pa y => ?_) (fun H' pa => ?_)⟩
  · obtain ⟨rfl, k, hk, rfl⟩ := y
    have hk' : z.cps.toList[i]? = some k := by rw [Array.getElem?_toList]; exact hk
    have hm : k ∈ z.cps.toList := List.mem_of_getElem? hk'
    refine ⟨hw _, acc_turn pa ?_ (ht k hm H1 (e0.trans e1)) (fun hp => ⟨he k hm hp H1 (e0.trans e1), hf k hm hp⟩) fun H3 q3 => ?_⟩
    · rw [List.length_map]
      have := List.length_filter_le p (z.cps.toList.take i)
      rw [List.length_take] at this
      omega
    · rw [take_snoc hk', List.filter_append, List.map_append]
      cases hp : p k with
      | true =>
        rw [hp] at q3
        simp only [List.filter_cons, hp, if_true, List.filter_nil, List.map_cons, List.map_nil]
        exact q3
      | false =>
        rw [hp] at q3
        simp only [List.filter_cons, hp, List.filter_nil, Bool.false_eq_true, if_false, List.map_nil, List.append_nil]
        exact q3
  · rw [hn, List.take_length] at pa
    exact q _ H' (e1.trans pa.2.1) ((acc_new pa).back e1)
theorem en_lcSa (f : Nat → PyData) (h : EvD K tl σ H (.str z)) (hz : z.length ≤ 40000) (hw : ∀ x, wipe ((wipe σ vs).set j (some x)) vs = wipe σ vs)
    (he : ∀ k ∈ z.cps.toList, ∀ H1, Ex H H1 → EvD K te ((wipe σ vs).set j (some (.str (sT [k])))) H1 (f k)) (hf : ∀ k ∈ z.cps.toList, flat (f k) = true) :
    EvN K (tLc (iStr tl) (gName j) tYes te vs) σ H (.list (z.cps.toList.map f)) := by
  have q := en_lcS (tt := tYes) (K := K) (te := te) (vs := vs) (j := j) (fun _ => true) f h hz hw (fun _ _ _ _ => et_yes) (fun k hk _ => he k hk) (fun k hk _ => hf k hk)
  rw [filter_yes] at q
  exact q
/-- zip of two tuples -/
theorem walk_zipT {a b : Addr} {xs ys : List V} {n : Nat} (hn : n = min xs.length ys.length) : Walk (RZ.ItzT K a b) n (fun H => SqT K H a xs ∧ SqT K H b ys) (YPair (fun i => xs[i]?) (fun i => ys[i]?)) := by
  subst hn
  constructor
  · intro i H hi q
    have h1 : i < xs.length := by omega
    have h2 : i < ys.length := by omega
    exact ⟨xs, ys, xs[i], ys[i], q.1, q.2, List.getElem?_eq_getElem h1, List.getElem?_eq_getElem h2⟩
  · intro H q
    exact ⟨xs, ys, q.1, q.2, by omega⟩
  · intro i H v H' _ q y
    obtain ⟨T, x, u, e1, e2, e3, e4, e5⟩ := y
    exact ⟨T, x, u, e1, e2, e3, e4 xs q.1, e5 ys q.2⟩
theorem en_lcZ {j1 j2 : Nat} {fs : List PyData} {ta : TA} (f : PyData → PyData → PyData) (h : EvDA K ta σ H [.tuple es, .tuple fs]) (hz : es.length ≤ 40000) (hw : ∀ x y, wipe (((wipe σ vs).set j1 (some x)).set j2 (some y)) vs = wipe σ vs)
    (he : ∀ e ∈ es, ∀ g ∈ fs, ∀ v u H1, Ex H H1 → Dp K H1 v e → Dp K H1 u g → EvD K tb (((wipe σ vs).set j1 (some v)).set j2 (some u)) H1 (f e g)) (hf : ∀ e ∈ es, ∀ g ∈ fs, flat (f e g) = true) :
    EvN K (tLc (RZ.iZipA K ta) (gTup K 2 (gCons (gName j1) (gCons (gName j2) gNil))) tYes tb vs) σ H (.list ((es.zip fs).map fun p => f p.1 p.2)) := fun H0 e0 Q q => h H0 e0 _ fun us H1 e1 dus => by
  obtain ⟨v1, v2, rfl, d1, d2⟩ := dpa2 dus
  obtain ⟨a, xs, rfl, hs, ha⟩ := dp_tupR d1
  obtain ⟨b, ys, rfl, hs2, ha2⟩ := dp_tupR d2
  have l1 := dpa_len ha
  have l2 := dpa_len ha2
  refine ⟨a, b, xs, ys, rfl, .inr ⟨st_of hs, st_of hs2, fun Dl hD => lc_it (walk_zipT rfl) (fun i H' => Acc K H1 Dl (((es.zip fs).take i).map fun p => f p.1 p.2) H') (acc_nil hD) (fun i H' _ p => ⟨st_of (p.2.1 _ _ hs), st_of (p.2.1 _ _ hs2)⟩) (fun i x H' H2 hi pa y => ?_) (fun H' pa => ?_)⟩⟩
  · obtain ⟨T, x1, x2, rfl, hT, rfl, q1, q2⟩ := y
    obtain ⟨e, hei, de⟩ := dpa_getV ha q1
    obtain ⟨g, hgi, dg⟩ := dpa_getV ha2 q2
    have hzi : (es.zip fs)[i]? = some (e, g) := by rw [List.getElem?_zip_eq_some]; exact ⟨hei, hgi⟩
    refine ⟨T, _, rfl, st_of upd_same, rfl, _, _, rfl, _, _, rfl, rfl, hw _ _, ?_⟩
    refine acc_turn (b := true) (acc_mono pa (Ex.new hT)) ?_ et_yes (fun _ => ⟨he e (List.mem_of_getElem? hei) g (List.mem_of_getElem? hgi) x1 x2 H1 (e0.trans e1) de dg, hf e (List.mem_of_getElem? hei) g (List.mem_of_getElem? hgi)⟩) fun H3 q3 => ?_
    · rw [List.length_map, List.length_take, List.length_zip]
      omega
    · rw [take_snoc hzi, List.map_append]
      exact q3
  · rw [List.take_of_length_le (by rw [List.length_zip, ← l1, ← l2]; exact Nat.le_refl _)] at pa
    exact q _ H' (e1.trans pa.2.1) ((acc_new pa).back e1)
end
end EH

set_option Elab.async false
set_option linter.all false
set_option maxRecDepth 100000
set_option maxHeartbeats 4000000
namespace EH
open PySem PySem.Spec PyProof.Rows L2 Evl
def sg (h : Int) : Nat := if h < 0 then 46 else 48 + h.toNat
def noneT : Str := "none"
def dtxt (d : List Int) : Str := if d = [] then noneT else sT (d.map sg)
def fig (n : Nat) : Str := sT [48 + n]
def commaT : Str := ","
def ntxt (l : List Nat) : Str := if l = [] then noneT else Txt.join commaT (l.map fig)
def HuOk (d : List Int) : Prop := d.length ≤ 40 ∧ ∀ h ∈ d, -1 ≤ h ∧ h ≤ 3
def NuOk (l : List Nat) : Prop := l.length ≤ 40 ∧ ∀ n ∈ l, n ≤ 9
theorem hu_cases {h : Int} (a : -1 ≤ h ∧ h ≤ 3) : h = -1 ∨ h = 0 ∨ h = 1 ∨ h = 2 ∨ h = 3 := by omega
theorem sg_at {h : Int} (a : -1 ≤ h ∧ h ≤ 3) : atI (("0123." : Str)).cps.toList h = some (sg h) := by
  rcases hu_cases a with rfl | rfl | rfl | rfl | rfl <;> decide +kernel
theorem sg_in {h : Int} (a : -1 ≤ h ∧ h ≤ 3) : decide (sg h ∈ (("0123." : Str)).cps.toList) = true := by
  rcases hu_cases a with rfl | rfl | rfl | rfl | rfl <;> decide +kernel
theorem sg_str {h : Int} (a : 0 ≤ h ∧ h ≤ 3) : (Str.ofString (toString h)) = sT [sg h] := by
  rcases hu_cases (h := h) ⟨by omega, a.2⟩ with rfl | rfl | rfl | rfl | rfl
  · omega
  all_goals decide +kernel
theorem fig_str : ∀ n, n ≤ 9 → Str.ofString (toString ((n : Nat) : Int)) = fig n := by
  have h : ∀ n ∈ List.range 10, Str.ofString (toString ((n : Nat) : Int)) = fig n := by decide +kernel
  exact fun n hn => h n (List.mem_range.mpr (by omega))
theorem fig_int : ∀ n, n ≤ 9 → PySem.intText? (fig n) = some (n : Int) := by
  have h : ∀ n ∈ List.range 10, PySem.intText? (fig n) = some (n : Int) := by decide +kernel
  exact fun n hn => h n (List.mem_range.mpr (by omega))
theorem fig_in : ∀ n, n ≤ 9 → decide (48 + n ∈ (("0123456789" : Str)).cps.toList) = true := by
  have h : ∀ n ∈ List.range 10, decide (48 + n ∈ (("0123456789" : Str)).cps.toList) = true := by decide +kernel
  exact fun n hn => h n (List.mem_range.mpr (by omega))
theorem emptyT : ("" : Str) = sT [] := by decide +kernel
theorem dtxt_len {d : List Int} (h : HuOk d) : (dtxt d).length ≤ 40 := by
  unfold dtxt
  split
  · decide +kernel
  · rw [sT_len, List.length_map]
    exact h.1
theorem orNone (l : List Nat) : (if (sT l).length = 0 then noneT else sT l) = if l = [] then noneT else sT l := by
  rw [sT_len]
  cases l <;> rfl
theorem dtxt_or (d : List Int) : (if (Txt.join "" (d.map fun h => sT [sg h])).length = 0 then noneT else Txt.join "" (d.map fun h => sT [sg h])) = dtxt d := by
  have e : d.map (fun h => sT [sg h]) = (d.map sg).map fun c => sT [c] := by rw [List.map_map]; rfl
  rw [emptyT, e, join_chars, orNone]
  unfold dtxt
  cases d <;> rfl
theorem sum_ones : ∀ l : List Nat, (l.map fun _ => (1 : Nat)).sum = l.length
  | [] => rfl
  | a :: r => by
    rw [List.map_cons, List.sum_cons, sum_ones r, List.length_cons]
    omega
theorem glued_len (l : List Nat) : (Txt.join commaT (l.map fig)).length ≤ 2 * l.length := by
  rw [TL.join_eq]
  have h := StrLaws.join_length_le commaT (l.map fig)
  have e : (l.map fig).map (·.length) = l.map fun _ => 1 := by
    rw [List.map_map]
    rfl
  have s := sum_ones l
  rw [e, s, List.length_map] at h
  have c : commaT.length = 1 := by decide +kernel
  rw [c] at h
  omega
theorem glued_pos (a : Nat) (r : List Nat) : (Txt.join commaT ((a :: r).map fig)).length ≠ 0 := by
  have e : (a :: r).map fig = ((a :: r).map fun n => [48 + n]).map SX.S := by rw [List.map_map]; rfl
  have c : commaT = SX.S [44] := by decide +kernel
  rw [e, c, SX.join_S, SX.S_len]
  cases r with
  | nil =>
    show ([48 + a]).length ≠ 0
    simp
  | cons b r =>
    show ([48 + a] ++ _).length ≠ 0
    simp
theorem ntxt_or (l : List Nat) : (if (Txt.join commaT (l.map fig)).length = 0 then noneT else Txt.join commaT (l.map fig)) = ntxt l := by
  unfold ntxt
  cases l with
  | nil => decide +kernel
  | cons a r => rw [if_neg (glued_pos a r), if_neg (by simp)]
theorem ntxt_len {l : List Nat} (h : l.length ≤ 40) : (ntxt l).length ≤ 80 := by
  unfold ntxt
  split
  · decide +kernel
  · have := glued_len l
    omega
theorem ntxt_split {l : List Nat} (hl : l ≠ []) (h : ∀ n ∈ l, n ≤ 9) : Txt.split (ntxt l) commaT = l.map fig := by
  unfold ntxt
  rw [if_neg hl]
  refine TL.split_join (y := commaT) (s := 44) (S := []) (by decide +kernel) (by decide +kernel) (fun e => hl (List.map_eq_nil_iff.mp e)) fun p hp => ?_
  obtain ⟨n, hn, rfl⟩ := List.mem_map.mp hp
  show 44 ∉ [48 + n]
  simp
  omega
theorem sz_nu {sz : List Nat} (ok : SzOk sz) : NuOk sz := ⟨by have := ok.hi; omega, fun n hn => by have := ok.all n hn; omega⟩
section
variable {P : Program} {w : World} {K : PySem.W.Frag} {mg : Str → Option Value} {base : Heap}
theorem ed_allT {α : Type} {σ : L2.St} {H : Hp} {te : TE} {l : List α} {f : α → Bool} {b : Bool} (h : EvN K te σ H (.list (l.map fun i => .bool (f i)))) (e : l.all f = b) : EvD K (tCB (rAll K) (tCons te tNil)) σ H (.bool b) := by
  rw [map_bools] at h
  have q := ed_all h
  rw [all_id, e] at q
  exact q
theorem ed_m1 {σ : L2.St} {H : Hp} : EvD K (tUn (rU fun i => .int (-i)) (tC (.int 1))) σ H (.int (-1)) := fun H1 e Q q => ⟨1, rfl, q _ H1 (Ex.refl H1) (.int _)⟩
def sp_strip_text (K : PySem.W.Frag) : Sp := spD K fun ds d => ∃ ns, ds = [iT ns] ∧ StOk ns ∧ d = .str (dtxt ns)
theorem ln_strip_text : ∀ vs H Q E, sp_strip_text K vs H Q E → vs.length = 1 := spD_len fun ds d ⟨_, e, _⟩ => by rw [e]; rfl
theorem sc_strip_text : FnScope ["strip", "hue"] ["strip"] (defScope (top 77)) := ⟨rfl, rfl, rfl, by decide +kernel, rfl, by decide +kernel, by decide +kernel⟩
theorem df_strip_text (T : Txt K mg) (F : FnT K mg "strip_text" (top 77)) (D_need_strip : Df P w K mg base "need_strip" 4 ["strip"] (sp_need_strip K)) : Df P w K mg base "strip_text" 5 ["strip"] (sp_strip_text K) := by
  have nd := sc_strip_text.nd
  refine df_mk (k := 4) F sc_strip_text (fun _ _ _ _ _ _ us hl => match us, hl with | [_], _ => rfl) (ln_strip_text) (fun f cdv A outer s H vs Q E hr h => ?_)
  refine ⟨_, (pss_cons (ps_expr (pe_d D_need_strip (hr.mono (by decide)) rfl (pa_cons (pv 0) pa_nil)))
      (pss_one (ps_ret (pe_orT (pe_join pe_str (pe_lc (own := [("hue", 1)]) (g := gName 1) (tt := tYes) rfl nd (pi_tup (pv 0)) (blkOk_by (N := ["strip", "hue"]) (sc := defScope (top 77)) (by decide +kernel)) (fun _ _ _ _ _ => (pg_name (i := 1) nd rfl (by first | exact Or.inl rfl | exact Or.inr rfl))) (fun _ _ _ _ _ => pts_nil) (fun _ _ _ _ _ => (pe_callTy call_str_int rfl T.b_str (by decide +kernel) (pa_cons (pv 1) pa_nil))))) (pe_one (pe_gs T.k_EMPTY rfl)))))), ?_⟩
  obtain ⟨ds, d, hv, ⟨ns, rfl, ok, rfl⟩, k⟩ := h
  obtain ⟨v, rfl, h1⟩ := dpa1 hv
  have hl := ok.1
  refine r_drop (K := K) (d := .none) (en_call (eda_cons (ed_var h1) eda_nil) ⟨ns, rfl, ok, rfl⟩).toD fun H1 e1 => ?_
  refine r_retD (K := K) ?_ (kk e1 k)
  rw [← dtxt_or]
  refine ed_orS (ed_join ed_str ?_ ?_) ed_str ?_
  · rw [List.map_map]
    exact (en_lcI (fun h => .str (sT [sg h])) (ed_var (dpx e1 h1)) (by omega) (fun _ => rfl) (fun i hi H2 e2 => ((en_cb (eda_cons (ed_var (.int i)) eda_nil) (rc_strI (by
      have := ok.2 i hi
      have h4 : i.natAbs < 4 := by omega
      have : i.natAbs.log2 ≤ i.natAbs := Nat.log2_le_self _
      omega))).toD.eq (congrArg PyData.str (sg_str (ok.2 i hi))))) (fun _ _ => rfl)).toD
  · have e : ns.map (fun h => sT [sg h]) = (ns.map sg).map fun c => sT [c] := by rw [List.map_map]; rfl
    rw [e, lens_chars]
    simp
    have : (("" : Str)).length = 0 := by decide +kernel
    rw [this]
    omega
  · have e : ns.map (fun h => sT [sg h]) = (ns.map sg).map fun c => sT [c] := by rw [List.map_map]; rfl
    rw [emptyT, e, join_chars, sT_len, List.length_map]
    omega
def sp_draft_text (K : PySem.W.Frag) : Sp := spD K fun ds d => ∃ dr, ds = [iT dr] ∧ HuOk dr ∧ d = .str (dtxt dr)
theorem ln_draft_text : ∀ vs H Q E, sp_draft_text K vs H Q E → vs.length = 1 := spD_len fun ds d ⟨_, e, _⟩ => by rw [e]; rfl
theorem sc_draft_text : FnScope ["draft", "hue"] ["draft"] (defScope (top 78)) := ⟨rfl, rfl, rfl, by decide +kernel, rfl, by decide +kernel, by decide +kernel⟩
theorem df_draft_text (T : Txt K mg) (F : FnT K mg "draft_text" (top 78)) (D_is_between : Df P w K mg base "is_between" 2 ["thing", "least", "most"] (sp_is_between K)) : Df P w K mg base "draft_text" 3 ["draft"] (sp_draft_text K) := by
  have nd := sc_draft_text.nd
  refine df_mk (k := 2) F sc_draft_text (fun _ _ _ _ _ _ us hl => match us, hl with | [_], _ => rfl) (ln_draft_text) (fun f cdv A outer s H vs Q E hr h => ?_)
  refine ⟨_, (pss_cons (ps_if (PW.pt (pw_or (pt_not (pt_val (pe_callB (r := rIsi K) call_isi rfl T.b_isinstance (by decide +kernel) (pa_cons (pv 0) (pa_cons (pe_bltn (v := .ty "tuple") rfl T.b_tuple (by decide +kernel) rfl) pa_nil))))) (pw_or1 (pt_cmpR op_gt (pe_callB (r := rLn K) call_len rfl T.b_len (by decide +kernel) (pa_cons (pv 0) pa_nil)) (pe_gi T.k_MOST_PLACES rfl) (nomark _))))) (pss_one ps_never) pss_nil)
      (pss_cons (ps_if (pt_not (pt_val (pe_callB (r := rAll K) (cr_all rfl) rfl T.b_all (by decide +kernel) (pa_cons (pe_lc (own := [("hue", 1)]) (g := gName 1) (tt := tYes) rfl nd (pi_tup (pv 0)) (blkOk_by (N := ["draft", "hue"]) (sc := defScope (top 78)) (by decide +kernel)) (fun _ _ _ _ _ => (pg_name (i := 1) nd rfl (by first | exact Or.inl rfl | exact Or.inr rfl))) (fun _ _ _ _ _ => pts_nil) (fun _ _ _ _ _ => (pe_d D_is_between (hr.mono (by decide)) rfl (pa_cons (pv 1) (pa_cons (pe_un un_neg pe_int) (pa_cons (pe_op op_sub (pe_gi T.k_HUES rfl) pe_int) pa_nil)))))) pa_nil)))) (pss_one ps_never) pss_nil)
      (pss_one (ps_ret (pe_orT (pe_join pe_str (pe_lc (own := [("hue", 1)]) (g := gName 1) (tt := tYes) rfl nd (pi_tup (pv 0)) (blkOk_by (N := ["draft", "hue"]) (sc := defScope (top 78)) (by decide +kernel)) (fun _ _ _ _ _ => (pg_name (i := 1) nd rfl (by first | exact Or.inl rfl | exact Or.inr rfl))) (fun _ _ _ _ _ => pts_nil) (fun _ _ _ _ _ => (pe_ix ix_str (pe_gs T.k_SIGNS rfl) (pv 1) (fun _ _ => rfl))))) (pe_one (pe_gs T.k_EMPTY rfl))))))), ?_⟩
  obtain ⟨ds, d, hv, ⟨ns, rfl, ok, rfl⟩, k⟩ := h
  obtain ⟨v, rfl, h1⟩ := dpa1 hv
  have hl := ok.1
  refine q_when (b := false) (et_is (et_or (a := false) (et_not (a := true) (et_B (ei_tup (ed_var h1) (flats_int ns)))) (fun _ => et_test (ed_op (ed_lenI (ed_var h1)) ed_int rv_gt))) ?_) (fun e => nomatch e) fun _ H1 e1 => ?_
  · simp only [Bool.false_or, decide_eq_false_iff_not]
    omega
  refine q_when (b := false) (et_not (a := true) (et_B (K := K) (ed_allT (l := ns) (f := fun i => decide (-1 ≤ i) && decide (i ≤ 3)) ?_ ?_))) (fun e => nomatch e) fun _ H2 e2 => ?_
  · exact en_lcI _ (ed_var (dpx e1 h1)) (by omega) (fun _ => rfl) (fun i hi H2 e2 => (en_call (eda_cons (ed_var (.int i)) (eda_cons ed_m1 (eda_cons (ed_op ed_int ed_int rv_sub) eda_nil))) ⟨i, -1, 3, rfl, rfl⟩).toD) (fun _ _ => rfl)
  · exact List.all_eq_true.mpr fun n hn => by
      have := ok.2 n hn
      simp only [Bool.and_eq_true, decide_eq_true_eq]
      omega
  refine r_retD (K := K) ?_ (kk (e1.trans e2) k)
  rw [← dtxt_or]
  refine ed_orS (ed_join ed_str ?_ ?_) ed_str ?_
  · rw [List.map_map]
    exact (en_lcI (fun h => .str (sT [sg h])) (ed_var (dpx (e1.trans e2) h1)) (by omega) (fun _ => rfl) (fun i hi H2 e2 => ed_op ed_str (ed_var (.int i)) (rv_ixS (by decide +kernel) (sg_at (ok.2 i hi)))) (fun _ _ => rfl)).toD
  · have e : ns.map (fun h => sT [sg h]) = (ns.map sg).map fun c => sT [c] := by rw [List.map_map]; rfl
    rw [e, lens_chars]
    simp
    have : (("" : Str)).length = 0 := by decide +kernel
    rw [this]
    omega
  · have e : ns.map (fun h => sT [sg h]) = (ns.map sg).map fun c => sT [c] := by rw [List.map_map]; rfl
    rw [emptyT, e, join_chars, sT_len, List.length_map]
    omega
def sp_numbers_text (K : PySem.W.Frag) : Sp := spD K fun ds d => ∃ l, ds = [nT l] ∧ NuOk l ∧ d = .str (ntxt l)
theorem ln_numbers_text : ∀ vs H Q E, sp_numbers_text K vs H Q E → vs.length = 1 := spD_len fun ds d ⟨_, e, _⟩ => by rw [e]; rfl
theorem lens_fig (l : List Nat) : ((l.map fig).map (·.length)).sum = l.length := by
  have e : l.map fig = (l.map (48 + ·)).map fun c => sT [c] := by rw [List.map_map]; rfl
  rw [e, lens_chars, List.length_map]
theorem sc_numbers_text : FnScope ["numbers", "one"] ["numbers"] (defScope (top 79)) := ⟨rfl, rfl, rfl, by decide +kernel, rfl, by decide +kernel, by decide +kernel⟩
theorem df_numbers_text (T : Txt K mg) (F : FnT K mg "numbers_text" (top 79))  : Df P w K mg base "numbers_text" 1 ["numbers"] (sp_numbers_text K) := by
  have nd := sc_numbers_text.nd
  refine df_mk (k := 0) F sc_numbers_text (fun _ _ _ _ _ _ us hl => match us, hl with | [_], _ => rfl) (ln_numbers_text) (fun f cdv A outer s H vs Q E hr h => ?_)
  refine ⟨_, (pss_one (ps_ret (pe_orT (pe_join pe_str (pe_lc (own := [("one", 1)]) (g := gName 1) (tt := tYes) rfl nd (pi_tup (pv 0)) (blkOk_by (N := ["numbers", "one"]) (sc := defScope (top 79)) (by decide +kernel)) (fun _ _ _ _ _ => (pg_name (i := 1) nd rfl (by first | exact Or.inl rfl | exact Or.inr rfl))) (fun _ _ _ _ _ => pts_nil) (fun _ _ _ _ _ => (pe_callTy call_str_int rfl T.b_str (by decide +kernel) (pa_cons (pv 1) pa_nil))))) (pe_one (pe_gs T.k_EMPTY rfl))))), ?_⟩
  obtain ⟨ds, d, hv, ⟨l, rfl, ok, rfl⟩, k⟩ := h
  obtain ⟨v, rfl, h1⟩ := dpa1 hv
  have hl := ok.1
  refine r_retD (K := K) ?_ k
  rw [← ntxt_or]
  refine ed_orS (ed_join ed_str ?_ ?_) ed_str ?_
  · rw [List.map_map]
    exact (en_lcNa (fun n => .str (fig n)) (ed_var h1) (by omega) (fun _ => rfl) (fun i hi H2 e2 => ((en_cb (eda_cons (ed_var (.int (i : Int))) eda_nil) (rc_strI (by
      have := ok.2 i hi
      have : (i : Int).natAbs.log2 ≤ (i : Int).natAbs := Nat.log2_le_self _
      omega))).toD.eq (congrArg PyData.str (fig_str i (ok.2 i hi))))) (fun _ _ => rfl)).toD
  · rw [lens_fig, List.length_map]
    have : commaT.length = 1 := by decide +kernel
    rw [this]
    omega
  · have := glued_len l
    omega
def sp_sizes_text (K : PySem.W.Frag) : Sp := spD K fun ds d => ∃ sz, ds = [nT sz] ∧ SzOk sz ∧ d = .str (ntxt sz)
theorem ln_sizes_text : ∀ vs H Q E, sp_sizes_text K vs H Q E → vs.length = 1 := spD_len fun ds d ⟨_, e, _⟩ => by rw [e]; rfl
theorem sc_sizes_text : FnScope ["sizes"] ["sizes"] (defScope (top 80)) := ⟨rfl, rfl, rfl, by decide +kernel, rfl, by decide +kernel, by decide +kernel⟩
theorem df_sizes_text (T : Txt K mg) (F : FnT K mg "sizes_text" (top 80)) (D_need_sizes : Df P w K mg base "need_sizes" 4 ["sizes"] (sp_need_sizes K)) (D_numbers_text : Df P w K mg base "numbers_text" 1 ["numbers"] (sp_numbers_text K)) : Df P w K mg base "sizes_text" 5 ["sizes"] (sp_sizes_text K) := by
  have nd := sc_sizes_text.nd
  refine df_mk (k := 4) F sc_sizes_text (fun _ _ _ _ _ _ us hl => match us, hl with | [_], _ => rfl) (ln_sizes_text) (fun f cdv A outer s H vs Q E hr h => ?_)
  refine ⟨_, (pss_cons (ps_expr (pe_d D_need_sizes (hr.mono (by decide)) rfl (pa_cons (pv 0) pa_nil)))
      (pss_one (ps_ret (pe_d D_numbers_text (hr.mono (by decide)) rfl (pa_cons (pv 0) pa_nil))))), ?_⟩
  obtain ⟨ds, d, hv, ⟨sz, rfl, ok, rfl⟩, k⟩ := h
  obtain ⟨v, rfl, h1⟩ := dpa1 hv
  refine r_drop (K := K) (d := .none) (en_call (eda_cons (ed_var h1) eda_nil) ⟨sz, rfl, ok, rfl⟩).toD fun H1 e1 => ?_
  exact r_retD (K := K) (en_call (eda_cons (ed_var (dpx e1 h1)) eda_nil) ⟨sz, rfl, sz_nu ok, rfl⟩).toD (kk e1 k)
/-! ### lots -/
structure LotOk (l : List Nat) : Prop where
  nu : NuOk l
  up : ∀ p ∈ l.zip (l.drop 1), p.1 < p.2
theorem lot_up : ∀ {l : List Nat}, l.Pairwise (· < ·) → ∀ p ∈ l.zip (l.drop 1), p.1 < p.2
  | [], _, p, hp => by simp at hp
  | [a], _, p, hp => by simp at hp
  | a :: b :: r, h, p, hp => by
    have h' := List.pairwise_cons.mp h
    have hp' : p ∈ (a, b) :: (b :: r).zip ((b :: r).drop 1) := hp
    rcases List.mem_cons.mp hp' with e | hp
    · rw [e]
      exact h'.1 b List.mem_cons_self
    · exact lot_up h'.2 p hp
theorem open_lot {sz : List Nat} (ok : SzOk sz) (dr : List Int) (p : Nat) : LotOk (openM sz dr p) := by
  refine ⟨⟨Nat.le_trans (open_len sz dr p) (by have := ok.hi; omega), fun n hn => by have := open_mem hn; have := ok.hi; omega⟩, lot_up ?_⟩
  exact (List.pairwise_lt_range).filter _
def sp_is_lot (K : PySem.W.Frag) : Sp := spD K fun ds d => ∃ l, ds = [nT l] ∧ LotOk l ∧ d = .bool true
theorem ln_is_lot : ∀ vs H Q E, sp_is_lot K vs H Q E → vs.length = 1 := spD_len fun ds d ⟨_, e, _⟩ => by rw [e]; rfl
def ltD : PyData → PyData → PyData
  | .int i, .int j => .bool (decide (i < j))
  | _, _ => .bool true
theorem sc_is_lot : FnScope ["thing", "one", "other"] ["thing"] (defScope (top 70)) := ⟨rfl, rfl, rfl, by decide +kernel, rfl, by decide +kernel, by decide +kernel⟩
theorem df_is_lot (T : Txt K mg) (F : FnT K mg "is_lot" (top 70)) (D_is_between : Df P w K mg base "is_between" 2 ["thing", "least", "most"] (sp_is_between K)) : Df P w K mg base "is_lot" 3 ["thing"] (sp_is_lot K) := by
  have nd := sc_is_lot.nd
  refine df_mk (k := 2) F sc_is_lot (fun _ _ _ _ _ _ us hl => match us, hl with | [_], _ => rfl) (ln_is_lot) (fun f cdv A outer s H vs Q E hr h => ?_)
  refine ⟨_, (pss_cons (ps_if (PW.pt (pw_or (pt_not (pt_val (pe_callB (r := rIsi K) call_isi rfl T.b_isinstance (by decide +kernel) (pa_cons (pv 0) (pa_cons (pe_bltn (v := .ty "tuple") rfl T.b_tuple (by decide +kernel) rfl) pa_nil))))) (pw_or1 (pt_not (pt_val (pe_callB (r := rAll K) (cr_all rfl) rfl T.b_all (by decide +kernel) (pa_cons (pe_lc (own := [("one", 1)]) (g := gName 1) (tt := tYes) rfl nd (pi_tup (pv 0)) (blkOk_by (N := ["thing", "one", "other"]) (sc := defScope (top 70)) (by decide +kernel)) (fun _ _ _ _ _ => (pg_name (i := 1) nd rfl (by first | exact Or.inl rfl | exact Or.inr rfl))) (fun _ _ _ _ _ => pts_nil) (fun _ _ _ _ _ => (pe_d D_is_between (hr.mono (by decide)) rfl (pa_cons (pv 1) (pa_cons pe_int (pa_cons (pe_gi T.k_MOST_PLACE rfl) pa_nil)))))) pa_nil))))))) (pss_one (ps_ret pe_bl)) pss_nil)
      (pss_one (ps_ret (pe_callB (r := rAll K) (cr_all rfl) rfl T.b_all (by decide +kernel) (pa_cons (pe_lc (own := [("one", 1), ("other", 2)]) (g := gTup K 2 (gCons (gName 1) (gCons (gName 2) gNil))) (tt := tYes) rfl nd (RZ.pi_zipA rfl T.b_zip (pa_cons (pv 0) (pa_cons (pe_slice (r := rSlA K) sl_tupA (pv 0) (po_some pe_int) po_none) pa_nil))) (blkOk_by (N := ["thing", "one", "other"]) (sc := defScope (top 70)) (by decide +kernel)) (fun _ _ _ _ _ => (pg_tup rfl (pgs_cons (pg_name (i := 1) nd rfl (by first | exact Or.inl rfl | exact Or.inr rfl)) (pgs_cons (pg_name (i := 2) nd rfl (by first | exact Or.inl rfl | exact Or.inr rfl)) pgs_nil)))) (fun _ _ _ _ _ => pts_nil) (fun _ _ _ _ _ => (pe_cmpR op_lt (pv 1) (pv 2) (nomark _)))) pa_nil))))), ?_⟩
  obtain ⟨ds, d, hv, ⟨l, rfl, ok, rfl⟩, k⟩ := h
  obtain ⟨v, rfl, h1⟩ := dpa1 hv
  have hl := ok.nu.1
  refine q_when (b := false) (et_or (a := false) (b := false) (et_not (a := true) (et_B (ei_tup (ed_var h1) (flats_int _)))) (fun _ => et_not (a := true) (et_B (K := K) (ed_allT (l := l) (f := fun i => decide ((0 : Int) ≤ i) && decide ((i : Int) ≤ 39)) ?_ ?_)))) (fun e => nomatch e) fun _ H1 e1 => ?_
  · exact en_lcNa _ (ed_var h1) (by omega) (fun _ => rfl) (fun i hi H2 e2 => (en_call (eda_cons (ed_var (.int (i : Int))) (eda_cons ed_int (eda_cons ed_int eda_nil))) ⟨(i : Int), 0, 39, rfl, rfl⟩).toD) (fun _ _ => rfl)
  · exact List.all_eq_true.mpr fun n hn => by
      have := ok.nu.2 n hn
      simp only [Bool.and_eq_true, decide_eq_true_eq]
      omega
  refine r_retD (K := K) (d := .bool true) (ed_allT (l := l.zip (l.drop 1)) (f := fun p => decide ((p.1 : Int) < (p.2 : Int))) ?_ ?_) (kk e1 k)
  · have hx := dpx e1 h1
    have hc : cutD ((toI l).map PyData.int) (some 1) none = (toI (l.drop 1)).map PyData.int := by
      unfold cutD
      have e1 : HT.sIx ((toI l).map PyData.int).length 0 (some 1) = min 1 l.length := by
        rw [iT_len, toI_len]
        rfl
      have e2 : HT.sIx ((toI l).map PyData.int).length ((toI l).map PyData.int).length none = l.length := by
        rw [iT_len, toI_len]
        rfl
      rw [e1, e2]
      unfold toI
      rw [List.map_drop, List.map_drop]
      cases l with
      | nil => rfl
      | cons a r =>
        have : min 1 (a :: r).length = 1 := by simp
        rw [this, List.take_of_length_le]
        simp
    refine (en_lcZ (K := K) (es := (toI l).map PyData.int) (fs := cutD ((toI l).map PyData.int) (some 1) none) ltD (eda_cons (ed_var hx) (eda_cons (ed_slT (ed_var hx) (eo_at (K := K) ed_int) eo_no) eda_nil)) (by rw [iT_len, toI_len]; omega) (fun _ _ => rfl) (fun e he g hg v u H3 e3 dv du => ?_) (fun e he g hg => ?_)).eq ?_
    · rw [hc] at hg
      obtain ⟨i, hi, rfl⟩ := List.mem_map.mp he
      obtain ⟨j, hj, rfl⟩ := List.mem_map.mp hg
      exact ed_op (ed_var dv) (ed_var du) rv_lt
    · rw [hc] at hg
      obtain ⟨i, hi, rfl⟩ := List.mem_map.mp he
      obtain ⟨j, hj, rfl⟩ := List.mem_map.mp hg
      rfl
    · rw [hc]
      unfold toI
      rw [List.map_map, List.map_map, List.zip_map, List.map_map]
      rfl
  · exact List.all_eq_true.mpr fun p hp => by
      have := ok.up p hp
      simp only [decide_eq_true_eq]
      omega
def sp_need_lot (K : PySem.W.Frag) : Sp := spD K fun ds d => ∃ l, ds = [nT l] ∧ LotOk l ∧ d = .none
theorem ln_need_lot : ∀ vs H Q E, sp_need_lot K vs H Q E → vs.length = 1 := spD_len fun ds d ⟨_, e, _⟩ => by rw [e]; rfl
theorem sc_need_lot : FnScope ["lot"] ["lot"] (defScope (top 71)) := ⟨rfl, rfl, rfl, by decide +kernel, rfl, by decide +kernel, by decide +kernel⟩
theorem df_need_lot (T : Txt K mg) (F : FnT K mg "need_lot" (top 71)) (D_is_lot : Df P w K mg base "is_lot" 3 ["thing"] (sp_is_lot K)) : Df P w K mg base "need_lot" 4 ["lot"] (sp_need_lot K) := by
  have nd := sc_need_lot.nd
  refine df_mk (k := 3) F sc_need_lot (fun _ _ _ _ _ _ us hl => match us, hl with | [_], _ => rfl) (ln_need_lot) (fun f cdv A outer s H vs Q E hr h => ?_)
  refine ⟨_, (pss_one (ps_if (pt_not (pt_val (pe_d D_is_lot (hr.mono (by decide)) rfl (pa_cons (pv 0) pa_nil)))) (pss_one ps_never) pss_nil)), ?_⟩
  obtain ⟨ds, d, hv, ⟨l, rfl, ok, rfl⟩, k⟩ := h
  obtain ⟨v, rfl, h1⟩ := dpa1 hv
  exact s_when (b := false) (et_not (a := true) (et_B (en_call (eda_cons (ed_var h1) eda_nil) ⟨l, rfl, ok, rfl⟩).toD)) (fun e => nomatch e) fun _ H1 e1 => k _ _ e1 .non
def sp_lot_text (K : PySem.W.Frag) : Sp := spD K fun ds d => ∃ l, ds = [nT l] ∧ LotOk l ∧ d = .str (ntxt l)
theorem ln_lot_text : ∀ vs H Q E, sp_lot_text K vs H Q E → vs.length = 1 := spD_len fun ds d ⟨_, e, _⟩ => by rw [e]; rfl
theorem sc_lot_text : FnScope ["lot"] ["lot"] (defScope (top 81)) := ⟨rfl, rfl, rfl, by decide +kernel, rfl, by decide +kernel, by decide +kernel⟩
theorem df_lot_text (T : Txt K mg) (F : FnT K mg "lot_text" (top 81)) (D_need_lot : Df P w K mg base "need_lot" 4 ["lot"] (sp_need_lot K)) (D_numbers_text : Df P w K mg base "numbers_text" 1 ["numbers"] (sp_numbers_text K)) : Df P w K mg base "lot_text" 5 ["lot"] (sp_lot_text K) := by
  have nd := sc_lot_text.nd
  refine df_mk (k := 4) F sc_lot_text (fun _ _ _ _ _ _ us hl => match us, hl with | [_], _ => rfl) (ln_lot_text) (fun f cdv A outer s H vs Q E hr h => ?_)
  refine ⟨_, (pss_cons (ps_expr (pe_d D_need_lot (hr.mono (by decide)) rfl (pa_cons (pv 0) pa_nil)))
      (pss_one (ps_ret (pe_d D_numbers_text (hr.mono (by decide)) rfl (pa_cons (pv 0) pa_nil))))), ?_⟩
  obtain ⟨ds, d, hv, ⟨l, rfl, ok, rfl⟩, k⟩ := h
  obtain ⟨v, rfl, h1⟩ := dpa1 hv
  refine r_drop (K := K) (d := .none) (en_call (eda_cons (ed_var h1) eda_nil) ⟨l, rfl, ok, rfl⟩).toD fun H1 e1 => ?_
  exact r_retD (K := K) (en_call (eda_cons (ed_var (dpx e1 h1)) eda_nil) ⟨l, rfl, ok.nu, rfl⟩).toD (kk e1 k)
end
end EH

set_option Elab.async false
set_option linter.all false
set_option maxRecDepth 100000
set_option maxHeartbeats 4000000
namespace EH
open PySem PySem.Spec PyProof.Rows L2 Evl
theorem sg_occ {h : Int} (a : 0 ≤ h ∧ h ≤ 3) : ∃ rest, Builtin.Str.occurrences ("0123." : Str) (sT [sg h]) 0 (("0123." : Str)).length 1 = h.toNat :: rest := by
  rcases hu_cases (h := h) ⟨by omega, a.2⟩ with rfl | rfl | rfl | rfl | rfl
  · omega
  · exact ⟨[], by decide +kernel⟩
  · exact ⟨[], by decide +kernel⟩
  · exact ⟨[], by decide +kernel⟩
  · exact ⟨[], by decide +kernel⟩
theorem sg_dot {h : Int} (a : -1 ≤ h ∧ h ≤ 3) : decide (sT [sg h] = ("." : Str)) = decide (h = -1) := by
  rcases hu_cases a with rfl | rfl | rfl | rfl | rfl <;> decide +kernel
theorem dtxt_none {d : List Int} (h : HuOk d) : decide (dtxt d = noneT) = d.isEmpty := by
  cases d with
  | nil => decide +kernel
  | cons a r =>
    refine decide_eq_false fun z => ?_
    unfold dtxt at z
    rw [if_neg (by simp)] at z
    have z2 : (a :: r).map sg = noneT.cps.toList := by
      have := congrArg (fun s : Str => s.cps.toList) z
      simpa using this
    have e : noneT.cps.toList = [110, 111, 110, 101] := by decide +kernel
    rw [e] at z2
    have z3 : sg a = 110 := by
      injection z2
    have := h.2 a List.mem_cons_self
    unfold sg at z3
    split at z3 <;> omega
/-- what a sign stands for -/
def unsg (k : Nat) : Int := if k = 46 then -1 else (k : Int) - 48
theorem unsg_sg {h : Int} (a : -1 ≤ h ∧ h ≤ 3) : unsg (sg h) = h := by
  rcases hu_cases a with rfl | rfl | rfl | rfl | rfl <;> decide +kernel
section
variable {P : Program} {w : World} {K : PySem.W.Frag} {mg : Str → Option Value} {base : Heap}
def sp_hues_in (K : PySem.W.Frag) : Sp := spD K fun ds d => ∃ dr, ds = [.str (dtxt dr), .str ("0123." : Str)] ∧ HuOk dr ∧ d = iT dr
theorem ln_hues_in : ∀ vs H Q E, sp_hues_in K vs H Q E → vs.length = 2 := spD_len fun ds d ⟨_, e, _⟩ => by rw [e]; rfl
theorem sc_hues_in : FnScope ["text", "signs", "sign"] ["text", "signs"] (defScope (top 82)) := ⟨rfl, rfl, rfl, by decide +kernel, rfl, by decide +kernel, by decide +kernel⟩
theorem df_hues_in (T : Txt K mg) (F : FnT K mg "hues_in" (top 82))  : Df P w K mg base "hues_in" 1 ["text", "signs"] (sp_hues_in K) := by
  have nd := sc_hues_in.nd
  refine df_mk (k := 0) F sc_hues_in (fun _ _ _ _ _ _ us hl => match us, hl with | [_, _], _ => rfl) (ln_hues_in) (fun f cdv A outer s H vs Q E hr h => ?_)
  refine ⟨_, (pss_cons (ps_if (pt_not (pt_val (pe_callB (r := rIsi K) call_isi rfl T.b_isinstance (by decide +kernel) (pa_cons (pv 0) (pa_cons (pe_bltn (v := .ty "str") rfl T.b_str (by decide +kernel) rfl) pa_nil))))) (pss_one ps_never) pss_nil)
      (pss_cons (ps_if (pt_cmpR op_eq (pv 0) (pe_gs T.k_EMPTY rfl) (nomark _)) (pss_one (ps_ret (pe_tup pa_nil))) pss_nil)
      (pss_cons (ps_if (PW.pt (pw_or (pt_not (pt_chain op_le op_le pe_int (pe_callB (r := rLn K) call_len rfl T.b_len (by decide +kernel) (pa_cons (pv 0) pa_nil)) (pe_gi T.k_MOST_PLACES rfl))) (pw_or1 (pt_not (pt_val (pe_callB (r := rAll K) (cr_all rfl) rfl T.b_all (by decide +kernel) (pa_cons (pe_lc (own := [("sign", 2)]) (g := gName 2) (tt := tYes) rfl nd (pi_str (pv 0)) (blkOk_by (N := ["text", "signs", "sign"]) (sc := defScope (top 82)) (by decide +kernel)) (fun _ _ _ _ _ => (pg_name (i := 2) nd rfl (by first | exact Or.inl rfl | exact Or.inr rfl))) (fun _ _ _ _ _ => pts_nil) (fun _ _ _ _ _ => (pe_cmpR op_in_sign (pv 2) (pv 1) rfl))) pa_nil))))))) (pss_one ps_never) pss_nil)
      (pss_one (ps_ret (pe_callTy (r := rTp K) call_tuple_of rfl T.b_tuple (by decide +kernel) (pa_cons (pe_lc (own := [("sign", 2)]) (g := gName 2) (tt := tYes) rfl nd (pi_str (pv 0)) (blkOk_by (N := ["text", "signs", "sign"]) (sc := defScope (top 82)) (by decide +kernel)) (fun _ _ _ _ _ => (pg_name (i := 2) nd rfl (by first | exact Or.inl rfl | exact Or.inr rfl))) (fun _ _ _ _ _ => pts_nil) (fun _ _ _ _ _ => (pe_ifExp (pt_cmpR op_eq (pv 2) pe_str (nomark _)) (pe_un un_neg pe_int) (pe_six (pv 1) (pv 2))))) pa_nil))))))), ?_⟩
  obtain ⟨ds, d, hv, ⟨dr, rfl, ok, rfl⟩, k⟩ := h
  obtain ⟨v, v2, rfl, h1, h2⟩ := dpa2 hv
  have hl := ok.1
  rw [dp_str h1, dp_str h2]
  refine q_when (b := false) (et_not (a := true) (et_B (K := K) (ei_str (ed_var (.str _))))) (fun e => nomatch e) fun _ H1 e1 => ?_
  refine q_when (b := dr.isEmpty) (et_test (K := K) ((ed_op (ed_var (.str _)) ed_str rv_eqS).eq (congrArg PyData.bool (dtxt_none ok)))) (fun hb H2 e2 => ?_) (fun hb H2 e2 => ?_)
  · have e : dr = [] := by
      cases dr with
      | nil => rfl
      | cons a b => cases hb
    rw [e] at k
    exact r_retD (K := K) (d := .tuple []) (en_tup eda_nil) (kk (e1.trans e2) k)
  · have hne : dr ≠ [] := fun z => by rw [z] at hb; cases hb
    have et : dtxt dr = sT (dr.map sg) := if_neg hne
    rw [et]
    have hlen : (sT (dr.map sg)).length = dr.length := by rw [sT_len, List.length_map]
    have hpos : 1 ≤ dr.length := by
      cases dr with
      | nil => exact absurd rfl hne
      | cons a b => simp
    have cps : (sT (dr.map sg)).cps.toList = dr.map sg := rfl
    refine q_when (b := false) (et_or (a := false) (b := false) (et_not (a := true) (et_is (et_test (ed_chain (K := K) ed_int ((ed_lenS (ed_var (.str _)) (by omega)).eq (congrArg (fun n : Nat => PyData.int (n : Int)) hlen)) (fun _ => ed_int) rv_le fun _ => rv_le)) ?_)) (fun _ => et_not (a := true) (et_B (K := K) (ed_allT (l := dr.map sg) (f := fun k => decide (k ∈ (("0123." : Str)).cps.toList)) ?_ ?_)))) (fun e => nomatch e) fun _ H3 e3 => ?_
    · simp only [Bool.and_eq_true, decide_eq_true_eq]
      omega
    · exact en_lcSa (z := sT (dr.map sg)) (fun k => .bool (decide (k ∈ (("0123." : Str)).cps.toList))) (ed_var (.str _)) (by omega) (fun _ => rfl) (fun c hc H4 e4 => ed_op (ed_var (.str _)) (ed_var (.str _)) rv_inS) (fun _ _ => rfl)
    · exact List.all_eq_true.mpr fun c hc => by
        obtain ⟨h, hh, rfl⟩ := List.mem_map.mp hc
        exact sg_in (ok.2 h hh)
    · refine r_retD (K := K) (ed_tuple ((en_lcSa (z := sT (dr.map sg)) (fun c => .int (unsg c)) (ed_var (.str _)) (by omega) (fun _ => rfl) (fun c hc H4 e4 => ?_) (fun _ _ => rfl)).eq ?_)) (kk ((e1.trans e2).trans e3) k) (flat_iT dr)
      · obtain ⟨h, hh, rfl⟩ := List.mem_map.mp hc
        have ho := ok.2 h hh
        rw [unsg_sg ho]
        refine ed_if (b := decide (h = -1)) (et_test (K := K) ((ed_op (ed_var (.str _)) ed_str rv_eqS).eq (congrArg PyData.bool (sg_dot ho)))) (fun hb => ?_) (fun hb => ?_)
        · rw [of_decide_eq_true hb]
          exact ed_m1
        · have hne := of_decide_eq_false hb
          obtain ⟨rest, hr⟩ := sg_occ (h := h) ⟨by omega, ho.2⟩
          exact (ed_six (ed_var (.str _)) (ed_var (.str _)) hr).eq (congrArg PyData.int (by omega))
      · rw [cps, List.map_map]
        refine congrArg PyData.list (List.map_congr_left fun h hh => ?_)
        show PyData.int _ = PyData.int _
        rw [unsg_sg (ok.2 h hh)]
def sp_draft_read (K : PySem.W.Frag) : Sp := spD K fun ds d => ∃ dr, ds = [.str (dtxt dr)] ∧ HuOk dr ∧ d = iT dr
theorem ln_draft_read : ∀ vs H Q E, sp_draft_read K vs H Q E → vs.length = 1 := spD_len fun ds d ⟨_, e, _⟩ => by rw [e]; rfl
theorem sc_draft_read : FnScope ["text"] ["text"] (defScope (top 83)) := ⟨rfl, rfl, rfl, by decide +kernel, rfl, by decide +kernel, by decide +kernel⟩
theorem df_draft_read (T : Txt K mg) (F : FnT K mg "draft_read" (top 83)) (D_hues_in : Df P w K mg base "hues_in" 1 ["text", "signs"] (sp_hues_in K)) : Df P w K mg base "draft_read" 2 ["text"] (sp_draft_read K) := by
  have nd := sc_draft_read.nd
  refine df_mk (k := 1) F sc_draft_read (fun _ _ _ _ _ _ us hl => match us, hl with | [_], _ => rfl) (ln_draft_read) (fun f cdv A outer s H vs Q E hr h => ?_)
  refine ⟨_, (pss_one (ps_ret (pe_d D_hues_in (hr.mono (by decide)) rfl (pa_cons (pv 0) (pa_cons (pe_gs T.k_SIGNS rfl) pa_nil))))), ?_⟩
  obtain ⟨ds, d, hv, ⟨dr, rfl, ok, rfl⟩, k⟩ := h
  obtain ⟨v, rfl, h1⟩ := dpa1 hv
  exact r_retD (K := K) (en_call (eda_cons (ed_var h1) (eda_cons ed_str eda_nil)) ⟨dr, rfl, ok, rfl⟩).toD k (flat_iT dr)
def sp_number_in (K : PySem.W.Frag) : Sp := spD K fun ds d => ∃ n : Nat, ds = [.str (fig n)] ∧ n ≤ 9 ∧ d = .int (n : Int)
theorem ln_number_in : ∀ vs H Q E, sp_number_in K vs H Q E → vs.length = 1 := spD_len fun ds d ⟨_, e, _⟩ => by rw [e]; rfl
theorem sc_number_in : FnScope ["word", "sign"] ["word"] (defScope (top 84)) := ⟨rfl, rfl, rfl, by decide +kernel, rfl, by decide +kernel, by decide +kernel⟩
theorem df_number_in (T : Txt K mg) (F : FnT K mg "number_in" (top 84))  : Df P w K mg base "number_in" 1 ["word"] (sp_number_in K) := by
  have nd := sc_number_in.nd
  refine df_mk (k := 0) F sc_number_in (fun _ _ _ _ _ _ us hl => match us, hl with | [_], _ => rfl) (ln_number_in) (fun f cdv A outer s H vs Q E hr h => ?_)
  refine ⟨_, (pss_cons (ps_if (PW.pt (pw_or (pt_not (pt_chain op_le op_le pe_int (pe_callB (r := rLn K) call_len rfl T.b_len (by decide +kernel) (pa_cons (pv 0) pa_nil)) (pe_gi T.k_MOST_FIGURES rfl))) (pw_or1 (pt_not (pt_val (pe_callB (r := rAll K) (cr_all rfl) rfl T.b_all (by decide +kernel) (pa_cons (pe_lc (own := [("sign", 1)]) (g := gName 1) (tt := tYes) rfl nd (pi_str (pv 0)) (blkOk_by (N := ["word", "sign"]) (sc := defScope (top 84)) (by decide +kernel)) (fun _ _ _ _ _ => (pg_name (i := 1) nd rfl (by first | exact Or.inl rfl | exact Or.inr rfl))) (fun _ _ _ _ _ => pts_nil) (fun _ _ _ _ _ => (pe_cmpR op_in_sign (pv 1) (pe_gs T.k_FIGURES rfl) rfl))) pa_nil))))))) (pss_one (ps_ret pe_non)) pss_nil)
      (pss_cons (ps_if (PW.pt (pw_and (pt_cmpR op_eq (pe_ix ix_str (pv 0) pe_int (fun _ _ => rfl)) pe_str (nomark _)) (pw_and1 (pt_cmpR op_gt (pe_callB (r := rLn K) call_len rfl T.b_len (by decide +kernel) (pa_cons (pv 0) pa_nil)) pe_int (nomark _))))) (pss_one (ps_ret pe_non)) pss_nil)
      (pss_one (ps_ret (pe_callTy call_int_str rfl T.b_int (by decide +kernel) (pa_cons (pv 0) pa_nil)))))), ?_⟩
  obtain ⟨ds, d, hv, ⟨n, rfl, hn, rfl⟩, k⟩ := h
  obtain ⟨v, rfl, h1⟩ := dpa1 hv
  rw [dp_str h1]
  have hlen : (fig n).length = 1 := rfl
  refine q_when (b := false) (et_or (a := false) (b := false) (et_not (a := true) (et_test (ed_chain (K := K) (k1 := true) (k2 := true) ed_int ((ed_lenS (ed_var (.str _)) (by omega)).eq (congrArg (fun n : Nat => PyData.int (n : Int)) hlen)) (fun _ => ed_int) rv_le fun _ => rv_le))) (fun _ => et_not (a := true) (et_B (K := K) (ed_allT (l := [48 + n]) (f := fun k => decide (k ∈ (("0123456789" : Str)).cps.toList)) ?_ ?_)))) (fun e => nomatch e) fun _ H1 e1 => ?_
  · exact en_lcSa (z := fig n) (fun k => .bool (decide (k ∈ (("0123456789" : Str)).cps.toList))) (ed_var (.str _)) (by omega) (fun _ => rfl) (fun c hc H4 e4 => ed_op (ed_var (.str _)) ed_str rv_inS) (fun _ _ => rfl)
  · show (decide (48 + n ∈ (("0123456789" : Str)).cps.toList) && true) = true
    rw [fig_in n hn]
    rfl
  refine q_when (b := decide (fig n = ("0" : Str)) && false) (et_and (et_test (K := K) (ed_op (ed_op (ed_var (.str _)) ed_int (rv_ixS (c := 48 + n) (by omega) rfl)) ed_str rv_eqS)) fun _ => et_test ((ed_op (K := K) ((ed_lenS (ed_var (.str _)) (by omega)).eq (congrArg (fun n : Nat => PyData.int (n : Int)) hlen)) ed_int rv_gt).eq rfl)) (fun e => by rw [Bool.and_false] at e; cases e) fun _ H2 e2 => ?_
  refine r_retD (K := K) (en_cb (eda_cons (ed_var (.str _)) eda_nil) ?_).toD (kk (e1.trans e2) k)
  intro H3 xs dx Q q
  obtain ⟨u, rfl, du⟩ := dpa1 dx
  rw [dp_str du]
  exact ⟨fig n, (n : Int), rfl, fig_int n hn, by omega, q _ H3 (Ex.refl H3) (Dp.int _)⟩
def sp_numbers_in (K : PySem.W.Frag) : Sp := spD K fun ds d => ∃ l, ds = [.str (ntxt l)] ∧ NuOk l ∧ l ≠ [] ∧ d = nT l
theorem ln_numbers_in : ∀ vs H Q E, sp_numbers_in K vs H Q E → vs.length = 1 := spD_len fun ds d ⟨_, e, _⟩ => by rw [e]; rfl
theorem sc_numbers_in : FnScope ["text", "word"] ["text"] (defScope (top 85)) := ⟨rfl, rfl, rfl, by decide +kernel, rfl, by decide +kernel, by decide +kernel⟩
theorem df_numbers_in (T : Txt K mg) (F : FnT K mg "numbers_in" (top 85)) (D_number_in : Df P w K mg base "number_in" 1 ["word"] (sp_number_in K)) : Df P w K mg base "numbers_in" 2 ["text"] (sp_numbers_in K) := by
  have nd := sc_numbers_in.nd
  refine df_mk (k := 1) F sc_numbers_in (fun _ _ _ _ _ _ us hl => match us, hl with | [_], _ => rfl) (ln_numbers_in) (fun f cdv A outer s H vs Q E hr h => ?_)
  refine ⟨_, (pss_cons (ps_if (pt_not (pt_val (pe_callB (r := rIsi K) call_isi rfl T.b_isinstance (by decide +kernel) (pa_cons (pv 0) (pa_cons (pe_bltn (v := .ty "str") rfl T.b_str (by decide +kernel) rfl) pa_nil))))) (pss_one ps_never) pss_nil)
      (pss_one (ps_ret (pe_callTy (r := rTp K) call_tuple_of rfl T.b_tuple (by decide +kernel) (pa_cons (pe_lc (own := [("word", 1)]) (g := gName 1) (tt := tYes) rfl nd (pi_list (pe_split (pv 0) pe_str)) (blkOk_by (N := ["text", "word"]) (sc := defScope (top 85)) (by decide +kernel)) (fun _ _ _ _ _ => (pg_name (i := 1) nd rfl (by first | exact Or.inl rfl | exact Or.inr rfl))) (fun _ _ _ _ _ => pts_nil) (fun _ _ _ _ _ => (pe_d D_number_in (hr.mono (by decide)) rfl (pa_cons (pv 1) pa_nil)))) pa_nil))))), ?_⟩
  obtain ⟨ds, d, hv, ⟨l, rfl, ok, hne, rfl⟩, k⟩ := h
  obtain ⟨v, rfl, h1⟩ := dpa1 hv
  have hl := ok.1
  rw [dp_str h1]
  have hz := ntxt_len hl
  refine q_when (b := false) (et_not (a := true) (et_B (K := K) (ei_str (ed_var (.str _))))) (fun e => nomatch e) fun _ H1 e1 => ?_
  refine r_retD (K := K) (d := nT l) ?_ (kk e1 k) (flat_nT l)
  rw [nT_eq]
  refine ed_tuple ?_
  have hs : Txt.split (ntxt l) (("," : Str)) = l.map fig := ntxt_split hne ok.2
  have q := en_split (K := K) (H := H1) (σ := [some (V.str (ntxt l)), none]) (ta := tVar 0) (tb := tC (.str ",")) (ed_var (.str _)) ed_str (by decide +kernel) (by omega)
  rw [hs, List.map_map] at q
  refine (en_lcL (fun _ => true) (fun d => match d with | .str z => .int ((z.cps.toList.getD 0 0 : Nat) - 48) | d => d) q.toD (by rw [List.length_map]; omega) (fun _ => rfl) (fun _ _ _ _ _ _ => et_yes) (fun e he u H2 e2 du _ => ?_)).eq ?_
  · obtain ⟨n, hn, rfl⟩ := List.mem_map.mp he
    have e9 := ok.2 n hn
    have er : ((((fig n).cps.toList.getD 0 0 : Nat) : Int) - 48) = (n : Int) := by
      show (((48 + n : Nat) : Int) - 48) = (n : Int)
      omega
    refine ⟨(en_call (eda_cons (ed_var du) eda_nil) ⟨n, rfl, e9, ?_⟩).toD, rfl⟩
    exact congrArg PyData.int er
  · unfold comp
    rw [filter_yes, List.map_map]
    refine congrArg PyData.list (List.map_congr_left fun n hn => ?_)
    show PyData.int (((48 + n : Nat) : Int) - 48) = PyData.int (n : Int)
    exact congrArg PyData.int (by omega)
def sp_sizes_read (K : PySem.W.Frag) : Sp := spD K fun ds d => ∃ sz, ds = [.str (ntxt sz)] ∧ SzOk sz ∧ d = nT sz
theorem ln_sizes_read : ∀ vs H Q E, sp_sizes_read K vs H Q E → vs.length = 1 := spD_len fun ds d ⟨_, e, _⟩ => by rw [e]; rfl
theorem sc_sizes_read : FnScope ["text", "found"] ["text"] (defScope (top 86)) := ⟨rfl, rfl, rfl, by decide +kernel, rfl, by decide +kernel, by decide +kernel⟩
theorem df_sizes_read (T : Txt K mg) (F : FnT K mg "sizes_read" (top 86)) (D_numbers_in : Df P w K mg base "numbers_in" 2 ["text"] (sp_numbers_in K)) (D_are_sizes : Df P w K mg base "are_sizes" 3 ["thing"] (sp_are_sizes K)) : Df P w K mg base "sizes_read" 4 ["text"] (sp_sizes_read K) := by
  have nd := sc_sizes_read.nd
  refine df_mk (k := 3) F sc_sizes_read (fun _ _ _ _ _ _ us hl => match us, hl with | [_], _ => rfl) (ln_sizes_read) (fun f cdv A outer s H vs Q E hr h => ?_)
  refine ⟨_, (pss_cons (ps_set (i := 1) nd rfl (by first | exact Or.inl rfl | exact Or.inr rfl) (pe_d D_numbers_in (hr.mono (by decide)) rfl (pa_cons (pv 0) pa_nil)))
      (pss_cons (ps_if (pt_not (pt_val (pe_d D_are_sizes (hr.mono (by decide)) rfl (pa_cons (pv 1) pa_nil)))) (pss_one ps_never) pss_nil)
      (pss_one (ps_ret (pv 1))))), ?_⟩
  obtain ⟨ds, d, hv, ⟨sz, rfl, ok, rfl⟩, k⟩ := h
  obtain ⟨v, rfl, h1⟩ := dpa1 hv
  have hne : sz ≠ [] := fun z => by have := ok.lo; rw [z] at this; simp at this
  refine r_asg (K := K) (d := nT sz) (en_call (eda_cons (ed_var h1) eda_nil) ⟨sz, rfl, sz_nu ok, hne, rfl⟩).toD fun u H1 e1 du => ?_
  refine q_when (b := false) (et_not (a := true) (et_B (K := K) (en_call (eda_cons (ed_var du) eda_nil) ⟨sz, rfl, ok, rfl⟩).toD)) (fun e => nomatch e) fun _ H2 e2 => ?_
  exact r_retD (K := K) (ed_var (dpx e2 du)) (kk (e1.trans e2) k) (flat_nT sz)
end
end EH

set_option Elab.async false
set_option linter.all false
set_option maxRecDepth 100000
set_option maxHeartbeats 4000000
namespace EH
open PySem PySem.Spec PyProof.Rows L2 Evl
/-- t * 1 -/
theorem tuple_mulOne (l : Addr) (items : Array Value) (n : Nat) (dd : Option Addr) (sl : Array (Option Value)) (u : Tok) :
    Meets (Builtin.«tuple.__mul__» ⟨[.ref l, .int 1 u], []⟩) (fun _ R s => s.heap.get? l = some { cls := .type "tuple", dict := dd, data := .seq items n, slots := sl } ∧ R (.ok (.ret (Value.ref l))) s) :=
  .of_wp fun prog w A R s h => by
    obtain ⟨hp, g, d, tk, os⟩ := s
    obtain ⟨hl, h⟩ := h
    have f1 := AutoSeq1.idx_int
    have c0 : (decide ((1 : Int) < -(2 ^ 63)) || decide ((1 : Int) ≥ 2 ^ 63)) = false := by decide
    have c1 : (items.isEmpty || (1 : Int) == 1) = true := by simp
    wp_walk using wpAny_loadPart' hl
    repeat (first
      | (refine wpAny_ite_false (decide_eq_false (by rw [c0]; exact Bool.false_ne_true)) ?_; wp_walk using wpAny_loadPart' hl)
      | (refine wpAny_ite_true (decide_eq_true c1) ?_; wp_walk using wpAny_loadPart' hl))
    exact ⟨_, rfl, h⟩
def rRep1 (K : PySem.W.Frag) : R2 := fun x y H Q => ∃ l xs, x = .ref l ∧ y = .int 1 ∧ SqT K H l xs ∧ Q (.ref l) H
theorem op_once {X : Cx} : OpR X (binaryOp .Mult) (rRep1 X.K) := by
  intro pins s σ H x y v u Q I rx ry h
  obtain ⟨l, xs, rfl, rfl, hT, q⟩ := h
  cases rx
  obtain ⟨t, rfl⟩ := ry
  obtain ⟨its, r, ⟨⟨cls, dd, data, sl⟩, ho, hc, n, hd⟩, hs⟩ := I.tuple hT
  simp only at hc hd
  subst hc hd
  exact wpAny_binaryOp_repeat_ref (T := "tuple") (U := "int") (by decide) ⟨_, ho, rfl⟩ (fun s' => typeIs_int s' 1 t) noFill_tuple_mul F.fills_int_mul F.slot_int_rmul repeat_tuple F.slot_int_index.lookup
    (call_meets F.slot_int_rmul (typeIs_int s 1 t) F.entry_int_rmul (F.args_int_rmul_2 _ _) (int_rmul_tuple 1 t l its.toArray n dd sl)
      ⟨ho, rfl, ⟨_, ho, rfl⟩, call_meets F.slot_tuple_mul ⟨_, ho, rfl⟩ F.entry_tuple_mul (F.args_tuple_mul_2 _ _) (tuple_mulOne l its.toArray n dd sl t) ⟨ho, .ref l, H, I, rfl, q⟩⟩)
def rRepA (K : PySem.W.Frag) : R2 := fun x y H Q => rRep1 K x y H Q ∨ rRepT K x y H Q
theorem op_repA {X : Cx} : OpR X (binaryOp .Mult) (rRepA X.K) := by
  intro pins s σ H x y v u Q I rx ry h
  rcases h with h | h
  · exact op_once pins s σ H x y v u Q I rx ry h
  · exact op_repT pins s σ H x y v u Q I rx ry h
theorem flat_rep {α : Type} (x : α) : ∀ n : Nat, (List.replicate n [x]).flatten = List.replicate n x
  | 0 => rfl
  | n + 1 => by
    rw [List.replicate_succ, List.flatten_cons, flat_rep x n]
    rfl
section
variable {K : PySem.W.Frag}
theorem dpa_rep {H : Hp} {v : V} {d : PyData} (h : Dp K H v d) : ∀ n : Nat, DpAll K H (List.replicate n v) (List.replicate n d)
  | 0 => .nil
  | n + 1 => .cons h (dpa_rep h n)
/-- (d,) * n, 1 or more -/
theorem rv_rep {d : PyData} {n : Nat} (h1 : 1 ≤ n) (h2 : n ≤ 1000) : RvD K (rRepA K) (.tuple [d]) (.int (n : Int)) (.tuple (List.replicate n d)) := fun H x y dx dy Q q => by
  obtain ⟨l, xs, rfl, hs, ha⟩ := dp_tupR dx
  obtain ⟨v, rfl, dv⟩ := dpa1 ha
  rw [dp_int dy]
  by_cases hn : n = 1
  · subst hn
    exact .inl ⟨l, [v], rfl, rfl, st_of hs, q _ H (Ex.refl H) (.tup hs (.cons dv .nil))⟩
  · refine .inr ⟨l, (n : Int), [v], rfl, rfl, st_of hs, by simp, by omega, by omega, by simp, fun p hp => q _ _ (Ex.new hp) (.tup upd_same ?_)⟩
    rw [Int.toNat_natCast, flat_rep]
    exact dpa_rep (dpx (Ex.new hp) dv) n
end
/-! ### d.get(k, x) of a written dict -/
def tKGet (K : PySem.W.Frag) (w : World) (td ty tx : TE) : TE := fun σ H Q => td σ H fun x H1 => ∃ d es n, x = .ref d ∧ L2.KDict K w d es n ∧ ty σ H1 fun y H2 => ∃ z, y = .str z ∧ tx σ H2 fun u H3 => ∃ r, PySem.W.nsIn K d z = some r ∧ (r = none → Q u H3) ∧ ∀ val, r = some val → ∃ v, RelV v val ∧ Q v H3
theorem pe_kget {X : Cx} {o e f : Expr} {apos cpos : Pos} {td ty tx : TE} (ho : PE X o td) (he : PE X e ty) (hf : PE X f tx) (m : M2 X o "get" apos e f cpos) : PE X (.Call (.Attribute o "get" apos) [e, f] [] cpos) (tKGet X.K X.w td ty tx) := by
  constructor
  intro pins s σ H Q I h
  refine wpAny_Call_method m.base m.few m.line PySem.F.plainAttrs_dict PySem.F.slot_dict_get PySem.F.type_dict_get (thn (ho.run pins s σ H _ I h) ?_)
  rintro u s1 ⟨x, H1, I1, rx, d, es, n, rfl, kd, q1⟩
  obtain rfl : u = Value.ref d := rx
  have hm1 := PySem.W.mapOf_K (prog := X.prog) (w := X.w) I1.kIn kd.at_ kd.lit
  refine ⟨hm1.typeIs, hm1.noDict, ?_⟩
  rw [m.trees]
  refine Calls.callWith_builtin rfl (Calls.evalArgs_plain (Calls.spliced_cons (thn (he.run pins s1 σ H1 _ I1 q1) ?_)))
  rintro iv s2 ⟨y, H2, I2, ry, z, rfl, q2⟩
  obtain ⟨t, rfl⟩ := (show ∃ t, iv = Value.str z t from ry)
  refine Calls.spliced_cons (thn (hf.run pins s2 σ H2 _ I2 q2) ?_)
  rintro fv s3 ⟨u, H3, I3, ru, r, hr, no, yes⟩
  refine Calls.spliced_nil ?_
  have hm3 := PySem.W.mapOf_K (prog := X.prog) (w := X.w) I3.kIn kd.at_ kd.lit
  refine call_meetsIn PySem.F.slot_dict_get hm3.typeIs PySem.F.entry_dict_get (PySem.F.args_dict_get_3 _ _ _) (meets_dict_get_default (strKind X.prog X.w) d (strKind_is X.prog X.w z t) kd.low fv) ⟨_, hm3, ?_⟩
  rw [PySem.W.find_K kd.at_ hr]
  cases r with
  | none => exact ⟨u, H3, I3.tok _, ru, no rfl⟩
  | some val =>
    obtain ⟨v, rv, q⟩ := yes val rfl
    exact ⟨v, H3, I3.tok _, rv, q⟩
end EH

set_option Elab.async false
set_option linter.all false
set_option maxRecDepth 100000
set_option maxHeartbeats 4000000
namespace EH
open PySem PySem.Spec PyProof.Rows L2 Evl
/-! ### rows of the desk, as plain things -/
def menus : List (List Nat) := [[3, 3], [3, 4], [2, 2, 3], [2, 2], [4], [3, 3, 3, 3], [2, 6], [8, 2, 5], [4, 4]]
def farN (sz : List Nat) : Nat := if sz = [3, 3] then 9 else if sz = [3, 4] then 18 else if sz = [2, 2, 3] then 7 else if sz = [2, 2] then 3 else if sz = [4] then 4 else 11
theorem menu_ok {sz : List Nat} (h : sz ∈ menus) : SzOk sz := by
  have d : ∀ sz ∈ menus, 1 ≤ sz.length ∧ sz.length ≤ 4 ∧ ∀ n ∈ sz, 2 ≤ n ∧ n ≤ 8 := by decide +kernel
  obtain ⟨h1, h2, h3⟩ := d sz h
  exact ⟨h1, h2, h3⟩
theorem menu_far {sz : List Nat} (h : sz ∈ menus) (hp : prodM sz ≤ 12) : FarOk sz (farN sz) := by
  have hc : sz = [3, 3] ∨ sz = [3, 4] ∨ sz = [2, 2, 3] ∨ sz = [2, 2] ∨ sz = [4] ∨ sz = [3, 3, 3, 3] ∨ sz = [2, 6] ∨ sz = [8, 2, 5] ∨ sz = [4, 4] := by simpa [menus] using h
  rcases hc with rfl | rfl | rfl | rfl | rfl | rfl | rfl | rfl | rfl
  · exact farOk lay33 (by decide) (by decide)
  · exact farOk lay34 (by decide) (by decide)
  · exact farOk lay223 (by decide) (by decide)
  · exact farOk lay22 (by decide) (by decide)
  · exact farOk lay4 (by decide) (by decide)
  · exact absurd hp (by decide)
  · exact farOk lay26 (by decide) (by decide)
  · exact absurd hp (by decide)
  · exact absurd hp (by decide)
inductive Qn | draft | sizes | clean | stuck | fillings | first | far
def qT : Qn → Str
  | .draft => "draft"
  | .sizes => "sizes"
  | .clean => "clean"
  | .stuck => "stuck"
  | .fillings => "fillings"
  | .first => "first"
  | .far => "far"
inductive Act | more (n : Nat) | put (p h : Nat) | clear (p : Nat)
def actW : Act → Str
  | .more _ => "more"
  | .put _ _ => "put"
  | .clear _ => "clear"
def actN : Act → List Nat
  | .more n => [n]
  | .put p h => [p, h]
  | .clear p => [p]
def actM (dr : List Int) : Act → List Int
  | .more n => dr ++ List.replicate n (-1)
  | .put p h => dr.set p (h : Int)
  | .clear p => dr.set p (-1)
def ActOk (sz : List Nat) (dr : List Int) : Act → Prop
  | .more n => 1 ≤ n ∧ n ≤ 9 ∧ dr.length + n ≤ 10
  | .put p h => p < dr.length ∧ dr.getD p 0 = -1 ∧ h < sz.length
  | .clear p => p < dr.length ∧ dr.getD p 0 ≠ -1
inductive Rw | setS (s : List Nat) | act (ac : Act) | opn (p : Nat) | run | back | ask (q : Qn)
def rowW : Rw → Str
  | .setS _ => "sizes"
  | .act ac => actW ac
  | .opn _ => "open"
  | .run => "run"
  | .back => "back"
  | .ask q => qT q
def rowN : Rw → List Nat
  | .setS _ => []
  | .act ac => actN ac
  | .opn p => [p]
  | .run => []
  | .back => []
  | .ask _ => []
def blankT : Str := " "
def glueT (w : Str) (ns : List Nat) : Str := Txt.join blankT (w :: ns.map fig)
def rowT : Rw → Str
  | .setS s => ("sizes " : Str) ++ ntxt s
  | r => glueT (rowW r) (rowN r)
def RwOk (sz : List Nat) (dr : List Int) : Rw → Prop
  | .setS s => s ∈ menus
  | .act ac => ActOk sz dr ac
  | .opn p => p ≤ 9
  | _ => True
def ansM (sz : List Nat) (dr : List Int) : Qn → Except Str Str
  | .draft => .ok (dtxt dr)
  | .sizes => .ok (ntxt sz)
  | .clean => .ok (if wrong sz dr then "no" else "yes")
  | .stuck => .ok (match (runM sz dr).2 with | none => noneT | some p => Str.ofString (toString ((p : Nat) : Int)))
  | .fillings => if waysM sz dr ≤ 512 then .ok (Str.ofString (toString (((fillM sz dr).length : Nat) : Int))) else .error "TooGreat"
  | .first => if waysM sz dr ≤ 512 then .ok (match fillM sz dr with | [] => "no" | a :: _ => dtxt a) else .error "TooGreat"
  | .far => if prodM sz ≤ 12 then .ok (Str.ofString (toString (((farN sz : Nat) : Int) - 1))) else .error "TooGreat"
abbrev St2 := List Nat × List Int
def sayR (b : List St2) (sz : List Nat) (dr : List Int) : Rw → Except Str (Str × List St2)
  | .setS s => .ok (noneT, b ++ [(sz, dr)] ++ [(s, [])])
  | .act ac => .ok (dtxt (actM dr ac), b ++ [(sz, dr)] ++ [(sz, actM dr ac)])
  | .opn p => if blankAt dr p then .ok (ntxt (openM sz dr p), b ++ [(sz, dr)]) else .error "NoPlace"
  | .run => .ok (dtxt (runM sz dr).1, b ++ [(sz, dr)] ++ [(sz, (runM sz dr).1)])
  | .back => match b.getLast? with
    | none => .error "NoDeed"
    | some x => .ok (dtxt x.2, b)
  | .ask q => (ansM sz dr q).map fun z => (z, b ++ [(sz, dr)])
structure StG (st : List St2) : Prop where
  len : st.length ≤ 500
  all : ∀ p ∈ st, p.1 ∈ menus ∧ DrOk p.1 p.2 ∧ p.2.length ≤ 10
theorem dr_hu {sz : List Nat} {dr : List Int} (ok : SzOk sz) (od : DrOk sz dr) : HuOk dr := ⟨od.len, fun h hh => by have := od.all h hh; have := ok.hi; omega⟩
/-! ### what the mirrors keep -/
theorem set_get {d : List Int} {p q : Nat} {x : Int} (h : q ≠ p) : (d.set p x).getD q 0 = d.getD q 0 := by
  rw [List.getD_eq_getElem?_getD, List.getElem?_set_ne (Ne.symm h), ← List.getD_eq_getElem?_getD]
theorem set_same {d : List Int} {p : Nat} {x : Int} (h : p < d.length) : (d.set p x).getD p 0 = x := by
  rw [List.getD_eq_getElem?_getD, List.getElem?_set_self h]
  rfl
theorem dr_set {sz : List Nat} {dr : List Int} (od : DrOk sz dr) (p : Nat) {x : Int} (hx : -1 ≤ x ∧ x < (sz.length : Int)) : DrOk sz (dr.set p x) := ⟨by rw [List.length_set]; exact od.len, fun h hh => by
  rcases List.mem_or_eq_of_mem_set hh with z | z
  · exact od.all h z
  · rw [z]; exact hx⟩
theorem fill_spec (sz : List Nat) (dr : List Int) (l : List Nat) : ∀ s ∈ fillUp sz dr l, s.length = dr.length ∧ ∀ q, (q ∉ l → s.getD q 0 = dr.getD q 0) ∧ (q ∈ l → q < dr.length → 0 ≤ s.getD q 0 ∧ s.getD q 0 < (sz.length : Int)) := by
  have key : ∀ (l l0 : List Nat) (f : List (List Int)), (∀ s ∈ f, s.length = dr.length ∧ ∀ q, (q ∉ l0 → s.getD q 0 = dr.getD q 0) ∧ (q ∈ l0 → q < dr.length → 0 ≤ s.getD q 0 ∧ s.getD q 0 < (sz.length : Int))) →
      ∀ s ∈ l.foldl (fun f p => fillStep sz p f) f, s.length = dr.length ∧ ∀ q, (q ∉ l0 ++ l → s.getD q 0 = dr.getD q 0) ∧ (q ∈ l0 ++ l → q < dr.length → 0 ≤ s.getD q 0 ∧ s.getD q 0 < (sz.length : Int)) := by
    intro l
    induction l with
    | nil => exact fun l0 f h => by rw [List.append_nil]; exact h
    | cons p r ih =>
      intro l0 f h
      have e : l0 ++ p :: r = (l0 ++ [p]) ++ r := by simp
      rw [e]
      refine ih (l0 ++ [p]) _ fun s hs => ?_
      obtain ⟨t, ht, hs⟩ := List.mem_flatMap.mp hs
      obtain ⟨x, hx, rfl⟩ := List.mem_map.mp hs
      obtain ⟨h1, h2⟩ := h t ht
      refine ⟨by rw [List.length_set]; exact h1, fun q => ⟨fun hq => ?_, fun hq hlt => ?_⟩⟩
      · have hq' : q ∉ l0 ∧ q ≠ p := by simpa using hq
        rw [set_get hq'.2]
        exact (h2 q).1 hq'.1
      · by_cases hqp : q = p
        · subst hqp
          rw [set_same (by omega)]
          have := open_mem hx
          omega
        · rw [set_get hqp]
          have : q ∈ l0 := by simpa [hqp] using hq
          exact (h2 q).2 this hlt
  exact fun s hs => by
    have := key l [] [dr] (fun s hs => by rw [List.mem_singleton.mp hs]; exact ⟨rfl, fun q => ⟨fun _ => rfl, fun z => by cases z⟩⟩) s hs
    rw [List.nil_append] at this
    exact this
theorem mem_getD {s : List Int} {x : Int} (h : x ∈ s) : ∃ q, q < s.length ∧ s.getD q 0 = x := by
  obtain ⟨q, hq, e⟩ := List.mem_iff_getElem.mp h
  exact ⟨q, hq, by rw [List.getD_eq_getElem?_getD, List.getElem?_eq_getElem hq]; exact e⟩
theorem getD_mem {s : List Int} {q : Nat} (h : q < s.length) : s.getD q 0 ∈ s := by
  rw [List.getD_eq_getElem?_getD, List.getElem?_eq_getElem h]
  exact List.getElem_mem h
theorem fill_mem {sz : List Nat} {dr s : List Int} (h : s ∈ fillM sz dr) : wrong sz dr = false ∧ s ∈ fillUp sz dr (blanksM dr) := by
  unfold fillM at h
  cases hw : wrong sz dr with
  | true => rw [hw] at h; simp at h
  | false =>
    rw [hw, if_neg (by decide)] at h
    exact ⟨rfl, h⟩
/-- a filling has no blank -/
theorem fill_full {sz : List Nat} {dr s : List Int} (od : DrOk sz dr) (h : s ∈ fillM sz dr) : s.length = dr.length ∧ ∀ x ∈ s, 0 ≤ x ∧ x < (sz.length : Int) := by
  obtain ⟨_, h⟩ := fill_mem h
  obtain ⟨h1, h2⟩ := fill_spec sz dr _ s h
  refine ⟨h1, fun x hx => ?_⟩
  obtain ⟨q, hq, rfl⟩ := mem_getD hx
  by_cases hb : q ∈ blanksM dr
  · exact (h2 q).2 hb (by omega)
  · rw [(h2 q).1 hb]
    have h3 := od.all _ (getD_mem (s := dr) (q := q) (by omega))
    have h4 : dr.getD q 0 ≠ -1 := fun z => hb (List.mem_filter.mpr ⟨List.mem_range.mpr (by omega), decide_eq_true z⟩)
    omega
theorem runF_ok (sz : List Nat) : ∀ (n : Nat) (d : List Int), DrOk sz d → DrOk sz (runF sz n d).1 ∧ (runF sz n d).1.length = d.length ∧ ∀ p, (runF sz n d).2 = some p → p < d.length
  | 0, d, h => ⟨h, rfl, fun p z => by cases z⟩
  | n + 1, d, h => by
    unfold runF
    cases hn : narrowM sz d with
    | none => exact ⟨h, rfl, fun p z => by cases z⟩
    | some q =>
      obtain ⟨p, l⟩ := q
      obtain ⟨hpb, hop⟩ := nar_mem hn
      cases l with
      | nil => exact ⟨h, rfl, fun p' z => by cases z; exact (bl_mem hpb).1⟩
      | cons x r =>
        have hx := open_mem (sz := sz) (d := d) (p := p) (h := x) (by rw [← hop]; exact List.mem_cons_self)
        obtain ⟨a, b, c⟩ := runF_ok sz n (d.set p (x : Int)) (dr_set h p ⟨by omega, by omega⟩)
        exact ⟨a, by rw [b, List.length_set], fun p' z => by have := c p' z; rw [List.length_set] at this; exact this⟩
end EH

set_option Elab.async false
set_option linter.all false
set_option maxRecDepth 100000
set_option maxHeartbeats 4000000
namespace EH
open PySem PySem.Spec PyProof.Rows L2 Evl
def deskD (p : St2) : PyData := .tuple [nT p.1, iT p.2]
theorem flat_desk (p : St2) : flat (deskD p) = true := by
  show (flat (nT p.1) && (flat (iT p.2) && true)) = true
  rw [flat_nT, flat_iT]
  rfl
theorem flats_desk (st : List St2) : flats (st.map deskD) = true := by
  induction st with
  | nil => rfl
  | cons a r ih =>
    show (flat (deskD a) && flats (r.map deskD)) = true
    rw [flat_desk, ih]
    rfl
/-- a desk that stands at a, its kept list at l -/
structure DeskAt (K : PySem.W.Frag) (C : Addr) (H : Hp) (a l : Addr) (st : List St2) : Prop where
  ins : ∃ dx, H a = some (.ins C dx [("kept", .ref l)])
  kept : ∃ xs, H l = some (.lst xs) ∧ DpAll K H xs (st.map deskD)
section
variable {K : PySem.W.Frag} {C : Addr} {H H1 H' : Hp} {a l l' : Addr} {st : List St2} {σ : L2.St} {d : PyData} {v : V} {te : TE}
theorem DeskAt.ex (h : DeskAt K C H a l st) (e : Ex H H1) : DeskAt K C H1 a l st := by
  obtain ⟨⟨dx, hi⟩, xs, hx, ha⟩ := h
  exact ⟨⟨dx, e _ _ hi⟩, xs, e _ _ hx, dpxs e ha⟩
theorem DeskAt.dp (h : DeskAt K C H a l st) : Dp K H (.ref l) (.list (st.map deskD)) := by
  obtain ⟨_, xs, hx, ha⟩ := h
  exact .lst hx ha
theorem DeskAt.ne (h : DeskAt K C H a l st) {xs : List V} {b : Addr} (hb : H b = some (.lst xs)) : a ≠ b := by
  obtain ⟨⟨dx, hi⟩, _⟩ := h
  exact fun z => by rw [z, hb] at hi; cases hi
/-- another list is written -/
theorem DeskAt.other (h : DeskAt K C H a l st) {xs : List V} {b : Addr} (hb : H b = some (.lst xs)) (n : l ≠ b) (k : Keep b H H') : DeskAt K C H' a l st := by
  have hn := h.ne hb
  obtain ⟨⟨dx, hi⟩, ys, hy, ha⟩ := h
  exact ⟨⟨dx, k _ _ hn hi⟩, ys, k _ _ n hy, dpks hb k (flats_desk st) ha⟩
/-- its own list is written anew -/
theorem DeskAt.put (h : DeskAt K C H a l st) {ys : List V} {st' : List St2} (hy : DpAll K H ys (st'.map deskD)) : DeskAt K C (upd H l (.lst ys)) a l st' := by
  obtain ⟨xs, hx, ha⟩ := h.kept
  have hn := h.ne hx
  obtain ⟨dx, hi⟩ := h.ins
  exact ⟨⟨dx, by rw [upd_ne hn]; exact hi⟩, ys, upd_same, dpus hx (flats_desk st') hy⟩
theorem DeskAt.dk (h : DeskAt K C H a l st) (k : Keep l H H') (f : flat d = true) (hd : Dp K H v d) : Dp K H' v d := by
  obtain ⟨xs, hx, _⟩ := h.kept
  exact dpk hx k f hd
/-- self.kept -/
theorem ed_kept {i : Nat} (c : Cls K C) (n : NoAttr K C "kept") (h : DeskAt K C H a l st) (hi : σ[i]? = some (some (.ref a)) := by rfl) : EvD K (tFld K (tVar i) "kept") σ H (.list (st.map deskD)) := fun H1 e Q q => by
  obtain ⟨dx, ha⟩ := (h.ex e).ins
  exact ⟨_, hi, a, C, dx, _, .ref l, rfl, ha, c, n, rfl, q _ H1 (Ex.refl H1) (h.ex e).dp⟩
theorem atI_last {b : List PyData} {x : PyData} : atI (b ++ [x]) (-1) = some x := by
  unfold atI
  have e : ixN (b ++ [x]).length (-1) = some b.length := by
    unfold ixN
    rw [List.length_append]
    simp
    try omega
  rw [e]
  simp
/-- self.kept[-1] -/
theorem ed_lastK {i : Nat} {b : List St2} {p : St2} (c : Cls K C) (n : NoAttr K C "kept") (h : DeskAt K C H a l (b ++ [p])) (hi : σ[i]? = some (some (.ref a)) := by rfl) : EvD K (tOp (rIxL K) (tFld K (tVar i) "kept") (tUn (rU fun i => .int (-i)) (tC (.int 1)))) σ H (deskD p) :=
  ed_op (ed_kept c n h hi) ed_m1 (rv_ixL (by rw [List.map_append]; exact atI_last))
/-- x, y = e of a pair -/
theorem r_pair {te : TE} {D : Ends} {tz : TS} {i j : Nat} {d1 d2 : PyData} (h : EvD K te σ H (.tuple [d1, d2])) (k : ∀ v1 v2 H1, Ex H H1 → Dp K H1 v1 d1 → Dp K H1 v2 d2 → tz D ((σ.set i (some v1)).set j (some v2)) H1) :
    tSeq (tAsg te (gTup K 2 (gCons (gName i) (gCons (gName j) gNil)))) tz D σ H := h H (Ex.refl H) _ fun v H1 e dv => by
  obtain ⟨t, xs, rfl, hs, hx⟩ := dp_tupR dv
  have hl := dpa_len hx
  obtain ⟨v1, v2, rfl, h1, h2⟩ := dpa2 hx
  exact ⟨t, _, rfl, st_of hs, hl, v1, _, rfl, v2, _, rfl, rfl, k v1 v2 H1 e h1 h2⟩
/-- a method's call on data -/
theorem m_call {i : Nat} {m : Str} {sp : Sp} {E : XK} {ta : TA} {ds : List PyData} {Q : VK} (h : DeskAt K C H a l st) (hm : (m == ("kept" : Str)) = false) (ha : EvDA K ta σ H ds) (k : ∀ vs H1, Ex H H1 → DpAll K H1 vs ds → DeskAt K C H1 a l st → sp (.ref a :: vs) H1 Q E) (hi : σ[i]? = some (some (.ref a)) := by rfl) :
    tMeth C m sp [] E (tVar i) ta σ H Q := by
  obtain ⟨dx, hd⟩ := h.ins
  refine ⟨_, hi, a, dx, _, rfl, hd, ?_, ha H (Ex.refl H) _ fun vs H1 e dvs => ?_⟩
  · show (match m == ("kept" : Str) with | true => some (V.ref l) | false => none) = none
    rw [hm]
  · rw [List.append_nil]
    exact k vs H1 e dvs (h.ex e)
end
/-! ### methods as they stand -/
structure FnMt (K : PySem.W.Frag) (C : Addr) (m q : Str) (st : Stmt) : Prop where
  ex : ∃ (f : Addr) (fd : FuncData), Meth K C m f ∧ FunD K m q (defArgs st) (defBody st) (defScope st) [] [] f fd
structure Mt (P : Program) (w : World) (K : PySem.W.Frag) (mg : Str → Option Value) (base : Heap) (CX : CXT) (C : Addr) (m : Str) (k : Nat) (ps : List Str) (sp : Sp) : Prop where
  ex : ∃ (f : Addr) (fd : FuncData), Meth K C m f ∧ FnOk P w K mg base CX k f fd ps sp ∧ Binds K fd ps []
structure DeskK (w : World) (K : PySem.W.Frag) (mg : Str → Option Value) (C pP dS : Addr) : Prop where
  cls : Cls K C
  na : NoAttr K C "kept"
  mC : mg "Desk" = some (.ref C)
  mP : mg "PLAIN" = some (.ref pP)
  plain : ∃ (o : Obj) (its : Array Value) (n : Nat), K.lookup pP = some o ∧ o.cls = .type "tuple" ∧ o.data = .seq its n ∧ its.size ≤ sizeLine ∧ Vals (plainW.map V.str) its.toList
  mS : mg "SORTS" = some (.ref dS)
  sorts : ∃ es n, L2.KDict K w dS es n
  n1 : ∀ z ∈ ([("more" : Str), ("clear" : Str), ("open" : Str)]), ∃ t, PySem.W.nsIn K dS z = some (some (.int 1 t))
  n2 : ∃ t, PySem.W.nsIn K dS "put" = some (some (.int 2 t))
  n0 : ∀ z ∈ ([("run" : Str), ("back" : Str), ("draft" : Str), ("sizes" : Str), ("clean" : Str), ("stuck" : Str), ("fillings" : Str), ("first" : Str), ("far" : Str)]), PySem.W.nsIn K dS z = some none
theorem passN {X : Cx} : Passes (L2.CX X.prog X.w) X E0 := fun _ _ _ _ _ _ _ h => by
  obtain ⟨_, _, _, _, _, _, _, _, _, _, _, _, z⟩ := h
  exact z.elim
section
variable {P : Program} {w : World} {K : PySem.W.Frag} {mg : Str → Option Value} {base : Heap} {C : Addr}
theorem mt_mk {CX : CXT} {m q : Str} {st : Stmt} {N ps : List Str} {k : Nat} {sp : Sp} (F : FnMt K C m q st) (S : FnScope N ps (defScope st))
    (hb : ∀ (kV doc pm : Value) (an : Option Addr) (cdv ct : Value) (us : List Value), us.length = ps.length → bindArgs (PySem.W.fnOf m q (defArgs st) (defBody st) (defScope st) .none kV doc pm an cdv ct) ⟨us, []⟩ = pure (ps.zip us))
    (len : ∀ vs H Q E, sp vs H Q E → vs.length = ps.length)
    (hbody : ∀ (f : Addr) (cdv : Value) (A : Around) (outer : List Env) (s : Shared) (H : Hp) (vs : List V) (Q : VK) (E : XK), Room k (A.deeper (envOfC q (defScope st) s.heap.objs.size f cdv)) → sp vs H Q E →
      ∃ t, PSs (cxOf CX P w K mg base N q (defScope st) f cdv A outer s H E) (defBody st) t ∧ t { nx := fun _ H' => Q .non H', rt := Q } (start N vs) H) : Mt P w K mg base CX C m (k + 1) ps sp := by
  obtain ⟨f, fd, hm, F⟩ := F.ex
  exact ⟨f, fd, hm, F.ok S len fun cdv A outer s H vs Q E hr h => hbody f cdv A outer s H vs Q E hr h, F.bindsN hb⟩
theorem pe_mt {X : Cx} {CX : CXT} {m : Str} {k : Nat} {ps : List Str} {sp : Sp} {E : XK} {o e : Expr} {es : List Expr} {ta : TE} {t : TA} {apos pos : Pos} {pl : Sem Bool} (c : Cls X.K C) (M : Mt X.prog X.w X.K X.mg X.base CX C m k ps sp) (hr : Room k X.A) (hx : Passes CX X E) (he : PE X o ta) (ha : PA X (e :: es) t)
    (h1 : starEach (e :: es) X.env = (false, eval e X.env) :: starEach es X.env := by rfl) (h2 : (backTo pos (starEach es X.env)).any (·.1) = false := by rfl)
    (ht : eval (.Call (.Attribute o m apos) (e :: es) [] pos) X.env = (do
      let obj ← eval o X.env
      standAt apos.atName
      let (g, front) ← holding [obj] (getMethod obj m pl)
      callWith pos g front (backTo pos (starEach (e :: es) X.env)) (backToKw pos (keywordEach [] X.env))) := by rfl) :
    PE X (.Call (.Attribute o m apos) (e :: es) [] pos) (tMeth C m sp [] E ta t) := by
  obtain ⟨f, fd, hm, F, B⟩ := M.ex
  exact pe_meth he c hm F hr B .nil hx ha h1 h2 ht
end
end EH

set_option Elab.async false
set_option linter.all false
set_option maxRecDepth 100000
set_option maxHeartbeats 4000000
namespace EH
open PySem PySem.Spec PyProof.Rows L2 Evl
section
variable {P : Program} {w : World} {K : PySem.W.Frag} {mg : Str → Option Value} {base : Heap} {C pP dS : Addr}
def sp_put (K : PySem.W.Frag) (C : Addr) : Sp := fun vs H Q _ => ∃ a l st sz dr v2 v3, vs = [.ref a, v2, v3] ∧ DeskAt K C H a l st ∧ Dp K H v2 (nT sz) ∧ Dp K H v3 (iT dr) ∧ HuOk dr ∧ st.length ≤ 900 ∧ ∀ H', Keep l H H' → DeskAt K C H' a l (st ++ [(sz, dr)]) → Q (.str (dtxt dr)) H'
theorem ln_put : ∀ vs H Q E, sp_put K C vs H Q E → vs.length = 3 := fun vs H Q E ⟨_, _, _, _, _, _, _, e, _⟩ => by rw [e]; rfl
theorem sc_put : FnScope ["self", "sizes", "draft"] ["self", "sizes", "draft"] (defScope (inClass (top 90) 2)) := ⟨rfl, rfl, rfl, by decide +kernel, rfl, by decide +kernel, by decide +kernel⟩
theorem mt_put (T : Txt K mg) (Y : DeskK w K mg C pP dS) (F : FnMt K C "put" "Desk.put" (inClass (top 90) 2)) (D_draft_text : Df P w K mg base "draft_text" 3 ["draft"] (sp_draft_text K)) : Mt P w K mg base CX0 C "put" 4 ["self", "sizes", "draft"] (sp_put K C) := by
  have nd := sc_put.nd
  refine mt_mk (k := 3) F sc_put (fun _ _ _ _ _ _ us hl => match us, hl with | [_, _, _], _ => rfl) (ln_put) (fun f cdv A outer s H vs Q E hr h => ?_)
  refine ⟨_, PSs.nox ((pss_cons (ps_expr (pe_bm PySem.F.plainAttrs_list PySem.F.slot_list_append PySem.F.type_list_append mt_append (pe_fld (pv 0) rfl) (pa_cons (pe_tup (pa_cons (pv 1) (pa_cons (pv 2) pa_nil))) pa_nil)))
      (pss_one (ps_ret (pe_d D_draft_text (hr.mono (by decide)) rfl (pa_cons (pv 2) pa_nil)))))), ?_⟩
  obtain ⟨a, l, st, sz, dr, v2, v3, rfl, hd, h2, h3, hu, hl, k⟩ := h
  obtain ⟨⟨dx, hi⟩, xs, hx, hxa⟩ := hd
  have hlen := dpa_len hxa
  rw [List.length_map] at hlen
  refine ⟨_, rfl, a, C, dx, _, .ref l, rfl, hi, Y.cls, Y.na, rfl, .inl ⟨rfl, xs, sq_of hx⟩, ?_⟩
  refine (en_tup (K := K) (H := H) (σ := [some (.ref a), some v2, some v3]) (eda_cons (ed_var h2) (eda_cons (ed_var h3) eda_nil))) H (Ex.refl H) _ fun v H1 e1 dv => ⟨l, xs, v, rfl, rfl, e1 _ _ hx, sz_lt (by omega), ?_⟩
  have d1 : DeskAt K C H1 a l st := (DeskAt.mk ⟨dx, hi⟩ ⟨xs, hx, hxa⟩ : DeskAt K C H a l st).ex e1
  have hy : DpAll K H1 (xs ++ [v]) ((st ++ [(sz, dr)]).map deskD) := by
    rw [List.map_append]
    exact dpa_app (dpxs e1 hxa) (dpa_one dv)
  have d2 := d1.put hy
  have kp : Keep l H (upd H1 l (.lst (xs ++ [v]))) := (Keep.of e1).trans Keep.upd
  have x3 : Dp K (upd H1 l (.lst (xs ++ [v]))) v3 (iT dr) := dpk hx kp (flat_iT dr) h3
  exact r_retD (K := K) (en_call (eda_cons (ed_var x3) eda_nil) ⟨dr, rfl, hu, rfl⟩).toD fun z H3 e3 dz => by
    rw [dp_str dz.dp]
    exact k H3 (kp.trans (Keep.of e3)) (d2.ex e3)
def sp_deed (K : PySem.W.Frag) (C : Addr) : Sp := fun vs H Q _ => ∃ a l b sz dr ac, vs = [.ref a, .str (actW ac), .int (((actN ac).getD 0 0 : Nat) : Int), .int (((actN ac).getLast?.getD 0 : Nat) : Int)] ∧ DeskAt K C H a l (b ++ [(sz, dr)]) ∧ (b ++ [(sz, dr)]).length ≤ 900 ∧ SzOk sz ∧ DrOk sz dr ∧ dr.length ≤ 10 ∧ ActOk sz dr ac ∧
  ∀ H', Keep l H H' → DeskAt K C H' a l (b ++ [(sz, dr)] ++ [(sz, actM dr ac)]) → Q (.str (dtxt (actM dr ac))) H'
theorem ln_deed : ∀ vs H Q E, sp_deed K C vs H Q E → vs.length = 4 := fun vs H Q E ⟨_, _, _, _, _, _, e, _⟩ => by rw [e]; rfl
theorem act_hu {sz : List Nat} {dr : List Int} {ac : Act} (ok : SzOk sz) (od : DrOk sz dr) (h : ActOk sz dr ac) : DrOk sz (actM dr ac) := by
  cases ac with
  | more n =>
    refine ⟨by show (dr ++ List.replicate n (-1)).length ≤ 40; rw [List.length_append, List.length_replicate]; have := h.2.2; omega, fun x hx => ?_⟩
    rcases List.mem_append.mp hx with z | z
    · exact od.all x z
    · rw [(List.mem_replicate.mp z).2]
      omega
  | put p x => exact dr_set od p ⟨by omega, by have := h.2.2; omega⟩
  | clear p => exact dr_set od p ⟨by omega, by omega⟩
theorem rv_neBB {i j : Bool} : RvD K rNe (.bool i) (.bool j) (.bool (i != j)) := by
  have q := rv_neB (K := K) (i := i) (j := j)
  rw [show (!decide (i = j)) = (i != j) by cases i <;> cases j <;> rfl] at q
  exact q
theorem sc_deed : FnScope ["self", "word", "one", "other", "sizes", "draft"] ["self", "word", "one", "other"] (defScope (inClass (top 90) 3)) := ⟨rfl, rfl, rfl, by decide +kernel, rfl, by decide +kernel, by decide +kernel⟩
theorem mt_deed (T : Txt K mg) (Y : DeskK w K mg C pP dS) (F : FnMt K C "deed" "Desk.deed" (inClass (top 90) 3)) (M_put : Mt P w K mg base CX0 C "put" 4 ["self", "sizes", "draft"] (sp_put K C)) (D_is_blank : Df P w K mg base "is_blank" 3 ["draft", "place"] (sp_is_blank K)) (D_with_hue : Df P w K mg base "with_hue" 1 ["draft", "place", "hue"] (sp_with_hue K)) : Mt P w K mg base CX0 C "deed" 5 ["self", "word", "one", "other"] (sp_deed K C) := by
  have nd := sc_deed.nd
  refine mt_mk (k := 4) F sc_deed (fun _ _ _ _ _ _ us hl => match us, hl with | [_, _, _, _], _ => rfl) (ln_deed) (fun f cdv A outer s H vs Q E hr h => ?_)
  refine ⟨_, PSs.nox ((pss_cons (ps_asg (pe_ix (r := rIxL K) ix_list (pe_fld (pv 0) rfl) (pe_un un_neg pe_int) (fun _ _ => rfl)) (pg_tup rfl (pgs_cons (pg_name (i := 4) nd rfl (by first | exact Or.inl rfl | exact Or.inr rfl)) (pgs_cons (pg_name (i := 5) nd rfl (by first | exact Or.inl rfl | exact Or.inr rfl)) pgs_nil))))
      (pss_cons (ps_if (pt_cmpR op_eq (pv 1) pe_str (nomark _)) (pss_cons (ps_if (PW.pt (pw_or (pt_cmpR op_eq (pv 2) pe_int (nomark _)) (pw_or1 (pt_cmpR op_gt (pe_op op_add (pe_callB (r := rLn K) call_len rfl T.b_len (by decide +kernel) (pa_cons (pv 5) pa_nil)) (pv 2)) (pe_gi T.k_MOST_PLACES rfl) (nomark _))))) (pss_one ps_never) pss_nil)
      (pss_one (ps_ret (pe_mt Y.cls M_put (hr.mono (by decide)) pass0 (pv 0) (pa_cons (pv 4) (pa_cons (pe_op (r := rCatA K) op_catA (pv 5) (pe_op (r := rRepA K) op_repA (pe_tup (pa_cons (pe_un un_neg pe_int) pa_nil)) (pv 2))) pa_nil)))))) pss_nil)
      (pss_cons (ps_if (PW.pt (pw_or (pt_cmpR op_ge (pv 2) (pe_callB (r := rLn K) call_len rfl T.b_len (by decide +kernel) (pa_cons (pv 5) pa_nil)) (nomark _)) (pw_or1 (pt_cmpR op_ne (pe_d D_is_blank (hr.mono (by decide)) rfl (pa_cons (pv 5) (pa_cons (pv 2) pa_nil))) (pe_cmpR op_eq (pv 1) pe_str (nomark _)) (nomark _))))) (pss_one ps_never) pss_nil)
      (pss_cons (ps_if (pt_cmpR op_eq (pv 1) pe_str (nomark _)) (pss_one (ps_ret (pe_mt Y.cls M_put (hr.mono (by decide)) pass0 (pv 0) (pa_cons (pv 4) (pa_cons (pe_d D_with_hue (hr.mono (by decide)) rfl (pa_cons (pv 5) (pa_cons (pv 2) (pa_cons (pe_un un_neg pe_int) pa_nil)))) pa_nil))))) pss_nil)
      (pss_cons (ps_if (pt_cmpR op_ge (pv 3) (pe_callB (r := rLn K) call_len rfl T.b_len (by decide +kernel) (pa_cons (pv 4) pa_nil)) (nomark _)) (pss_one ps_never) pss_nil)
      (pss_one (ps_ret (pe_mt Y.cls M_put (hr.mono (by decide)) pass0 (pv 0) (pa_cons (pv 4) (pa_cons (pe_d D_with_hue (hr.mono (by decide)) rfl (pa_cons (pv 5) (pa_cons (pv 2) (pa_cons (pv 3) pa_nil)))) pa_nil))))))))))), ?_⟩
  obtain ⟨a, l, b, sz, dr, ac, rfl, hd, hlen, ok, od, hl, hac, k⟩ := h
  have hu := dr_hu ok (act_hu ok od hac)
  refine r_pair (K := K) (ed_lastK Y.cls Y.na hd) fun v4 v5 H1 e1 d4 d5 => ?_
  have d4 : Dp K H1 v4 (nT sz) := d4
  have d5 : Dp K H1 v5 (iT dr) := d5
  have hd1 := hd.ex e1
  have fin : ∀ (H3 : Hp) (v6 : V) (σ : L2.St) (ta : TA) (Q2 : VK), Ex H1 H3 → σ[0]? = some (some (.ref a)) → EvDA K ta σ H3 [nT sz, iT (actM dr ac)] → (∀ z H4, Q z H4 → Q2 z H4) → tMeth C "put" (sp_put K C) [] E0 (tVar 0) ta σ H3 Q2 := fun H3 v6 σ ta Q2 e3 hσ hta hq =>
    m_call (hd1.ex e3) (by decide) hta (fun vs H4 e4 dvs hd4 => by
      obtain ⟨x, y, rfl, dx, dy⟩ := dpa2 dvs
      exact ⟨a, l, _, sz, actM dr ac, x, y, rfl, hd4, dx, dy, hu, hlen, fun H5 kp hd5 => hq _ _ (k H5 ((Keep.of ((e1.trans e3).trans e4)).trans kp) hd5)⟩) hσ
  cases ac with
  | more n =>
    obtain ⟨h1, h2, h3⟩ := hac
    refine q_when (b := true) (et_test (K := K) (ed_op (ed_var (.str _)) ed_str rv_eqS)) (fun _ H2 e2 => ?_) (fun z => by cases z)
    refine q_when (b := false) (et_is (et_or (a := decide (((n : Nat) : Int) = 0)) (b := decide ((40 : Int) < ((dr.length : Int) + (n : Int)))) (et_test (K := K) (ed_op (ed_var (.int _)) ed_int rv_eqI)) fun _ => et_test (ed_op (ed_add (ed_lenI (ed_var (dpx e2 d5))) (ed_var (.int _)) rfl) ed_int rv_gt)) ?_) (fun z => by cases z) (fun _ H3 e3 => ?_)
    · rw [decide_eq_false (by omega), decide_eq_false (by omega)]
      rfl
    · refine fin H3 .non _ _ _ (e2.trans e3) rfl (eda_cons (ed_var (dpx (e2.trans e3) d4)) (eda_cons ?_ eda_nil)) fun _ _ z => z
      have e : iT (actM dr (.more n)) = .tuple (dr.map PyData.int ++ List.replicate n (.int (-1))) := by
        show PyData.tuple ((dr ++ List.replicate n (-1)).map PyData.int) = _
        rw [List.map_append, List.map_replicate]
      rw [e]
      exact ed_op (ed_var (dpx (e2.trans e3) d5)) (ed_op (en_tup (eda_cons ed_m1 eda_nil)) (ed_var (.int (n : Int))) (rv_rep h1 (by omega))) (rv_catT (by rw [List.length_map, List.length_replicate]; omega))
  | clear p =>
    obtain ⟨h1, h2⟩ := hac
    refine q_when (b := false) (et_test (K := K) (ed_op (ed_var (.str _)) ed_str rv_eqS)) (fun z => by cases z) (fun _ H2 e2 => ?_)
    refine q_when (b := false) (et_is (et_or (a := decide ((dr.length : Int) ≤ ((p : Nat) : Int))) (b := false) (et_test (K := K) (ed_op (ed_var (.int _)) (ed_lenI (ed_var (dpx e2 d5))) rv_ge)) fun _ => et_test ((ed_op (en_call (eda_cons (ed_var (dpx e2 d5)) (eda_cons (ed_var (.int _)) eda_nil)) ⟨dr, p, rfl, rfl⟩).toD (ed_op (ed_var (.str _)) ed_str rv_eqS) rv_neBB).eq ?_)) ?_) (fun z => by cases z) (fun _ H3 e3 => ?_)
    · rw [decide_eq_false h2, Bool.and_false]
      rfl
    · rw [decide_eq_false (by omega)]
      rfl
    · refine q_when (b := true) (et_test (K := K) (ed_op (ed_var (.str _)) ed_str rv_eqS)) (fun _ H4 e4 => ?_) (fun z => by cases z)
      exact fin H4 .non _ _ _ ((e2.trans e3).trans e4) rfl (eda_cons (ed_var (dpx ((e2.trans e3).trans e4) d4)) (eda_cons (en_call (eda_cons (ed_var (dpx ((e2.trans e3).trans e4) d5)) (eda_cons (ed_var (.int _)) (eda_cons ed_m1 eda_nil))) ⟨dr, p, -1, rfl, h1, by omega, rfl⟩).toD eda_nil)) fun _ _ z => z
  | put p x =>
    obtain ⟨h1, h2, h3⟩ := hac
    refine q_when (b := false) (et_test (K := K) (ed_op (ed_var (.str _)) ed_str rv_eqS)) (fun z => by cases z) (fun _ H2 e2 => ?_)
    refine q_when (b := false) (et_is (et_or (a := decide ((dr.length : Int) ≤ ((p : Nat) : Int))) (b := false) (et_test (K := K) (ed_op (ed_var (.int _)) (ed_lenI (ed_var (dpx e2 d5))) rv_ge)) fun _ => et_test ((ed_op (en_call (eda_cons (ed_var (dpx e2 d5)) (eda_cons (ed_var (.int _)) eda_nil)) ⟨dr, p, rfl, rfl⟩).toD (ed_op (ed_var (.str _)) ed_str rv_eqS) rv_neBB).eq ?_)) ?_) (fun z => by cases z) (fun _ H3 e3 => ?_)
    · rw [decide_eq_true h2, decide_eq_true h1]
      rfl
    · rw [decide_eq_false (by omega)]
      rfl
    · refine q_when (b := false) (et_test (K := K) (ed_op (ed_var (.str _)) ed_str rv_eqS)) (fun z => by cases z) (fun _ H4 e4 => ?_)
      refine q_when (b := false) (et_is (et_test (K := K) (ed_op (ed_var (.int _)) (ed_lenN (ed_var (dpx ((e2.trans e3).trans e4) d4))) rv_ge)) (decide_eq_false (by show ¬ (sz.length : Int) ≤ (x : Int); omega))) (fun z => by cases z) (fun _ H5 e5 => ?_)
      have e9 := ((e2.trans e3).trans e4).trans e5
      exact fin H5 .non _ _ _ e9 rfl (eda_cons (ed_var (dpx e9 d4)) (eda_cons (en_call (eda_cons (ed_var (dpx e9 d5)) (eda_cons (ed_var (.int _)) (eda_cons (ed_var (.int _)) eda_nil))) ⟨dr, p, (x : Int), rfl, h1, by omega, rfl⟩).toD eda_nil)) fun _ _ z => z
end
end EH

set_option Elab.async false
set_option linter.all false
set_option maxRecDepth 100000
set_option maxHeartbeats 4000000
namespace EH
open PySem PySem.Spec PyProof.Rows L2 Evl
theorem q_inj {q q' : Qn} (h : qT q = qT q') : q = q' := by
  cases q <;> cases q' <;> first | rfl | exact absurd h (by decide +kernel)
theorem log_small {i : Int} (h : i.natAbs ≤ 1000) : i.natAbs.log2 < 1920 := by
  have : i.natAbs.log2 ≤ i.natAbs := Nat.log2_le_self _
  omega
section
variable {P : Program} {w : World} {K : PySem.W.Frag} {mg : Str → Option Value} {base : Heap} {C pP dS : Addr}
abbrev rStrI : List V → Hp → VK → Prop := fun xs H Q => ∃ i, xs = [.int i] ∧ i.natAbs.log2 < 1920 ∧ Q (.str (toString i)) H
theorem r_retStr {σ : L2.St} {H : Hp} {E : XK} {te : TE} {r : Res} {D : Ends} (h : EvE K mg E te σ H r) (hr : ∀ d, r = .ok d → ∃ i : Int, d = .int i ∧ i.natAbs ≤ 1000 ∧ ∀ H1, Ex H H1 → D.rt (.str (Str.ofString (toString i))) H1) (hx : ∀ x, r = .error x → RzE mg x H E) : tRet (tCB rStrI (tCons te tNil)) D σ H := h H (Ex.refl H) _ (by
  cases r with
  | error x => exact hx x rfl
  | ok d =>
    obtain ⟨i, rfl, hi, k⟩ := hr d rfl
    intro v H1 e n
    rw [dp_int n.dp]
    exact ⟨i, rfl, log_small hi, k H1 e⟩)
theorem ed_strI {σ : L2.St} {H : Hp} {te : TE} {i : Int} (h : EvD K te σ H (.int i)) (hi : i.natAbs ≤ 1000) : EvD K (tCB rStrI (tCons te tNil)) σ H (.str (Str.ofString (toString i))) := (en_cb (eda_cons h eda_nil) (rc_strI (log_small hi))).toD
theorem ed_runIx {σ : L2.St} {H : Hp} {ta : TA} {E : XK} {sz : List Nat} {dr : List Int} {i : Int} {d : PyData} (ha : EvDA K ta σ H [nT sz, iT dr]) (ok : SzOk sz) (od : DrOk sz dr) (hi : ∀ st, atI [iT (runM sz dr).1, .list st, stuckD (runM sz dr).2] i = some d) : EvD K (tOp (rIxT K) (tCall (sp_run K) [] E ta) (tC (.int i))) σ H d := fun H1 e Q q =>
  ha H1 e _ fun vs H2 e2 dvs => ⟨sz, dr, by rw [List.append_nil]; exact dvs, ok, od, fun st v H3 e3 dv => rv_ixT (hi st) H3 v (.int i) dv (.int i) Q fun z H4 e4 dz => q z H4 ((e2.trans e3).trans e4) dz⟩
def sp_asked (K : PySem.W.Frag) (mg : Str → Option Value) : Sp := fun vs H Q E => ∃ v0 q sz dr v2 v3, vs = [v0, .str (qT q), v2, v3] ∧ Dp K H v2 (nT sz) ∧ Dp K H v3 (iT dr) ∧ sz ∈ menus ∧ DrOk sz dr ∧ dr.length ≤ 10 ∧ ResQ K mg H ((ansM sz dr q).map PyData.str) Q E
theorem ln_asked : ∀ vs H Q E, sp_asked K mg vs H Q E → vs.length = 4 := fun vs H Q E ⟨_, _, _, _, _, _, e, _⟩ => by rw [e]; rfl
theorem sc_asked : FnScope ["self", "row", "sizes", "draft", "found"] ["self", "row", "sizes", "draft"] (defScope (inClass (top 90) 5)) := ⟨rfl, rfl, rfl, by decide +kernel, rfl, by decide +kernel, by decide +kernel⟩
theorem mt_asked (T : TxtX P w K mg base) (Y : DeskK w K mg C pP dS) (F : FnMt K C "asked" "Desk.asked" (inClass (top 90) 5)) (D_draft_text : Df P w K mg base "draft_text" 3 ["draft"] (sp_draft_text K)) (D_sizes_text : Df P w K mg base "sizes_text" 5 ["sizes"] (sp_sizes_text K)) (D_clean : Df P w K mg base "clean" 6 ["sizes", "draft"] (sp_clean K)) (D_fillings_many : Dx P w K mg base "fillings_many" 8 ["sizes", "draft"] (sp_fillings_many K mg)) (D_farthest : Dx P w K mg base "farthest" 6 ["sizes"] (sp_farthest K mg)) (D_run : Df P w K mg base "run" 6 ["sizes", "draft"] (sp_run K)) (D_first_filling : Dx P w K mg base "first_filling" 8 ["sizes", "draft"] (sp_first_filling K mg)) (D_strip_text : Df P w K mg base "strip_text" 5 ["strip"] (sp_strip_text K)) : Mt P w K mg base (L2.CX P w) C "asked" 9 ["self", "row", "sizes", "draft"] (sp_asked K mg) := by
  have nd := sc_asked.nd
  refine mt_mk (k := 8) F sc_asked (fun _ _ _ _ _ _ us hl => match us, hl with | [_, _, _, _], _ => rfl) (ln_asked) (fun f cdv A outer s H vs Q E hr h => ?_)
  have tk : L2.Takes (cxOf (L2.CX P w) P w K mg base ["self", "row", "sizes", "draft", "found"] "Desk.asked" (defScope (inClass (top 90) 5)) f cdv A outer s H E) (WXof E) := takes_def
  refine ⟨_, (pss_cons (ps_if (pt_cmpR op_eq (pv 1) pe_str (nomark _)) (pss_one (ps_ret (pe_d D_draft_text (hr.mono (by decide)) rfl (pa_cons (pv 3) pa_nil)))) pss_nil)
      (pss_cons (ps_if (pt_cmpR op_eq (pv 1) pe_str (nomark _)) (pss_one (ps_ret (pe_d D_sizes_text (hr.mono (by decide)) rfl (pa_cons (pv 2) pa_nil)))) pss_nil)
      (pss_cons (ps_if (pt_cmpR op_eq (pv 1) pe_str (nomark _)) (pss_one (ps_ret (pe_ifExp (pt_val (pe_d D_clean (hr.mono (by decide)) rfl (pa_cons (pv 2) (pa_cons (pv 3) pa_nil)))) pe_str pe_str))) pss_nil)
      (pss_cons (ps_if (pt_cmpR op_eq (pv 1) pe_str (nomark _)) (pss_one (ps_ret (pe_callTy call_str_int rfl T.b_str (by decide +kernel) (pa_cons (pe_dx tk D_fillings_many (hr.mono (by decide)) rfl (pa_cons (pv 2) (pa_cons (pv 3) pa_nil))) pa_nil)))) pss_nil)
      (pss_cons (ps_if (pt_cmpR op_eq (pv 1) pe_str (nomark _)) (pss_one (ps_ret (pe_callTy call_str_int rfl T.b_str (by decide +kernel) (pa_cons (pe_dx tk D_farthest (hr.mono (by decide)) rfl (pa_cons (pv 2) pa_nil)) pa_nil)))) pss_nil)
      (pss_cons (ps_if (pt_cmpR op_eq (pv 1) pe_str (nomark _)) (pss_cons (ps_set (i := 4) nd rfl (by first | exact Or.inl rfl | exact Or.inr rfl) (pe_ix (r := rIxT K) ix_tup (pe_d D_run (hr.mono (by decide)) rfl (pa_cons (pv 2) (pa_cons (pv 3) pa_nil))) pe_int (fun _ _ => rfl)))
      (pss_one (ps_ret (pe_ifExp (pt_cmpR op_isN (pv 4) pe_non (nomark _)) pe_str (pe_callTy call_str_int rfl T.b_str (by decide +kernel) (pa_cons (pv 4) pa_nil)))))) pss_nil)
      (pss_cons (ps_set (i := 4) nd rfl (by first | exact Or.inl rfl | exact Or.inr rfl) (pe_dx tk D_first_filling (hr.mono (by decide)) rfl (pa_cons (pv 2) (pa_cons (pv 3) pa_nil))))
      (pss_one (ps_ret (pe_ifExp (pt_cmpR op_isN (pv 4) pe_non (nomark _)) pe_str (pe_d D_strip_text (hr.mono (by decide)) rfl (pa_cons (pv 4) pa_nil)))))))))))), ?_⟩
  obtain ⟨v0, q, sz, dr, v2, v3, rfl, h2, h3, hm, od, hl, k⟩ := h
  have ok := menu_ok hm
  have hu := dr_hu ok od
  refine q_when (b := decide (qT q = qT .draft)) (et_test (K := K) (ed_op (ed_var (.str _)) ed_str rv_eqS)) (fun hb H1 e1 => ?_) (fun n1 H1 e1 => ?_)
  · obtain rfl := q_inj (of_decide_eq_true hb)
    exact r_retD (K := K) (en_call (eda_cons (ed_var (dpx e1 h3)) eda_nil) ⟨dr, rfl, hu, rfl⟩).toD (kk e1 k)
  refine q_when (b := decide (qT q = qT .sizes)) (et_test (K := K) (ed_op (ed_var (.str _)) ed_str rv_eqS)) (fun hb H2 e2 => ?_) (fun n2 H2 e2 => ?_)
  · obtain rfl := q_inj (of_decide_eq_true hb)
    exact r_retD (K := K) (en_call (eda_cons (ed_var (dpx (e1.trans e2) h2)) eda_nil) ⟨sz, rfl, ok, rfl⟩).toD (kk (e1.trans e2) k)
  refine q_when (b := decide (qT q = qT .clean)) (et_test (K := K) (ed_op (ed_var (.str _)) ed_str rv_eqS)) (fun hb H3 e3 => ?_) (fun n3 H3 e3 => ?_)
  · obtain rfl := q_inj (of_decide_eq_true hb)
    have e := (e1.trans e2).trans e3
    refine r_retD (K := K) (d := .str (if wrong sz dr then "no" else "yes")) (ed_if (b := !wrong sz dr) (et_B (en_call (eda_cons (ed_var (dpx e h2)) (eda_cons (ed_var (dpx e h3)) eda_nil)) ⟨sz, dr, rfl, ok, od, rfl⟩).toD) (fun hw => ?_) (fun hw => ?_)) (kk e k)
    · rw [if_neg (by rw [Bool.not_eq_true'] at hw; rw [hw]; decide)]
      exact ed_str
    · rw [if_pos (by rw [Bool.not_eq_false'] at hw; exact hw)]
      exact ed_str
  have e := (e1.trans e2).trans e3
  refine q_when (b := decide (qT q = qT .fillings)) (et_test (K := K) (ed_op (ed_var (.str _)) ed_str rv_eqS)) (fun hb H4 e4 => ?_) (fun n4 H4 e4 => ?_)
  · obtain rfl := q_inj (of_decide_eq_true hb)
    refine r_retStr (K := K) (mg := mg) (E := E) (ee_call (eda_cons (ed_var (dpx (e.trans e4) h2)) (eda_cons (ed_var (dpx (e.trans e4) h3)) eda_nil)) ⟨sz, dr, rfl, ok, od, rfl⟩) (fun d hd => ?_) (fun x hx => ?_)
    · by_cases hw : waysM sz dr ≤ 512
      · rw [if_pos hw] at hd
        cases hd
        refine ⟨_, rfl, ?_, fun H5 e5 => ?_⟩
        · have a1 : (fillM sz dr).length ≤ 512 := by
            unfold fillM
            split
            · simp
            · exact Nat.le_trans (fillUp_len sz dr (blanksM dr)) hw
          omega
        · have k2 : ResQ K mg H (Except.map PyData.str (ansM sz dr .fillings)) Q E := k
          unfold ansM at k2
          rw [if_pos hw] at k2
          exact k2 _ H5 ((e.trans e4).trans e5) (.str _)
      · rw [if_neg hw] at hd
        cases hd
    · by_cases hw : waysM sz dr ≤ 512
      · rw [if_pos hw] at hx
        cases hx
      · rw [if_neg hw] at hx
        cases hx
        have k2 : ResQ K mg H (Except.map PyData.str (ansM sz dr .fillings)) Q E := k
        unfold ansM at k2
        rw [if_neg hw] at k2
        exact RzE.mono k2 (e.trans e4)
  refine q_when (b := decide (qT q = qT .far)) (et_test (K := K) (ed_op (ed_var (.str _)) ed_str rv_eqS)) (fun hb H5 e5 => ?_) (fun n5 H5 e5 => ?_)
  · obtain rfl := q_inj (of_decide_eq_true hb)
    have e' := (e.trans e4).trans e5
    have k2 : ResQ K mg H (Except.map PyData.str (ansM sz dr .far)) Q E := k
    unfold ansM at k2
    refine r_retStr (K := K) (mg := mg) (E := E) (ee_call (eda_cons (ed_var (dpx e' h2)) eda_nil) ⟨sz, farN sz, rfl, ok, fun hp => menu_far hm hp, rfl⟩) (fun d hd => ?_) (fun x hx => ?_)
    · by_cases hw : prodM sz ≤ 12
      · rw [if_pos hw] at hd k2
        cases hd
        have := (menu_far hm hw).hi
        have := (menu_far hm hw).pos
        exact ⟨_, rfl, by omega, fun H6 e6 => k2 _ H6 (e'.trans e6) (.str _)⟩
      · rw [if_neg hw] at hd
        cases hd
    · by_cases hw : prodM sz ≤ 12
      · rw [if_pos hw] at hx
        cases hx
      · rw [if_neg hw] at hx k2
        cases hx
        exact RzE.mono k2 e'
  have e' := (e.trans e4).trans e5
  refine q_when (b := decide (qT q = qT .stuck)) (et_test (K := K) (ed_op (ed_var (.str _)) ed_str rv_eqS)) (fun hb H6 e6 => ?_) (fun n6 H6 e6 => ?_)
  · obtain rfl := q_inj (of_decide_eq_true hb)
    have e9 := e'.trans e6
    have hr := runF_ok sz ((blanksM dr).length + 1) dr od
    have k2 : ResQ K mg H (Except.map PyData.str (ansM sz dr .stuck)) Q E := k
    unfold ansM at k2
    refine r_asg (K := K) (d := stuckD (runM sz dr).2) (ed_runIx (eda_cons (ed_var (dpx e9 h2)) (eda_cons (ed_var (dpx e9 h3)) eda_nil)) ok od fun st => atI_nat (j := 2) rfl) fun v4 H7 e7 d4 => ?_
    refine r_retD (K := K) (d := .str _) ?_ (kk (e9.trans e7) k2)
    refine ed_if (b := isNo (stuckD (runM sz dr).2)) (et_test (ed_op (ed_var d4) ed_non rv_isN)) (fun hb => ?_) (fun hb => ?_)
    · cases hs : (runM sz dr).2 with
      | none => exact ed_str
      | some p => rw [hs] at hb; cases hb
    · cases hs : (runM sz dr).2 with
      | none => rw [hs] at hb; cases hb
      | some p =>
        rw [hs] at d4
        have hp := hr.2.2 p hs
        exact ed_strI (ed_var d4) (by omega)
  have e9 := e'.trans e6
  have hq : q = .first := by
    cases q <;> first | rfl | exact absurd n1 (by decide) | exact absurd n2 (by decide) | exact absurd n3 (by decide) | exact absurd n4 (by decide) | exact absurd n5 (by decide) | exact absurd n6 (by decide)
  subst hq
  have k2 : ResQ K mg H (Except.map PyData.str (if waysM sz dr ≤ 512 then .ok (match fillM sz dr with | [] => "no" | a :: _ => dtxt a) else .error "TooGreat")) Q E := k
  refine r_asgE (K := K) (mg := mg) (E := E) (ee_call (eda_cons (ed_var (dpx e9 h2)) (eda_cons (ed_var (dpx e9 h3)) eda_nil)) ⟨sz, dr, rfl, ok, od, rfl⟩) (fun d hd v4 H7 e7 n => ?_) (fun x hx => ?_)
  · by_cases hw : waysM sz dr ≤ 512
    · rw [if_pos hw] at hd k2
      cases hd
      have d4 := n.dp
      refine r_retD (K := K) (d := .str _) ?_ (kk (e9.trans e7) k2)
      cases hf : fillM sz dr with
      | nil =>
        rw [hf] at d4
        exact ed_if (b := true) (et_test ((ed_op (ed_var d4) ed_non rv_isN).eq rfl)) (fun _ => ed_str) (fun z => by cases z)
      | cons a r =>
        rw [hf] at d4
        have hfull := fill_full od (show a ∈ fillM sz dr by rw [hf]; exact List.mem_cons_self)
        refine ed_if (b := false) (et_test ((ed_op (ed_var d4) ed_non rv_isN).eq rfl)) (fun z => by cases z) (fun _ => ?_)
        exact (en_call (eda_cons (ed_var d4) eda_nil) ⟨a, rfl, ⟨by rw [hfull.1]; omega, fun x hx => by have := hfull.2 x hx; have := ok.hi; omega⟩, rfl⟩).toD
    · rw [if_neg hw] at hd
      cases hd
  · by_cases hw : waysM sz dr ≤ 512
    · rw [if_pos hw] at hx
      cases hx
    · rw [if_neg hw] at hx k2
      cases hx
      exact RzE.mono k2 e9
end
end EH

set_option Elab.async false
set_option linter.all false
set_option maxRecDepth 100000
set_option maxHeartbeats 4000000
namespace EH
open PySem PySem.Spec PyProof.Rows L2 Evl
/-- what say and plain promise of a row -/
def SayQ (K : PySem.W.Frag) (mg : Str → Option Value) (C : Addr) (H : Hp) (a l : Addr) (r : Except Str (Str × List St2)) (Q : VK) (E : XK) : Prop := match r with
  | .ok (z, st) => ∀ H', Keep l H H' → DeskAt K C H' a l st → Q (.str z) H'
  | .error x => RzE mg x H E
def PlainRw : Rw → Prop
  | .run => True
  | .back => True
  | .ask _ => True
  | _ => False
section
variable {P : Program} {w : World} {K : PySem.W.Frag} {mg : Str → Option Value} {base : Heap} {C pP dS : Addr}
theorem SayQ.mono {H H1 : Hp} {a l : Addr} {r : Except Str (Str × List St2)} {Q : VK} {E : XK} (h : SayQ K mg C H a l r Q E) (e : Ex H H1) : SayQ K mg C H1 a l r Q E := by
  cases r with
  | ok p => exact fun H' k d => h H' ((Keep.of e).trans k) d
  | error x => exact RzE.mono h e
def sp_plain (K : PySem.W.Frag) (mg : Str → Option Value) (C : Addr) : Sp := fun vs H Q E => ∃ a l b sz dr rw, vs = [.ref a, .str (rowW rw)] ∧ DeskAt K C H a l (b ++ [(sz, dr)]) ∧ StG (b ++ [(sz, dr)]) ∧ PlainRw rw ∧ SayQ K mg C H a l (sayR b sz dr rw) Q E
theorem ln_plain : ∀ vs H Q E, sp_plain K mg C vs H Q E → vs.length = 2 := fun vs H Q E ⟨_, _, _, _, _, _, e, _⟩ => by rw [e]; rfl
theorem st_last {b : List St2} {sz : List Nat} {dr : List Int} (g : StG (b ++ [(sz, dr)])) : sz ∈ menus ∧ DrOk sz dr ∧ dr.length ≤ 10 := g.all (sz, dr) (by simp)
theorem last_snoc {b : List St2} {x : St2} (h : b.getLast? = some x) : ∃ b', b = b' ++ [x] := by
  obtain ⟨ys, rfl⟩ := List.getLast?_eq_some_iff.mp h
  exact ⟨ys, rfl⟩
theorem sc_plain : FnScope ["self", "row", "sizes", "draft"] ["self", "row"] (defScope (inClass (top 90) 4)) := ⟨rfl, rfl, rfl, by decide +kernel, rfl, by decide +kernel, by decide +kernel⟩
theorem mt_plain (T : TxtX P w K mg base) (Y : DeskK w K mg C pP dS) (F : FnMt K C "plain" "Desk.plain" (inClass (top 90) 4)) (D_draft_text : Df P w K mg base "draft_text" 3 ["draft"] (sp_draft_text K)) (M_put : Mt P w K mg base CX0 C "put" 4 ["self", "sizes", "draft"] (sp_put K C)) (D_run : Df P w K mg base "run" 6 ["sizes", "draft"] (sp_run K)) (M_asked : Mt P w K mg base (L2.CX P w) C "asked" 9 ["self", "row", "sizes", "draft"] (sp_asked K mg)) : Mt P w K mg base (L2.CX P w) C "plain" 10 ["self", "row"] (sp_plain K mg C) := by
  have nd := sc_plain.nd
  refine mt_mk (k := 9) F sc_plain (fun _ _ _ _ _ _ us hl => match us, hl with | [_, _], _ => rfl) (ln_plain) (fun f cdv A outer s H vs Q E hr h => ?_)
  have tk : L2.Takes (cxOf (L2.CX P w) P w K mg base ["self", "row", "sizes", "draft"] "Desk.plain" (defScope (inClass (top 90) 4)) f cdv A outer s H E) (WXof E) := takes_def
  refine ⟨_, (pss_cons (ps_asg (pe_ix (r := rIxL K) ix_list (pe_fld (pv 0) rfl) (pe_un un_neg pe_int) (fun _ _ => rfl)) (pg_tup rfl (pgs_cons (pg_name (i := 2) nd rfl (by first | exact Or.inl rfl | exact Or.inr rfl)) (pgs_cons (pg_name (i := 3) nd rfl (by first | exact Or.inl rfl | exact Or.inr rfl)) pgs_nil))))
      (pss_cons (ps_if (pt_cmpR op_eq (pv 1) pe_str (nomark _)) (pss_cons (ps_if (pt_cmpR op_eq (pe_callB (r := rLn K) call_len rfl T.b_len (by decide +kernel) (pa_cons (pe_fld (pv 0) rfl) pa_nil)) pe_int (nomark _)) (pss_one (L2.ps_raise rfl tk (pmk_ec T.e_NoDeed rfl))) pss_nil)
      (pss_cons (ps_expr (pe_bm0 PySem.F.plainAttrs_list PySem.F.slot_list_pop PySem.F.type_list_pop mt_pop (pe_fld (pv 0) rfl)))
      (pss_one (ps_ret (pe_d D_draft_text (hr.mono (by decide)) rfl (pa_cons (pe_ix (r := rIxT K) ix_tup (pe_ix (r := rIxL K) ix_list (pe_fld (pv 0) rfl) (pe_un un_neg pe_int) (fun _ _ => rfl)) pe_int (fun _ _ => rfl)) pa_nil)))))) pss_nil)
      (pss_cons (ps_if (pt_cmpR op_eq (pv 1) pe_str (nomark _)) (pss_cons (ps_if (pt_cmpR (r := rEqD K) (op_eqD hr.units) (pv 3) (pe_tup pa_nil) (nomark _)) (pss_one (L2.ps_raise rfl tk (pmk_ec T.e_NoDeed rfl))) pss_nil)
      (pss_one (ps_ret (pe_mt Y.cls M_put (hr.mono (by decide)) pass0 (pv 0) (pa_cons (pv 2) (pa_cons (pe_slice (r := rSlA K) sl_tupA (pv 3) po_none (po_some (pe_un un_neg pe_int))) pa_nil)))))) pss_nil)
      (pss_cons (ps_if (pt_cmpR op_eq (pv 1) pe_str (nomark _)) (pss_one (ps_ret (pe_mt Y.cls M_put (hr.mono (by decide)) pass0 (pv 0) (pa_cons (pv 2) (pa_cons (pe_ix (r := rIxT K) ix_tup (pe_d D_run (hr.mono (by decide)) rfl (pa_cons (pv 2) (pa_cons (pv 3) pa_nil))) pe_int (fun _ _ => rfl)) pa_nil))))) pss_nil)
      (pss_one (ps_ret (pe_mt Y.cls M_asked (hr.mono (by decide)) (L2.passes_call tk (fun _ _ _ _ h => h)) (pv 0) (pa_cons (pv 1) (pa_cons (pv 2) (pa_cons (pv 3) pa_nil)))))))))), ?_⟩
  obtain ⟨a, l, b, sz, dr, rw, rfl, hd, g, hp, k⟩ := h
  obtain ⟨hm, od, hl⟩ := st_last g
  have ok := menu_ok hm
  have hlen := g.len
  refine r_pair (K := K) (ed_lastK Y.cls Y.na hd) fun v2 v3 H1 e1 d2 d3 => ?_
  have d2 : Dp K H1 v2 (nT sz) := d2
  have d3 : Dp K H1 v3 (iT dr) := d3
  have hd1 := hd.ex e1
  cases rw with
  | setS _ => exact hp.elim
  | act _ => exact hp.elim
  | opn _ => exact hp.elim
  | back =>
    refine q_when (b := true) (et_test (K := K) (ed_op (ed_var (.str _)) ed_str rv_eqS)) (fun _ H2 e2 => ?_) (fun z => by cases z)
    have hd2 := hd1.ex e2
    refine q_when (b := decide ((((b ++ [(sz, dr)]).map deskD).length : Int) = 1)) (et_test (K := K) (ed_op (ed_lenL (ed_kept Y.cls Y.na hd2)) ed_int rv_eqI)) (fun hb H3 e3 => ?_) (fun hb H3 e3 => ?_)
    · have hb : b = [] := by
        have := of_decide_eq_true hb
        rw [List.length_map, List.length_append] at this
        exact List.length_eq_zero_iff.mp (by simp at this; omega)
      rw [hb] at k
      have k2 : RzE mg "NoDeed" H E := k
      exact fun c hc => k2 c none H3 hc ((e1.trans e2).trans e3) dok_none
    · cases hx : b.getLast? with
      | none =>
        have hbn : b = [] := List.getLast?_eq_none_iff.mp hx
        rw [hbn] at hb
        have := of_decide_eq_false hb
        simp at this
      | some x =>
        obtain ⟨b', rfl⟩ := last_snoc hx
        have k2 : ∀ H', Keep l H H' → DeskAt K C H' a l (b' ++ [x]) → Q (.str (dtxt x.2)) H' := by
          have e : sayR (b' ++ [x]) sz dr .back = .ok (dtxt x.2, b' ++ [x]) := by
            simp only [sayR]
            rw [hx]
          rw [e] at k
          exact k
        obtain ⟨gm, go, gl⟩ := g.all x (by simp)
        have hd3 := hd2.ex e3
        obtain ⟨xs, hxs, hxa⟩ := hd3.kept
        obtain ⟨dx, hi⟩ := hd3.ins
        rw [List.map_append] at hxa
        have hl1 := dpa_len hxa
        rw [List.length_append] at hl1
        have hl2 : xs.length = (b' ++ [x]).length + 1 := by rw [hl1, List.length_map]; rfl
        obtain ⟨y, hy⟩ : ∃ y, xs[xs.length - 1]? = some y := ⟨xs[xs.length - 1]'(by omega), by rw [List.getElem?_eq_getElem]⟩
        have hdrop : DpAll K H3 xs.dropLast ((b' ++ [x]).map deskD) := by
          have q := dpa_take ((b' ++ [x]).length) hxa
          rw [List.take_append_of_le_length (by rw [List.length_map]; exact Nat.le_refl _), List.take_of_length_le (l := (b' ++ [x]).map deskD) (by rw [List.length_map]; exact Nat.le_refl _)] at q
          rw [List.dropLast_eq_take, hl2, Nat.add_sub_cancel]
          exact q
        refine ⟨_, rfl, a, C, dx, _, .ref l, rfl, hi, Y.cls, Y.na, rfl, .inl ⟨rfl, xs, sq_of hxs⟩, l, xs, y, rfl, rfl, hxs, hy, ?_⟩
        have hd4 := hd3.put hdrop
        have kp : Keep l H (upd H3 l (.lst xs.dropLast)) := (Keep.of ((e1.trans e2).trans e3)).trans Keep.upd
        refine r_retD (K := K) (d := .str (dtxt x.2)) (en_call (eda_cons (ed_op (a := deskD x) (ed_lastK Y.cls Y.na hd4) ed_int (rv_ixT (d := iT x.2) (atI_nat (j := 1) rfl))) eda_nil) ⟨x.2, rfl, dr_hu (menu_ok gm) go, rfl⟩).toD fun z H5 e5 dz => ?_
        rw [dp_str dz.dp]
        exact k2 H5 (kp.trans (Keep.of e5)) (hd4.ex e5)
  | run =>
    refine q_when (b := false) (et_test (K := K) (ed_op (ed_var (.str _)) ed_str rv_eqS)) (fun z => by cases z) (fun _ H2 e2 => ?_)
    refine q_when (b := false) (et_test (K := K) (ed_op (ed_var (.str _)) ed_str rv_eqS)) (fun z => by cases z) (fun _ H3 e3 => ?_)
    refine q_when (b := true) (et_test (K := K) (ed_op (ed_var (.str _)) ed_str rv_eqS)) (fun _ H4 e4 => ?_) (fun z => by cases z)
    have e := (e2.trans e3).trans e4
    have hr := runF_ok sz ((blanksM dr).length + 1) dr od
    refine m_call (hd1.ex e) (by decide) (eda_cons (ed_var (dpx e d2)) (eda_cons (ed_runIx (eda_cons (ed_var (dpx e d2)) (eda_cons (ed_var (dpx e d3)) eda_nil)) ok od fun st => atI_nat (j := 0) rfl) eda_nil)) (fun vs H5 e5 dvs hd5 => ?_)
    obtain ⟨x, y, rfl, dx, dy⟩ := dpa2 dvs
    exact ⟨a, l, _, sz, (runM sz dr).1, x, y, rfl, hd5, dx, dy, dr_hu ok hr.1, by omega, fun H6 kp hd6 => k H6 ((Keep.of ((e1.trans e).trans e5)).trans kp) hd6⟩
  | ask q =>
    have no : ∀ z : Str, (z = "back" ∨ z = "cut" ∨ z = "run") → decide (rowW (.ask q) = z) = false := fun z hz => by
      rcases hz with rfl | rfl | rfl <;> cases q <;> decide +kernel
    refine q_when (b := false) (et_is (et_test (K := K) (ed_op (ed_var (.str _)) ed_str rv_eqS)) (no _ (.inl rfl))) (fun z => by cases z) (fun _ H2 e2 => ?_)
    refine q_when (b := false) (et_is (et_test (K := K) (ed_op (ed_var (.str _)) ed_str rv_eqS)) (no _ (.inr (.inl rfl)))) (fun z => by cases z) (fun _ H3 e3 => ?_)
    refine q_when (b := false) (et_is (et_test (K := K) (ed_op (ed_var (.str _)) ed_str rv_eqS)) (no _ (.inr (.inr rfl)))) (fun z => by cases z) (fun _ H4 e4 => ?_)
    have e := (e2.trans e3).trans e4
    refine m_call (hd1.ex e) (by decide) (eda_cons (d := .str (qT q)) (ed_var (.str _)) (eda_cons (ed_var (dpx e d2)) (eda_cons (ed_var (dpx e d3)) eda_nil))) (fun vs H5 e5 dvs hd5 => ?_)
    obtain ⟨x, y, z, rfl, dx, dy, dz⟩ := dpa3 dvs
    rw [dp_str dx]
    have e9 := (e1.trans e).trans e5
    refine ⟨_, q, sz, dr, y, z, rfl, dy, dz, hm, od, hl, ?_⟩
    have k2 : SayQ K mg C H a l ((ansM sz dr q).map fun z => (z, b ++ [(sz, dr)])) Q E := k
    cases ha : ansM sz dr q with
    | ok t =>
      rw [ha] at k2
      have k3 : ∀ H', Keep l H H' → DeskAt K C H' a l (b ++ [(sz, dr)]) → Q (.str t) H' := k2
      exact fun u H6 e6 n => by
        rw [dp_str n.dp]
        exact k3 H6 (Keep.of (e9.trans e6)) (hd5.ex e6)
    | error x =>
      rw [ha] at k2
      exact RzE.mono (show RzE mg x H E from k2) e9
end
end EH

set_option Elab.async false
set_option linter.all false
set_option maxRecDepth 100000
set_option maxHeartbeats 4000000
namespace EH
open PySem PySem.Spec PyProof.Rows L2 Evl
def NotSet : Rw → Prop
  | .setS _ => False
  | _ => True
theorem w_free : ∀ {rw : Rw}, NotSet rw → 32 ∉ (rowW rw).cps.toList
  | .setS _, h => h.elim
  | .act (.more _), _ => by show 32 ∉ (("more" : Str)).cps.toList; decide +kernel
  | .act (.put _ _), _ => by show 32 ∉ (("put" : Str)).cps.toList; decide +kernel
  | .act (.clear _), _ => by show 32 ∉ (("clear" : Str)).cps.toList; decide +kernel
  | .opn _, _ => by show 32 ∉ (("open" : Str)).cps.toList; decide +kernel
  | .run, _ => by decide +kernel
  | .back, _ => by decide +kernel
  | .ask q, _ => by cases q <;> decide +kernel
theorem w_len : ∀ {rw : Rw}, (rowW rw).length ≤ 8
  | .setS _ => by show (("sizes" : Str)).length ≤ 8; decide +kernel
  | .act (.more _) => by show (("more" : Str)).length ≤ 8; decide +kernel
  | .act (.put _ _) => by show (("put" : Str)).length ≤ 8; decide +kernel
  | .act (.clear _) => by show (("clear" : Str)).length ≤ 8; decide +kernel
  | .opn _ => by show (("open" : Str)).length ≤ 8; decide +kernel
  | .run => by decide +kernel
  | .back => by decide +kernel
  | .ask q => by cases q <;> decide +kernel
theorem fig_free (n : Nat) (h : n ≤ 9) : 32 ∉ (fig n).cps.toList := by
  show 32 ∉ [48 + n]
  simp
  omega
theorem glue_split {w : Str} {ns : List Nat} (hw : 32 ∉ w.cps.toList) (hn : ∀ n ∈ ns, n ≤ 9) : Txt.split (glueT w ns) blankT = w :: ns.map fig := by
  unfold glueT
  refine TL.split_join (y := blankT) (s := 32) (S := []) (by decide +kernel) (by decide +kernel) (by simp) fun p hp => ?_
  rcases List.mem_cons.mp hp with rfl | hp
  · exact hw
  · obtain ⟨n, hn', rfl⟩ := List.mem_map.mp hp
    exact fig_free n (hn n hn')
theorem glue_one (w : Str) : glueT w [] = w := by
  unfold glueT
  rw [TL.join_eq]
  rfl
theorem glue_more (w : Str) (n : Nat) (r : List Nat) : glueT w (n :: r) = w ++ blankT ++ Txt.join blankT ((n :: r).map fig) := by
  unfold glueT
  rw [TL.join_eq, TL.join_eq]
  rfl
theorem glue_part {w : Str} {ns : List Nat} (hw : 32 ∉ w.cps.toList) : (Txt.partition (glueT w ns) blankT).1 = w ∧ (Txt.partition (glueT w ns) blankT).2.1 = if ns = [] then Str.empty else blankT := by
  cases ns with
  | nil =>
    rw [glue_one, TL.partition_none (y := blankT) (s := 32) (S := []) (by decide +kernel) hw]
    exact ⟨rfl, rfl⟩
  | cons n r =>
    rw [glue_more, TL.partition_app (y := blankT) (s := 32) (S := []) (by decide +kernel) hw]
    exact ⟨rfl, rfl⟩
theorem glue_len {w : Str} {ns : List Nat} (hw : w.length ≤ 8) (hn : ns.length ≤ 2) : (glueT w ns).length ≤ 40 := by
  unfold glueT
  rw [TL.join_eq]
  have h := StrLaws.join_length_le blankT (w :: ns.map fig)
  rw [List.map_cons, List.sum_cons, lens_fig, List.length_cons, List.length_map] at h
  have c : blankT.length = 1 := by decide +kernel
  rw [c] at h
  omega
theorem row_glue : ∀ {rw : Rw}, NotSet rw → rowT rw = glueT (rowW rw) (rowN rw)
  | .setS _, h => h.elim
  | .act _, _ => rfl
  | .opn _, _ => rfl
  | .run, _ => rfl
  | .back, _ => rfl
  | .ask _, _ => rfl
theorem row_nums {sz : List Nat} {dr : List Int} (hs : sz.length ≤ 4) (hl : dr.length ≤ 10) : ∀ {rw : Rw}, RwOk sz dr rw → (rowN rw).length ≤ 2 ∧ ∀ n ∈ rowN rw, n ≤ 9
  | .setS _, _ => ⟨by simp [rowN], by simp [rowN]⟩
  | .act (.more n), h => ⟨by simp [rowN, actN], fun x hx => by
      have : x = n := by simpa [rowN, actN] using hx
      have h2 : 1 ≤ n ∧ n ≤ 9 ∧ dr.length + n ≤ 10 := h
      omega⟩
  | .act (.put p x), h => ⟨by simp [rowN, actN], fun y hy => by
      have : y = p ∨ y = x := by simpa [rowN, actN] using hy
      have h2 : p < dr.length ∧ dr.getD p 0 = -1 ∧ x < sz.length := h
      omega⟩
  | .act (.clear p), h => ⟨by simp [rowN, actN], fun y hy => by
      have : y = p := by simpa [rowN, actN] using hy
      have h2 : p < dr.length ∧ dr.getD p 0 ≠ -1 := h
      omega⟩
  | .opn p, h => ⟨by simp [rowN], fun x hx => by
      have : x = p := by simpa [rowN] using hx
      have h2 : p ≤ 9 := h
      omega⟩
  | .run, _ => ⟨by simp [rowN], by simp [rowN]⟩
  | .back, _ => ⟨by simp [rowN], by simp [rowN]⟩
  | .ask _, _ => ⟨by simp [rowN], by simp [rowN]⟩
/-- the word alone names no sizes row -/
theorem row_no : ∀ {rw : Rw}, NotSet rw → (decide (rowW rw = ("sizes" : Str)) && !decide ((if rowN rw = [] then Str.empty else blankT) = ("" : Str))) = false
  | .setS _, h => h.elim
  | .act (.more _), _ => by rw [show decide (rowW (.act (.more _)) = ("sizes" : Str)) = false by show decide (("more" : Str) = "sizes") = false; decide +kernel]; rfl
  | .act (.put _ _), _ => by rw [show decide (rowW (.act (.put _ _)) = ("sizes" : Str)) = false by show decide (("put" : Str) = "sizes") = false; decide +kernel]; rfl
  | .act (.clear _), _ => by rw [show decide (rowW (.act (.clear _)) = ("sizes" : Str)) = false by show decide (("clear" : Str) = "sizes") = false; decide +kernel]; rfl
  | .opn _, _ => by rw [show decide (rowW (.opn _) = ("sizes" : Str)) = false by show decide (("open" : Str) = "sizes") = false; decide +kernel]; rfl
  | .run, _ => by decide +kernel
  | .back, _ => by decide +kernel
  | .ask q, _ => by cases q <;> decide +kernel
theorem set_part (s : List Nat) : Txt.partition (("sizes " : Str) ++ ntxt s) blankT = (("sizes" : Str), blankT, ntxt s) := by
  have e : (("sizes " : Str)) = ("sizes" : Str) ++ blankT := by decide +kernel
  rw [e, TL.partition_app (y := blankT) (s := 32) (S := []) (by decide +kernel) (by decide +kernel)]
theorem shaped_natD (ns : List Nat) : SeqAt.shaped (.list (natD ns)) = true := by
  have e : natD ns = (toI ns).map PyData.int := by
    unfold natD toI
    rw [List.map_map]
    rfl
  rw [e]
  exact shaped_list ⟨(lay_ints _).1, by have := (lay_ints (toI ns)).2; omega⟩
theorem act_no : ∀ ac : Act, decide (rowW (.act ac) = ("open" : Str)) = false
  | .more _ => by show decide (("more" : Str) = "open") = false; decide +kernel
  | .put _ _ => by show decide (("put" : Str) = "open") = false; decide +kernel
  | .clear _ => by show decide (("clear" : Str) = "open") = false; decide +kernel
theorem str_app_len (a b : Str) : (a ++ b).length = a.length + b.length := by
  show (a.cps ++ b.cps).size = _
  rw [Array.size_append]
  rfl
section
variable {P : Program} {w : World} {K : PySem.W.Frag} {mg : Str → Option Value} {base : Heap} {C pP dS : Addr}
theorem srt_ok (Y : DeskK w K mg C pP dS) : ∀ {rw : Rw}, NotSet rw → (rowN rw = [] ∧ PySem.W.nsIn K dS (rowW rw) = some none) ∨ ∃ t, PySem.W.nsIn K dS (rowW rw) = some (some (.int ((rowN rw).length : Nat) t))
  | .setS _, h => h.elim
  | .act (.more _), _ => .inr (Y.n1 _ (by simp [rowW, actW]))
  | .act (.put _ _), _ => .inr Y.n2
  | .act (.clear _), _ => .inr (Y.n1 _ (by simp [rowW, actW]))
  | .opn _, _ => .inr (Y.n1 _ (by simp [rowW, actW]))
  | .run, _ => .inl ⟨rfl, Y.n0 _ (by simp [rowW, qT])⟩
  | .back, _ => .inl ⟨rfl, Y.n0 _ (by simp [rowW, qT])⟩
  | .ask .draft, _ => .inl ⟨rfl, Y.n0 _ (by simp [rowW, qT])⟩
  | .ask .sizes, _ => .inl ⟨rfl, Y.n0 _ (by simp [rowW, qT])⟩
  | .ask .clean, _ => .inl ⟨rfl, Y.n0 _ (by simp [rowW, qT])⟩
  | .ask .stuck, _ => .inl ⟨rfl, Y.n0 _ (by simp [rowW, qT])⟩
  | .ask .fillings, _ => .inl ⟨rfl, Y.n0 _ (by simp [rowW, qT])⟩
  | .ask .first, _ => .inl ⟨rfl, Y.n0 _ (by simp [rowW, qT])⟩
  | .ask .far, _ => .inl ⟨rfl, Y.n0 _ (by simp [rowW, qT])⟩
theorem ed_kget {σ : L2.St} {H : Hp} {te tx : TE} {z : Str} {n : Nat} (Y : DeskK w K mg C pP dS) (he : EvD K te σ H (.str z)) (hx : EvD K tx σ H (.int 0)) (h : (n = 0 ∧ PySem.W.nsIn K dS z = some none) ∨ ∃ t, PySem.W.nsIn K dS z = some (some (.int n t))) :
    EvD K (tKGet K w (tC (.ref dS)) te tx) σ H (.int (n : Int)) := fun H1 e Q q => by
  obtain ⟨es, m, kd⟩ := Y.sorts
  refine ⟨dS, es, m, rfl, kd, he H1 e _ fun v H2 e2 dv => ⟨z, dp_str dv, hx H2 (e.trans e2) _ fun u H3 e3 du => ?_⟩⟩
  rcases h with ⟨hn, h⟩ | ⟨t, h⟩
  · subst hn
    exact ⟨none, h, fun _ => by rw [dp_int du]; exact q _ H3 (e2.trans e3) (.int _), fun val hv => nomatch hv⟩
  · refine ⟨_, h, (fun hv => by cases hv), fun val hv => ?_⟩
    cases hv
    exact ⟨.int (n : Int), ⟨t, rfl⟩, q _ H3 (e2.trans e3) (.int _)⟩
theorem rv_noneIn {ns : List Nat} : RvD K (rIn K false) .none (.list (natD ns)) (.bool false) := fun H x y dx dy Q q => by
  obtain ⟨a, xs, rfl, hs, ha⟩ := dp_lst dy
  have e : natD ns = (toI ns).map PyData.int := by
    unfold natD toI
    rw [List.map_map]
    rfl
  rw [e] at ha
  rw [dpa_ints ha] at hs
  rw [dp_non dx]
  refine ⟨a, _, rfl, .inl hs, rfl, ?_, ?_⟩
  · rw [List.all_map]
    exact List.all_eq_true.mpr fun _ _ => rfl
  · have h : inV V.non ((toI ns).map V.int) = false := by
      unfold inV
      rw [List.any_map]
      exact List.any_eq_false.mpr fun x hx => by
        show ¬ (eqV (V.int x) V.non) = true
        exact Bool.false_ne_true
    rw [h]
    exact q _ H (Ex.refl H) (.bl _)
theorem ed_notPlain {σ : L2.St} {H : Hp} {te : TE} {z : Str} (Y : DeskK w K mg C pP dS) (he : EvD K te σ H (.str z)) : EvD K (tOp (rIn K true) te (tC (.ref pP))) σ H (.bool (!inV (.str z) (plainW.map V.str))) := fun H1 e Q q => he H1 e _ fun v H2 e2 dv => by
  rw [dp_str dv]
  obtain ⟨o, its, n, h1, h2, h3, h4, h5⟩ := Y.plain
  exact ⟨pP, _, rfl, .inr (.inr ⟨o, its, n, h1, h2, h3, h4, h5⟩), rfl, by decide +kernel, q _ H2 e2 (.bl _)⟩
theorem plain_in : ∀ {rw : Rw}, NotSet rw → rowN rw = [] → inV (.str (rowW rw)) (plainW.map V.str) = true ∧ PlainRw rw
  | .setS _, h, _ => h.elim
  | .act (.more _), _, h => by cases h
  | .act (.put _ _), _, h => by cases h
  | .act (.clear _), _, h => by cases h
  | .opn _, _, h => by cases h
  | .run, _, _ => ⟨by decide +kernel, True.intro⟩
  | .back, _, _ => ⟨by decide +kernel, True.intro⟩
  | .ask q, _, _ => ⟨by cases q <;> decide +kernel, True.intro⟩
/-- x, y, z = e of three -/
theorem r_three {te : TE} {σ : L2.St} {H : Hp} {D : Ends} {tz : TS} {i j m : Nat} {d1 d2 d3 : PyData} (h : EvD K te σ H (.tuple [d1, d2, d3])) (k : ∀ v1 v2 v3 H1, Ex H H1 → Dp K H1 v1 d1 → Dp K H1 v2 d2 → Dp K H1 v3 d3 → tz D (((σ.set i (some v1)).set j (some v2)).set m (some v3)) H1) :
    tSeq (tAsg te (gTup K 3 (gCons (gName i) (gCons (gName j) (gCons (gName m) gNil))))) tz D σ H := h H (Ex.refl H) _ fun v H1 e dv => by
  obtain ⟨t, xs, rfl, hs, hx⟩ := dp_tupR dv
  have hl := dpa_len hx
  obtain ⟨v1, v2, v3, rfl, h1, h2, h3⟩ := dpa3 hx
  exact ⟨t, _, rfl, st_of hs, hl, v1, _, rfl, v2, _, rfl, v3, _, rfl, rfl, k v1 v2 v3 H1 e h1 h2 h3⟩
def sp_say (K : PySem.W.Frag) (mg : Str → Option Value) (C : Addr) : Sp := fun vs H Q E => ∃ a l b sz dr rw, vs = [.ref a, .str (rowT rw)] ∧ DeskAt K C H a l (b ++ [(sz, dr)]) ∧ StG (b ++ [(sz, dr)]) ∧ RwOk sz dr rw ∧ SayQ K mg C H a l (sayR b sz dr rw) Q E
theorem ln_say : ∀ vs H Q E, sp_say K mg C vs H Q E → vs.length = 2 := fun vs H Q E ⟨_, _, _, _, _, _, e, _⟩ => by rw [e]; rfl
theorem sc_say : FnScope ["self", "row", "word", "blank", "text", "words", "numbers", "one"] ["self", "row"] (defScope (inClass (top 90) 1)) := ⟨rfl, rfl, rfl, by decide +kernel, rfl, by decide +kernel, by decide +kernel⟩
theorem mt_say (T : TxtX P w K mg base) (Y : DeskK w K mg C pP dS) (F : FnMt K C "say" "Desk.say" (inClass (top 90) 1)) (M_put : Mt P w K mg base CX0 C "put" 4 ["self", "sizes", "draft"] (sp_put K C)) (D_sizes_read : Df P w K mg base "sizes_read" 4 ["text"] (sp_sizes_read K)) (D_number_in : Df P w K mg base "number_in" 1 ["word"] (sp_number_in K)) (M_plain : Mt P w K mg base (L2.CX P w) C "plain" 10 ["self", "row"] (sp_plain K mg C)) (D_lot_text : Df P w K mg base "lot_text" 5 ["lot"] (sp_lot_text K)) (D_open_hues : Dx P w K mg base "open_hues" 7 ["sizes", "draft", "place"] (sp_open_hues K mg)) (M_deed : Mt P w K mg base CX0 C "deed" 5 ["self", "word", "one", "other"] (sp_deed K C)) : Mt P w K mg base (L2.CX P w) C "say" 11 ["self", "row"] (sp_say K mg C) := by
  have nd := sc_say.nd
  refine mt_mk (k := 10) F sc_say (fun _ _ _ _ _ _ us hl => match us, hl with | [_, _], _ => rfl) (ln_say) (fun f cdv A outer s H vs Q E hr h => ?_)
  have tk : L2.Takes (cxOf (L2.CX P w) P w K mg base ["self", "row", "word", "blank", "text", "words", "numbers", "one"] "Desk.say" (defScope (inClass (top 90) 1)) f cdv A outer s H E) (WXof E) := takes_def
  refine ⟨_, (pss_cons (ps_if (pt_not (pt_val (pe_callB (r := rIsi K) call_isi rfl T.b_isinstance (by decide +kernel) (pa_cons (pv 1) (pa_cons (pe_bltn (v := .ty "str") rfl T.b_str (by decide +kernel) rfl) pa_nil))))) (pss_one ps_never) pss_nil)
      (pss_cons (ps_asg (pe_partition (pv 1) pe_str) (pg_tup rfl (pgs_cons (pg_name (i := 2) nd rfl (by first | exact Or.inl rfl | exact Or.inr rfl)) (pgs_cons (pg_name (i := 3) nd rfl (by first | exact Or.inl rfl | exact Or.inr rfl)) (pgs_cons (pg_name (i := 4) nd rfl (by first | exact Or.inl rfl | exact Or.inr rfl)) pgs_nil)))))
      (pss_cons (ps_if (PW.pt (pw_and (pt_cmpR op_eq (pv 2) pe_str (nomark _)) (pw_and1 (pt_cmpR op_ne (pv 3) pe_str (nomark _))))) (pss_one (ps_ret (pe_mt Y.cls M_put (hr.mono (by decide)) pass0 (pv 0) (pa_cons (pe_d D_sizes_read (hr.mono (by decide)) rfl (pa_cons (pv 4) pa_nil)) (pa_cons (pe_tup pa_nil) pa_nil))))) pss_nil)
      (pss_cons (ps_set (i := 5) nd rfl (by first | exact Or.inl rfl | exact Or.inr rfl) (pe_split (pv 1) pe_str))
      (pss_cons (ps_setLc (i := 6) (own := [("one", 7)]) (g := gName 7) (tt := tYes) rfl nd rfl rfl (sw_true rfl rfl rfl (by decide +kernel)) (pi_list (pe_slice (r := rSlL K) sl_list (pv 5) (po_some pe_int) po_none)) (blkOk_by (N := ["self", "row", "word", "blank", "text", "words", "numbers", "one"]) (sc := defScope (inClass (top 90) 1)) (by decide +kernel)) (fun _ _ _ _ _ => (pg_name (i := 7) nd rfl (by first | exact Or.inl rfl | exact Or.inr rfl))) (fun _ _ _ _ _ => pts_nil) (fun _ _ _ _ _ => (pe_d D_number_in (hr.mono (by decide)) rfl (pa_cons (pv 7) pa_nil))))
      (pss_cons (ps_if (PW.pt (pw_or (pt_cmpR op_ne (pe_kget (pe_glob (v := .ref dS) rfl Y.mS rfl) (pe_ix (r := rIxL K) ix_list (pv 5) pe_int (fun _ _ => rfl)) pe_int ⟨rfl, rfl, rfl, rfl⟩) (pe_callB (r := rLn K) call_len rfl T.b_len (by decide +kernel) (pa_cons (pv 6) pa_nil)) (nomark _)) (pw_or1 (pt_cmpR (r := rIn K false) op_in_seq pe_non (pv 6) rfl)))) (pss_one ps_never) pss_nil)
      (pss_cons (ps_if (PW.pt (pw_and (pt_cmpR (r := rEqD K) (op_eqD hr.units) (pv 6) (pe_lst pa_nil) (nomark _)) (pw_and1 (pt_cmpR (r := rIn K true) op_notIn_seq (pv 1) (pe_glob (v := .ref pP) rfl Y.mP rfl) rfl)))) (pss_one ps_never) pss_nil)
      (pss_cons (ps_if (pt_cmpR (r := rEqD K) (op_eqD hr.units) (pv 6) (pe_lst pa_nil) (nomark _)) (pss_one (ps_ret (pe_mt Y.cls M_plain (hr.mono (by decide)) (L2.passes_call tk (fun _ _ _ _ h => h)) (pv 0) (pa_cons (pv 1) pa_nil)))) pss_nil)
      (pss_cons (ps_if (pt_cmpR op_eq (pv 2) pe_str (nomark _)) (pss_one (ps_ret (pe_d D_lot_text (hr.mono (by decide)) rfl (pa_cons (pe_dx tk D_open_hues (hr.mono (by decide)) rfl (pa_cons (pe_ix (r := rIxT K) ix_tup (pe_ix (r := rIxL K) ix_list (pe_fld (pv 0) rfl) (pe_un un_neg pe_int) (fun _ _ => rfl)) pe_int (fun _ _ => rfl)) (pa_cons (pe_ix (r := rIxT K) ix_tup (pe_ix (r := rIxL K) ix_list (pe_fld (pv 0) rfl) (pe_un un_neg pe_int) (fun _ _ => rfl)) pe_int (fun _ _ => rfl)) (pa_cons (pe_ix (r := rIxL K) ix_list (pv 6) pe_int (fun _ _ => rfl)) pa_nil)))) pa_nil)))) pss_nil)
      (pss_one (ps_ret (pe_mt Y.cls M_deed (hr.mono (by decide)) pass0 (pv 0) (pa_cons (pv 2) (pa_cons (pe_ix (r := rIxL K) ix_list (pv 6) pe_int (fun _ _ => rfl)) (pa_cons (pe_ix (r := rIxL K) ix_list (pv 6) (pe_un un_neg pe_int) (fun _ _ => rfl)) pa_nil))))))))))))))), ?_⟩
  obtain ⟨a, l, b, sz, dr, rw, rfl, hd, g, hrw, k⟩ := h
  obtain ⟨hm, od, hl⟩ := st_last g
  have ok := menu_ok hm
  have hlen := g.len
  refine q_when (b := false) (et_not (a := true) (et_B (K := K) (ei_str (ed_var (.str _))))) (fun z => by cases z) fun _ H1 e1 => ?_
  by_cases hset : NotSet rw
  · obtain ⟨hn2, hn9⟩ := row_nums ok.hi hl hrw
    have hwf := w_free hset
    have hT := row_glue hset
    have hgl := glue_len (w_len (rw := rw)) hn2
    rw [hT]
    obtain ⟨p1, p2⟩ := glue_part (w := rowW rw) (ns := rowN rw) hwf
    refine r_three (K := K) (ed_part (ed_var (.str _)) ed_str (by decide +kernel) (by omega)) fun v2 v3 v4 H2 e2 d2 d3 d4 => ?_
    have d2 : Dp K H2 v2 (.str (rowW rw)) := by rw [← p1]; exact d2
    have d3 : Dp K H2 v3 (.str (if rowN rw = [] then Str.empty else blankT)) := by rw [← p2]; exact d3
    rw [dp_str d2, dp_str d3]
    refine q_when (b := false) (et_is (et_and (et_test (K := K) (ed_op (K := K) (ed_var (.str _)) ed_str rv_eqS)) fun _ => et_test (ed_op (K := K) (ed_var (.str _)) ed_str rv_neS)) (row_no hset)) (fun z => by cases z) fun _ H3 e3 => ?_
    have hsp : Txt.split (glueT (rowW rw) (rowN rw)) ((" " : Str)) = rowW rw :: (rowN rw).map fig := glue_split hwf hn9
    have qs := fun (v4 : V) (H : Hp) => en_split (K := K) (H := H) (σ := [some (.ref a), some (.str (glueT (rowW rw) (rowN rw))), some (.str (rowW rw)), some (.str (if rowN rw = [] then Str.empty else blankT)), some v4, none, none, none]) (ta := tVar 1) (tb := tC (.str " ")) (ed_var (.str _)) ed_str (by decide +kernel) (by omega)
    simp only [hsp] at qs
    refine r_asgN (K := K) (qs v4 H3) fun q H4 hq e4 hwl => ?_
    obtain ⟨ws, hws, hwa⟩ := hwl
    have dw : Dp K H4 (.ref q) (.list ((rowW rw :: (rowN rw).map fig).map PyData.str)) := .lst hws hwa
    have ecut : cutD ((rowW rw :: (rowN rw).map fig).map PyData.str) (some 1) none = ((rowN rw).map fig).map PyData.str := by
      unfold cutD
      have e1 : HT.sIx ((rowW rw :: (rowN rw).map fig).map PyData.str).length 0 (some 1) = 1 := by
        show min 1 _ = 1
        rw [List.length_map, List.length_cons]
        omega
      have e2 : HT.sIx ((rowW rw :: (rowN rw).map fig).map PyData.str).length ((rowW rw :: (rowN rw).map fig).map PyData.str).length none = ((rowW rw :: (rowN rw).map fig).map PyData.str).length := rfl
      rw [e1, e2, List.take_of_length_le]
      · rfl
      · rw [List.length_drop]
        exact Nat.le_refl _
    refine r_asgN (K := K) (ds := natD (rowN rw)) ((en_lcL (fun _ => true) (fun d => match d with | .str z => .int ((z.cps.toList.getD 0 0 : Nat) - 48) | d => d) ((en_slL (ed_var dw) (eo_at (K := K) ed_int) eo_no).eq (congrArg PyData.list ecut)).toD (by rw [List.length_map, List.length_map]; omega) (fun _ => rfl) (fun _ _ _ _ _ _ => et_yes) (fun e he u H5 e5 du _ => ?_)).eq ?_) fun q2 H5 hq2 e5 hnl => ?_
    · obtain ⟨z, hz, rfl⟩ := List.mem_map.mp he
      obtain ⟨n, hn, rfl⟩ := List.mem_map.mp hz
      have e9 := hn9 n hn
      have er : ((((fig n).cps.toList.getD 0 0 : Nat) : Int) - 48) = (n : Int) := by
        show (((48 + n : Nat) : Int) - 48) = (n : Int)
        omega
      exact ⟨(en_call (eda_cons (ed_var du) eda_nil) ⟨n, rfl, e9, congrArg PyData.int er⟩).toD, rfl⟩
    · unfold comp
      rw [filter_yes, List.map_map, List.map_map]
      refine congrArg PyData.list (List.map_congr_left fun n hn => ?_)
      show PyData.int (((48 + n : Nat) : Int) - 48) = PyData.int (n : Int)
      exact congrArg PyData.int (by omega)
    obtain ⟨ns, hns, hna⟩ := hnl
    have dn : Dp K H5 (.ref q2) (.list (natD (rowN rw))) := .lst hns hna
    have e15 := (((e1.trans e2).trans e3).trans e4).trans e5
    have hd5 := hd.ex e15
    refine q_when (b := false) (et_or (a := false) (b := false) (et_is (et_test (K := K) (ed_op (ed_kget Y (ed_op (ed_var (dpx e5 dw)) ed_int (rv_ixL (d := .str (rowW rw)) (atI_nat (j := 0) rfl))) ed_int (n := (rowN rw).length) ?_) (ed_lenL (ed_var dn)) rv_neI)) ?_) fun _ => et_test (ed_op (K := K) ed_non (ed_var dn) rv_noneIn)) (fun z => by cases z) fun _ H6 e6 => ?_
    · rcases srt_ok Y hset with ⟨h1, h2⟩ | h
      · exact .inl ⟨by rw [h1]; rfl, h2⟩
      · exact .inr h
    · rw [natD_len]
      simp
    have dn6 := dpx e6 dn
    have tnil : ∀ H7, Ex H6 H7 → ∀ (v7 : Option V), EvT (tTest (tOp (rEqD K) (tVar 6) (tLst tNil))) [some (.ref a), some (.str (glueT (rowW rw) (rowN rw))), some (.str (rowW rw)), some (.str (if rowN rw = [] then Str.empty else blankT)), some v4, some (.ref q), some (.ref q2), v7] H7 (rowN rw).isEmpty := fun H7 e7 v7 =>
      et_test ((ed_op (K := K) (ed_var (dpx e7 dn6)) (en_lst eda_nil).toD (rv_eqD (shaped_natD _) (by decide +kernel))).eq (by rw [eqv_nil, show (natD (rowN rw)).isEmpty = (rowN rw).isEmpty by cases rowN rw <;> rfl]))
    refine q_when (b := false) (et_is (et_and (a := (rowN rw).isEmpty) (tnil H6 (Ex.refl _) _) fun _ => et_test (ed_notPlain Y (ed_var (.str _)))) ?_) (fun z => by cases z) fun _ H7 e7 => ?_
    · cases hrn : rowN rw with
      | nil =>
        rw [glue_one, (plain_in hset hrn).1]
        rfl
      | cons _ _ => rfl
    refine q_when (b := (rowN rw).isEmpty) (tnil H7 e7 _) (fun hb H8 e8 => ?_) (fun hb H8 e8 => ?_)
    · have hrn : rowN rw = [] := List.isEmpty_iff.mp hb
      have e9 := (e6.trans e7).trans e8
      refine m_call (hd5.ex e9) (by decide) (eda_cons (ed_var (.str _)) eda_nil) fun vs H9 e10 dvs hd9 => ?_
      obtain ⟨x, rfl, dx⟩ := dpa1 dvs
      rw [dp_str dx]
      refine ⟨a, l, b, sz, dr, rw, ?_, hd9, g, (plain_in hset hrn).2, k.mono ((e15.trans e9).trans e10)⟩
      rw [hrn, glue_one]
    · have e9 := (e6.trans e7).trans e8
      have hd8 := hd5.ex e9
      have dn8 : Dp K H8 (.ref q2) (.list (natD (rowN rw))) := dpx (e7.trans e8) dn6
      cases rw with
      | setS _ => exact hset.elim
      | run => cases hb
      | back => cases hb
      | ask _ => cases hb
      | opn p =>
        refine q_when (b := true) (et_test (K := K) (ed_op (K := K) (ed_var (.str _)) ed_str rv_eqS)) (fun _ H9 e10 => ?_) (fun z => by cases z)
        have hd9 := hd8.ex e10
        have e20 := (e15.trans e9).trans e10
        refine (ee_call (K := K) (mg := mg) (E := E) (H := H9) (ds := [nT sz, iT dr, .int (p : Int)]) (eda_cons (ed_op (a := deskD (sz, dr)) (ed_lastK Y.cls Y.na hd9) ed_int (rv_ixT (d := nT sz) (atI_nat (j := 0) rfl))) (eda_cons (ed_op (a := deskD (sz, dr)) (ed_lastK Y.cls Y.na hd9) ed_int (rv_ixT (d := iT dr) (atI_nat (j := 1) rfl))) (eda_cons (ed_op (ed_var (dpx e10 dn8)) ed_int (rv_ixL (d := .int (p : Int)) (atI_nat (j := 0) rfl))) eda_nil))) ⟨sz, dr, p, rfl, ok, od, rfl⟩) H9 (Ex.refl _) _ ?_
        have k2 : SayQ K mg C H a l (if blankAt dr p then .ok (ntxt (openM sz dr p), b ++ [(sz, dr)]) else .error "NoPlace") Q E := k
        by_cases hbl : blankAt dr p = true
        · rw [if_pos hbl] at k2 ⊢
          exact fun v H10 e11 n => ⟨[nT (openM sz dr p)], .str (ntxt (openM sz dr p)), dpa_one n.dp, ⟨_, rfl, open_lot ok dr p, rfl⟩, fun u H11 e12 nu => by
            rw [dp_str nu.dp]
            exact k2 H11 (Keep.of ((e20.trans e11).trans e12)) ((hd9.ex e11).ex e12)⟩
        · rw [if_neg hbl] at k2 ⊢
          exact RzE.mono (show RzE mg "NoPlace" H E from k2) e20
      | act ac =>
        refine q_when (b := false) (et_is (et_test (K := K) (ed_op (K := K) (ed_var (.str _)) ed_str rv_eqS)) (act_no ac)) (fun z => by cases z) (fun _ H9 e10 => ?_)
        have hd9 := hd8.ex e10
        have e20 := (e15.trans e9).trans e10
        refine m_call hd9 (by decide) (ds := [.str (actW ac), .int (((actN ac).getD 0 0 : Nat) : Int), .int (((actN ac).getLast?.getD 0 : Nat) : Int)]) (eda_cons (ed_var (.str _)) (eda_cons (ed_op (ed_var (dpx e10 dn8)) ed_int (rv_ixL ?_)) (eda_cons (ed_op (ed_var (dpx e10 dn8)) ed_m1 (rv_ixL ?_)) eda_nil))) fun vs H10 e11 dvs hd10 => ?_
        · cases ac <;> exact atI_nat (j := 0) rfl
        · cases ac with
          | more n => exact atI_last (b := [])
          | put p x => exact atI_last (b := [.int (p : Int)])
          | clear p => exact atI_last (b := [])
        · obtain ⟨x, y, z, rfl, dx, dy, dz⟩ := dpa3 dvs
          rw [dp_str dx, dp_int dy, dp_int dz]
          exact ⟨a, l, b, sz, dr, ac, rfl, hd10, by omega, ok, od, hl, hrw, fun H11 kp hd11 => k H11 ((Keep.of (e20.trans e11)).trans kp) hd11⟩
  · cases rw with
    | setS s =>
      have hs : s ∈ menus := hrw
      have oks := menu_ok hs
      have hnl := ntxt_len (l := s) (by have := oks.hi; omega)
      have e6 : (("sizes " : Str)).length = 6 := by decide +kernel
      have q := ed_part (K := K) (H := H1) (σ := [some (.ref a), some (.str (("sizes " : Str) ++ ntxt s)), none, none, none, none, none, none]) (ta := tVar 1) (tb := tC (.str " ")) (ed_var (.str _)) ed_str (by decide +kernel) (by rw [str_app_len]; omega)
      have hp : Txt.partition (("sizes " : Str) ++ ntxt s) ((" " : Str)) = (("sizes" : Str), blankT, ntxt s) := set_part s
      rw [hp] at q
      refine r_three (K := K) q fun v2 v3 v4 H2 e2 d2 d3 d4 => ?_
      rw [dp_str d2, dp_str d3]
      refine q_when (b := true) (et_is (et_and (a := true) (b := true) (et_test (K := K) (ed_op (K := K) (ed_var (.str _)) ed_str rv_eqS)) fun _ => et_is (et_test (ed_op (K := K) (ed_var (.str _)) ed_str rv_neS)) (by show (!decide (blankT = ("" : Str))) = true; decide +kernel)) rfl) (fun _ H3 e3 => ?_) (fun z => by cases z)
      have e := (e1.trans e2).trans e3
      refine m_call (hd.ex e) (by decide) (eda_cons (en_call (eda_cons (ed_var (dpx e3 d4)) eda_nil) ⟨s, rfl, oks, rfl⟩).toD (eda_cons (d := iT []) (en_tup eda_nil) eda_nil)) fun vs H4 e4 dvs hd4 => ?_
      obtain ⟨x, y, rfl, dx, dy⟩ := dpa2 dvs
      exact ⟨a, l, _, s, [], x, y, rfl, hd4, dx, dy, ⟨by simp, fun h hh => by cases hh⟩, by omega, fun H5 kp hd5 => k H5 ((Keep.of (e.trans e4)).trans kp) hd5⟩
    | _ => exact absurd True.intro hset
end
end EH

set_option Elab.async false
set_option linter.all false
set_option maxRecDepth 100000
set_option maxHeartbeats 4000000
namespace EH
open PySem PySem.Spec PyProof.Rows L2 Evl
/-! ### a def called from an except suite, the error among its arguments -/
structure FnC (P : Program) (w : World) (K : PySem.W.Frag) (mg : Str → Option Value) (base : Heap) (k : Nat) (f : Addr) (fd : FuncData) (ps : List Str) (spp : Addr × Obj → Sp) : Prop where
  len : ∀ p vs H Q E, spp p vs H Q E → vs.length = ps.length
  run : ∀ (A : Around) (outer : List Env) (s : Shared) (H : Hp) (args : Args) (us : List Value) (vs : List V) (Q : VK) (p : Addr × Obj), L2H.RoomH k A → L2H.PinOk outer H s p → Env0 P w K mg base A outer s H → BindsTo s fd args (ps.zip us) → Vals vs us → spp p vs H Q E0 →
    codeAny (model P w) A (.call (.ref f) args) (CR CX0 outer P w H s Q E0) s
theorem fc_mk {P : Program} {w : World} {K : PySem.W.Frag} {mg : Str → Option Value} {base : Heap} {x q : Str} {st : Stmt} {f : Addr} {fd : FuncData} {N ps : List Str} {k : Nat} {spp : Addr × Obj → Sp} (F : FunD K x q (defArgs st) (defBody st) (defScope st) [] [] f fd) (S : FnScope N ps (defScope st))
    (len : ∀ p vs H Q E, spp p vs H Q E → vs.length = ps.length)
    (hbody : ∀ (cdv : Value) (A : Around) (outer : List Env) (s : Shared) (H : Hp) (vs : List V) (Q : VK) (p : Addr × Obj), L2H.RoomH k (A.deeper (envOfC q (defScope st) s.heap.objs.size f cdv)) → spp p vs H Q E0 →
      ∃ t, PSs (L2H.cxH CX0 P w K mg base N q (defScope st) f cdv A outer s H E0 p) (defBody st) t ∧ t { nx := fun _ H' => Q .non H', rt := Q } (L2.start N vs) H) : FnC P w K mg base (k + 1) f fd ps spp := by
  obtain ⟨oc, od, dV, kV, doc, pm, an, cdv, ct, osl, rfl, lk, hcd, _, _⟩ := F.ex
  constructor
  · exact len
  intro A outer s H args us vs Q p room pin env binds rel todo
  have many := len _ _ _ _ _ todo
  have KX : K.In s.heap := env.mod.kin.keeps fun b o e => (env.bs b o e).1
  have free : s.heap.NoLimit := env.mod.nolimit.keeps fun b o e => (env.bs b o e).1
  apply codeAny_call_function room.depth (KX _ _ lk) rfl S.co S.gen rfl (PySem.W.codeRec_of KX hcd)
  apply binds
  apply wpAny_newFunctionEnv_cells S.kind
  · rintro ⟨n, v⟩ hy
    rcases S.par n (List.of_mem_zip hy).1 with kk | kk
    · exact .inl kk
    · exact .inr ⟨kk, PySem.W.cellsFrom_some _ _ _ (.inl kk)⟩
  intro env1 he s1 x
  subst he
  refine ⟨free.keeps x.toInCall.keep, codeAny_func ?_⟩
  obtain ⟨t, ht, hq⟩ := hbody cdv A outer s H vs Q p (room.deeper _) todo
  have I0 := L2H.inv_startH (CX := CX0) (E := E0) S pin env many rel x
  apply wpAny_mono (ht.run [] s1 (L2.start N vs) H _ I0 hq)
  · intro fl s' hs
    cases fl with
    | brk => exact False.elim hs.choose_spec.choose_spec.2
    | cont => exact False.elim hs.choose_spec.choose_spec.2
    | next =>
      obtain ⟨σ', H', J, done⟩ := hs
      exact ⟨V.non, H', J.os, J.bare, J.base, J.hok, rfl, done⟩
    | ret u =>
      obtain ⟨v, σ', H', J, rv, done⟩ := hs
      exact ⟨v, H', J.os, J.bare, J.base, J.hok, rv, done⟩
  · exact fun _ _ hs => hs
theorem pe_callC {X : Cx} {k : Nat} {f : Addr} {fd : FuncData} {ps : List Str} {spp : Addr × Obj → Sp} {x : Str} {q pos : Pos} {e : Expr} {es : List Expr} {t : TA} {p : Addr × Obj} (F : FnC X.prog X.w X.K X.mg X.base k f fd ps spp) (hr : L2H.RoomH k X.A) (hp : p ∈ X.pn) (hg : Gl X x) (hm : X.mg x = some (.ref f)) (hk : PySem.W.keepIn X.K (.ref f) = true) (hb : Binds X.K fd ps [])
    (ha : PA X (e :: es) t) (hdb : (x == ("__debug__" : Str)) = false := by decide) (h1 : starEach (e :: es) X.env = (false, eval e X.env) :: starEach es X.env := by rfl) (h2 : (backTo pos (starEach es X.env)).any (·.1) = false := by rfl) :
    PE X (.Call (.Name x q) (e :: es) [] pos) (tCall (spp p) [] E0 t) := by
  constructor
  intro pins s σ H Q I h
  apply wpAny_Call_Name_kw (ld_glob I hg hm ?_ hdb)
  refine PySem.W.callWith_K (h₀ := X.base) I.ok.mod.kin hk (thn (ha.run pos pins s σ H _ I h) ?_) h1 h2
  rintro us s1 ⟨vs, H1, I1, rel, todo⟩
  rw [List.append_nil] at todo
  refine ⟨I1.kIn, ?_⟩
  have many : us.length = ps.length := by
    rw [← rel.length]
    exact F.len _ _ _ _ _ todo
  have bound := hb s1 us I1.kIn (by rw [List.append_nil]; exact many)
  rw [List.append_nil] at bound
  have P1 := I1.pin p (List.mem_append_left _ hp)
  have pin : L2H.PinOk X.stack H1 s1 p := ⟨P1.1, P1.2.1, fun hm => (List.mem_cons.mp (I1.stkSub p.1 hm)).elim P1.2.2.1 P1.2.2.2.1, P1.2.2.2.2⟩
  apply wpAny_call
  apply codeAny_mono (F.run X.A X.stack s1 H1 ⟨us, []⟩ us vs Q p hr pin I1.env0 bound rel todo)
  intro r s' got
  cases r with
  | error e => exact False.elim got
  | ok fl =>
    cases fl with
    | ret u => exact I1.after got
    | next => exact False.elim got
    | brk => exact False.elim got
    | cont => exact False.elim got
/-! ### isinstance of the error -/
structure ErB (K : PySem.W.Frag) (C : Addr) : Prop where
  cl : (PySem.W.clsIn K C).isSome = true
  ga : PySem.W.findIn K (.ref C) "__getattribute__" = some (some (.builtin "BaseException.__getattribute__"))
  gt : ∃ g, PySem.W.findIn K (.ref C) "__getattr__" = some g
  sb : PySem.W.subIn K (.ref C) (.type "BaseException") = some true
  cc : PySem.W.findIn K (.ref C) "__class__" = some (some (.builtin "object.__class__"))
  sg : PySem.W.specialIn K (.builtin "object.__class__") "__get__" = some (some (.builtin "getset_descriptor.__get__"))
  tk : PySem.W.takesIn K (.builtin "object.__class__") = some true
  mo : PySem.W.mroIn K C (.type "object") = some true
def rIsE (K : PySem.W.Frag) (a C : Addr) (d : Option Addr) : List V → Hp → VK → Prop := fun xs H Q => ∃ (c : V) (u : Value) (b : Bool), xs = [.ref a, c] ∧ ClsV c u ∧ DOk d H ∧ PySem.W.kitOne K (.ref C) u = some b ∧ Q (.bl b) H
theorem call_ise {X : Cx} {a C : Addr} {oe : Obj} {d : Option Addr} (hp : (a, oe) ∈ X.pn) (hc : oe.cls = .ref C) (hd : oe.dict = d) (hf : ∃ vs, oe.data = .fields vs) (B : ErB X.K C) : CallR X (.builtin "isinstance") (rIsE X.K a C d) := by
  intro pins s σ H xs us Q I r h
  obtain ⟨c, u, b, rfl, k, ok, e, q⟩ := h
  obtain ⟨u1, u2, rfl, r1, r2⟩ := vals2 r
  have e2 := k.eq r2
  subst e2
  cases (show u1 = Value.ref a from r1)
  have P1 := I.pin _ (List.mem_append_left _ hp)
  obtain ⟨vs, hv⟩ := hf
  have nc : PySem.W.notCls oe = true := by
    unfold PySem.W.notCls
    rw [hv]
  obtain ⟨g, hg⟩ := B.gt
  have inst : ∃ od, PySem.W.InstAt s.heap a oe C od := by
    cases d with
    | none => exact ⟨none, P1.1, hc, nc, by rw [hd]; exact True.intro⟩
    | some dx =>
      obtain ⟨fs, hx⟩ := ok dx rfl
      obtain ⟨mA, hn, _⟩ := (show ObjOk X.prog X.w H s.heap dx (.xd fs) from I.hok dx _ hx)
      obtain ⟨o, _, _, ho, _⟩ := hn
      exact ⟨some o, P1.1, hc, nc, by rw [hd]; exact ho⟩
  obtain ⟨od, inst⟩ := inst
  exact PySem.W.kia_one (PySem.W.kitx_exc (od := od) B.cl B.ga hg B.sb B.cc B.sg B.tk B.mo) I.kIn inst e (fun z => nomatch z) fun tk => ⟨.bl b, H, I.tok tk, rfl, q⟩
/-! ### l.count(b) of bools -/
def rCntB (K : PySem.W.Frag) : V → List V → Hp → VK → Prop := fun x xs H Q => ∃ (p : Addr) (bs : List Bool) (b : Bool), x = .ref p ∧ xs = [.bl b] ∧ SqL K H p (bs.map V.bl) ∧ Q (.int ((bs.count b : Nat) : Int)) H
theorem cnt_bools {b : Bool} : ∀ {bs : List Bool} {us : List Value}, Vals (bs.map V.bl) us → us.countP (eqU (.bl b)) = bs.count b
  | [], _, .nil => rfl
  | a :: r, _, .cons ra rr => by
    cases ra
    rw [List.countP_cons, List.count_cons, cnt_bools rr]
    rfl
theorem mt_countB {X : Cx} : MtR X "list.count" (rCntB X.K) := by
  intro pins s σ H x xs v us Q I rx rxs h
  obtain ⟨p, bs, b, rfl, rfl, hs, q⟩ := h
  cases rx
  obtain ⟨u, rfl, ru⟩ := rxs.one
  cases ru
  obtain ⟨its, rv, ⟨⟨cls, dd, data, sl⟩, n, ho, hc, hdn, hd⟩, hlen⟩ := I.list hs
  simp only at hc hd
  subst hc hd
  have flat : (bs.map V.bl).all flatV = true := by
    rw [List.all_map]
    exact List.all_eq_true.mpr fun _ _ => rfl
  refine call_meets PySem.F.slot_list_count ⟨_, ho, rfl⟩ PySem.F.entry_list_count (PySem.F.args_list_count_2 _ _) (SeqAt.list_countAt p its.toArray n dd sl (.bool b) (eqU (.bl b)))
    ⟨ho, fun y hy => mem_eqAt (x := .bl b) rfl rfl rv flat y (by simpa using hy), ?_⟩
  refine ⟨.int ((bs.count b : Nat) : Int), H, I.tok _, ⟨s.toks, ?_⟩, q⟩
  rw [← cnt_bools rv]
end EH

set_option Elab.async false
set_option linter.all false
set_option maxRecDepth 100000
set_option maxHeartbeats 4000000
namespace EH
open PySem PySem.Spec PyProof.Rows L2 Evl
def kindT (x : Str) : Str := if x = "NoPlace" then "! place" else if x = "NoDeed" then "! deed" else "! great"
/-- where a class stands -/
def cAd (mg : Str → Option Value) (x : Str) : Addr := match mg x with
  | some (.ref C) => C
  | _ => 0
structure KindK (K : PySem.W.Frag) (mg : Str → Option Value) : Prop where
  ve : mg "ValueError" = none
  g : ∀ x ∈ kinds, mg x = some (.ref (cAd mg x))
  hue : mg "HueError" = some (.ref (cAd mg "HueError"))
  is : ∀ nm ∈ errs, ErB K (cAd mg nm) ∧ (∀ x ∈ kinds, PySem.W.kitOne K (.ref (cAd mg nm)) (.ref (cAd mg x)) = some (decide (x = nm))) ∧ PySem.W.kitOne K (.ref (cAd mg nm)) (.type "ValueError") = some true ∧ PySem.W.exmOne K (.ref (cAd mg nm)) (.ref (cAd mg "HueError")) = some true
section
variable {P : Program} {w : World} {K : PySem.W.Frag} {mg : Str → Option Value} {base : Heap}
theorem ed_ise {σ : L2.St} {H : Hp} {a C : Addr} {d : Option Addr} {c : V} {u : Value} {b : Bool} (h0 : σ[0]? = some (some (.ref a))) (k : ClsV c u) (ok : DOk d H) (h : PySem.W.kitOne K (.ref C) u = some b) : EvD K (tCB (rIsE K a C d) (tCons (tVar 0) (tCons (tC c) tNil))) σ H (.bool b) := fun H1 e Q q =>
  ⟨_, h0, c, u, b, rfl, k, (fun dx hdx => by obtain ⟨fs, hf⟩ := ok dx hdx; exact ⟨fs, e _ _ hf⟩), h, q _ H1 (Ex.refl H1) (.bl b)⟩
theorem en_cat {σ : L2.St} {H : Hp} {ta tb : TE} {es ds : List PyData} (ha : EvD K ta σ H (.list es)) (hb : EvD K tb σ H (.list ds)) (hz : es.length + ds.length ≤ 100000) : EvN K (tOp rCat ta tb) σ H (.list (es ++ ds)) := fun H1 e Q q =>
  ha H1 e _ fun v H2 e2 dv => hb H2 (e.trans e2) _ fun u H3 e3 du => by
    obtain ⟨l, xs, rfl, hl, hx⟩ := dp_lstR (dpx e3 dv)
    obtain ⟨b, ys, rfl, hb, hy⟩ := dp_lstR du
    exact ⟨l, b, xs, ys, rfl, rfl, hl, hb, sz_of (by rw [dpa_len hx, dpa_len hy]; exact hz), fun p hp => q _ _ ((e2.trans e3).trans (Ex.new hp)) ⟨p, _, rfl, fresh_back (e2.trans e3) hp, upd_same, dpxs (Ex.new hp) (dpa_app hx hy)⟩⟩
theorem ed_bm {σ : L2.St} {H : Hp} {ta : TE} {tb : TA} {r : V → List V → Hp → VK → Prop} {ds es : List PyData} {c : PyData} (ha : EvD K ta σ H (.list ds)) (hb : EvDA K tb σ H es) (hr : ∀ H2 l xs vs, H2 l = some (.lst xs) → DpAll K H2 xs ds → DpAll K H2 vs es → ∀ Q : VK, (∀ v H3, Ex H2 H3 → Dp K H3 v c → Q v H3) → r (.ref l) vs H2 Q) : EvD K (tBM K "list" r ta tb) σ H c := fun H1 e Q q =>
  ha H1 e _ fun v H2 e2 dv => by
    obtain ⟨l, xs, rfl, hl, hx⟩ := dp_lstR dv
    exact ⟨.inl ⟨rfl, xs, sq_of hl⟩, hb H2 (e.trans e2) _ fun vs H3 e3 dvs => hr H3 l xs vs (e3 _ _ hl) (dpxs e3 hx) dvs Q fun u H4 e4 du => q u H4 ((e2.trans e3).trans e4) du⟩
theorem ed_countB {σ : L2.St} {H : Hp} {ta : TE} {bs : List Bool} (ha : EvD K ta σ H (.list (bs.map PyData.bool))) : EvD K (tBM K "list" (rCntB K) ta (tCons (tC (.bl true)) tNil)) σ H (.int ((bs.count true : Nat) : Int)) :=
  ed_bm ha (eda_cons ed_bl eda_nil) fun H2 l xs vs hl hx dvs Q q => by
    obtain ⟨v, rfl, dv⟩ := dpa1 dvs
    rw [dp_bl dv]
    rw [dpa_bls hx] at hl
    exact ⟨l, bs, true, rfl, rfl, sq_of hl, q _ H2 (Ex.refl H2) (.int _)⟩
theorem ed_indexB {σ : L2.St} {H : Hp} {ta : TE} {bs : List Bool} {j : Nat} (ha : EvD K ta σ H (.list (bs.map PyData.bool))) (h1 : bs[j]? = some true) (h2 : ∀ m, m < j → bs[m]? ≠ some true) : EvD K (tBM K "list" (rIndex K) ta (tCons (tC (.bl true)) tNil)) σ H (.int (j : Int)) :=
  ed_bm ha (eda_cons ed_bl eda_nil) fun H2 l xs vs hl hx dvs Q q => by
    obtain ⟨v, rfl, dv⟩ := dpa1 dvs
    rw [dp_bl dv]
    rw [dpa_bls hx] at hl
    refine ⟨l, _, .bl true, j, .bl true, rfl, rfl, sq_of hl, rfl, ?_, ?_, rfl, fun m z' hm hz => ?_, q _ H2 (Ex.refl H2) (.int _)⟩
    · rw [List.all_map]
      exact List.all_eq_true.mpr fun _ _ => rfl
    · rw [List.getElem?_map, h1]
      rfl
    · rw [List.getElem?_map] at hz
      obtain ⟨b, hb, rfl⟩ := Option.map_eq_some_iff.mp hz
      have hn := h2 m hm
      rw [hb] at hn
      cases b with
      | true => exact absurd rfl hn
      | false => rfl
def sp_law_kind (K : PySem.W.Frag) (mg : Str → Option Value) : Addr × Obj → Sp := fun p vs H Q _ => ∃ nm d, vs = [.ref p.1] ∧ nm ∈ errs ∧ p.2.cls = .ref (cAd mg nm) ∧ p.2.dict = d ∧ (∃ vs, p.2.data = .fields vs) ∧ DOk d H ∧ ∀ H', Ex H H' → Q (.str (kindT nm)) H'
theorem ln_law_kind : ∀ p vs H Q E, sp_law_kind K mg p vs H Q E → vs.length = 1 := fun p vs H Q E ⟨_, _, e, _⟩ => by rw [e]; rfl
theorem sc_law_kind : FnScope ["_law_e", "_law_marks", "_law_words"] ["_law_e"] (defScope (top 95)) := ⟨rfl, rfl, rfl, by decide +kernel, rfl, by decide +kernel, by decide +kernel⟩
def kindJ (nm : Str) : Nat := if nm = "NoPlace" then 3 else if nm = "NoDeed" then 14 else 8
def kindW : List Str := ["strip", "sizes", "number", "place", "hue", "draft", "paper", "fit", "great", "lot", "ring", "round", "stand", "text", "deed", "line"]
theorem kind_facts : ∀ nm ∈ errs, (kinds.map fun x => decide (x = nm)).count true = 1 ∧ (kinds.map fun x => decide (x = nm))[kindJ nm]? = some true ∧ (∀ m ∈ List.range (kindJ nm), (kinds.map fun x => decide (x = nm))[m]? ≠ some true) ∧ ∃ z, kindW[kindJ nm]? = some z ∧ ("! " : Str) ++ z = kindT nm := by
  intro nm h
  have hc : nm = "NoPlace" ∨ nm = "NoDeed" ∨ nm = "TooGreat" := by simpa [errs] using h
  rcases hc with rfl | rfl | rfl
  · exact ⟨by decide +kernel, by decide +kernel, by decide +kernel, "place", by decide +kernel, by decide +kernel⟩
  · exact ⟨by decide +kernel, by decide +kernel, by decide +kernel, "deed", by decide +kernel, by decide +kernel⟩
  · exact ⟨by decide +kernel, by decide +kernel, by decide +kernel, "great", by decide +kernel, by decide +kernel⟩
theorem fc_law_kind (T : Txt K mg) (Kn : KindK K mg) {f : Addr} {fd : FuncData} (F : FunD K "_law_kind" "_law_kind" (defArgs (top 95)) (defBody (top 95)) (defScope (top 95)) [] [] f fd) : FnC P w K mg base 1 f fd ["_law_e"] (sp_law_kind K mg) := by
  have nd := sc_law_kind.nd
  refine fc_mk (k := 0) F sc_law_kind ln_law_kind fun cdv A outer s H vs Q p hr h => ?_
  obtain ⟨a, oe⟩ := p
  obtain ⟨nm, d, rfl, hnm, hc, hd, hf, ok, k⟩ := h
  obtain ⟨B, isK, isV, _⟩ := Kn.is nm hnm
  have hp : (a, oe) ∈ (L2H.cxH CX0 P w K mg base ["_law_e", "_law_marks", "_law_words"] "_law_kind" (defScope (top 95)) f cdv A outer s H E0 (a, oe)).pn := List.mem_cons_self
  refine ⟨_, (pss_cons (ps_set (i := 1) nd rfl (by first | exact Or.inl rfl | exact Or.inr rfl) (pe_lst (pa_cons (pe_callB (r := rIsE K a (cAd mg nm) d) (call_ise hp hc hd hf B) rfl T.b_isinstance (by decide +kernel) (pa_cons (pv 0) (pa_cons (pe_glob (v := .ref (cAd mg "NoStrip")) rfl (Kn.g "NoStrip" (by decide +kernel)) rfl) pa_nil))) (pa_cons (pe_callB (r := rIsE K a (cAd mg nm) d) (call_ise hp hc hd hf B) rfl T.b_isinstance (by decide +kernel) (pa_cons (pv 0) (pa_cons (pe_glob (v := .ref (cAd mg "NoSizes")) rfl (Kn.g "NoSizes" (by decide +kernel)) rfl) pa_nil))) (pa_cons (pe_callB (r := rIsE K a (cAd mg nm) d) (call_ise hp hc hd hf B) rfl T.b_isinstance (by decide +kernel) (pa_cons (pv 0) (pa_cons (pe_glob (v := .ref (cAd mg "NoNumber")) rfl (Kn.g "NoNumber" (by decide +kernel)) rfl) pa_nil))) (pa_cons (pe_callB (r := rIsE K a (cAd mg nm) d) (call_ise hp hc hd hf B) rfl T.b_isinstance (by decide +kernel) (pa_cons (pv 0) (pa_cons (pe_glob (v := .ref (cAd mg "NoPlace")) rfl (Kn.g "NoPlace" (by decide +kernel)) rfl) pa_nil))) pa_nil))))))
      (pss_cons (ps_set (i := 1) nd rfl (by first | exact Or.inl rfl | exact Or.inr rfl) (pe_op op_cat (pv 1) (pe_lst (pa_cons (pe_callB (r := rIsE K a (cAd mg nm) d) (call_ise hp hc hd hf B) rfl T.b_isinstance (by decide +kernel) (pa_cons (pv 0) (pa_cons (pe_glob (v := .ref (cAd mg "NoHue")) rfl (Kn.g "NoHue" (by decide +kernel)) rfl) pa_nil))) (pa_cons (pe_callB (r := rIsE K a (cAd mg nm) d) (call_ise hp hc hd hf B) rfl T.b_isinstance (by decide +kernel) (pa_cons (pv 0) (pa_cons (pe_glob (v := .ref (cAd mg "NoDraft")) rfl (Kn.g "NoDraft" (by decide +kernel)) rfl) pa_nil))) (pa_cons (pe_callB (r := rIsE K a (cAd mg nm) d) (call_ise hp hc hd hf B) rfl T.b_isinstance (by decide +kernel) (pa_cons (pv 0) (pa_cons (pe_glob (v := .ref (cAd mg "NoPaper")) rfl (Kn.g "NoPaper" (by decide +kernel)) rfl) pa_nil))) (pa_cons (pe_callB (r := rIsE K a (cAd mg nm) d) (call_ise hp hc hd hf B) rfl T.b_isinstance (by decide +kernel) (pa_cons (pv 0) (pa_cons (pe_glob (v := .ref (cAd mg "NoFit")) rfl (Kn.g "NoFit" (by decide +kernel)) rfl) pa_nil))) pa_nil)))))))
      (pss_cons (ps_set (i := 1) nd rfl (by first | exact Or.inl rfl | exact Or.inr rfl) (pe_op op_cat (pv 1) (pe_lst (pa_cons (pe_callB (r := rIsE K a (cAd mg nm) d) (call_ise hp hc hd hf B) rfl T.b_isinstance (by decide +kernel) (pa_cons (pv 0) (pa_cons (pe_glob (v := .ref (cAd mg "TooGreat")) rfl (Kn.g "TooGreat" (by decide +kernel)) rfl) pa_nil))) (pa_cons (pe_callB (r := rIsE K a (cAd mg nm) d) (call_ise hp hc hd hf B) rfl T.b_isinstance (by decide +kernel) (pa_cons (pv 0) (pa_cons (pe_glob (v := .ref (cAd mg "NoLot")) rfl (Kn.g "NoLot" (by decide +kernel)) rfl) pa_nil))) (pa_cons (pe_callB (r := rIsE K a (cAd mg nm) d) (call_ise hp hc hd hf B) rfl T.b_isinstance (by decide +kernel) (pa_cons (pv 0) (pa_cons (pe_glob (v := .ref (cAd mg "NoRing")) rfl (Kn.g "NoRing" (by decide +kernel)) rfl) pa_nil))) (pa_cons (pe_callB (r := rIsE K a (cAd mg nm) d) (call_ise hp hc hd hf B) rfl T.b_isinstance (by decide +kernel) (pa_cons (pv 0) (pa_cons (pe_glob (v := .ref (cAd mg "NoRound")) rfl (Kn.g "NoRound" (by decide +kernel)) rfl) pa_nil))) pa_nil)))))))
      (pss_cons (ps_set (i := 1) nd rfl (by first | exact Or.inl rfl | exact Or.inr rfl) (pe_op op_cat (pv 1) (pe_lst (pa_cons (pe_callB (r := rIsE K a (cAd mg nm) d) (call_ise hp hc hd hf B) rfl T.b_isinstance (by decide +kernel) (pa_cons (pv 0) (pa_cons (pe_glob (v := .ref (cAd mg "NoStand")) rfl (Kn.g "NoStand" (by decide +kernel)) rfl) pa_nil))) (pa_cons (pe_callB (r := rIsE K a (cAd mg nm) d) (call_ise hp hc hd hf B) rfl T.b_isinstance (by decide +kernel) (pa_cons (pv 0) (pa_cons (pe_glob (v := .ref (cAd mg "NoText")) rfl (Kn.g "NoText" (by decide +kernel)) rfl) pa_nil))) (pa_cons (pe_callB (r := rIsE K a (cAd mg nm) d) (call_ise hp hc hd hf B) rfl T.b_isinstance (by decide +kernel) (pa_cons (pv 0) (pa_cons (pe_glob (v := .ref (cAd mg "NoDeed")) rfl (Kn.g "NoDeed" (by decide +kernel)) rfl) pa_nil))) (pa_cons (pe_callB (r := rIsE K a (cAd mg nm) d) (call_ise hp hc hd hf B) rfl T.b_isinstance (by decide +kernel) (pa_cons (pv 0) (pa_cons (pe_glob (v := .ref (cAd mg "NoLine")) rfl (Kn.g "NoLine" (by decide +kernel)) rfl) pa_nil))) pa_nil)))))))
      (pss_cons (ps_if (PW.pt (pw_or (pt_not (pt_val (pe_callB (r := rIsE K a (cAd mg nm) d) (call_ise hp hc hd hf B) rfl T.b_isinstance (by decide +kernel) (pa_cons (pv 0) (pa_cons (pe_bltn (v := .ty "ValueError") rfl Kn.ve (by decide +kernel) rfl) pa_nil))))) (pw_or1 (pt_cmpR op_ne (pe_bm PySem.F.plainAttrs_list PySem.F.slot_list_count PySem.F.type_list_count mt_countB (pv 1) (pa_cons pe_bl pa_nil)) pe_int (nomark _))))) (pss_one (ps_ret pe_str)) pss_nil)
      (pss_cons (ps_set (i := 2) nd rfl (by first | exact Or.inl rfl | exact Or.inr rfl) (pe_lst (pa_cons pe_str (pa_cons pe_str (pa_cons pe_str (pa_cons pe_str (pa_cons pe_str (pa_cons pe_str (pa_cons pe_str (pa_cons pe_str (pa_cons pe_str (pa_cons pe_str (pa_cons pe_str (pa_cons pe_str pa_nil))))))))))))))
      (pss_one (ps_ret (pe_op op_add_str pe_str (pe_ix (r := rIxL K) ix_list (pe_op op_cat (pv 2) (pe_lst (pa_cons pe_str (pa_cons pe_str (pa_cons pe_str (pa_cons pe_str pa_nil)))))) (pe_bm PySem.F.plainAttrs_list PySem.F.slot_list_index PySem.F.type_list_index mt_index (pv 1) (pa_cons pe_bl pa_nil)) (fun _ _ => rfl))))))))))), ?_⟩
  obtain ⟨c1, c2, c3, z, c4, c5⟩ := kind_facts nm hnm
  have okx : ∀ {H2 : Hp}, Ex H H2 → DOk d H2 := fun e dx hdx => by obtain ⟨fs, hf⟩ := ok dx hdx; exact ⟨fs, e _ _ hf⟩
  have one : ∀ (x : Str) (σ : L2.St) (H2 : Hp), x ∈ kinds → σ[0]? = some (some (.ref a)) → Ex H H2 → EvD K (tCB (rIsE K a (cAd mg nm) d) (tCons (tVar 0) (tCons (tC (.ref (cAd mg x))) tNil))) σ H2 (.bool (decide (x = nm))) := fun x σ H2 hx h0 e => ed_ise h0 (.own _) (okx e) (isK x hx)
  have four : ∀ (x1 x2 x3 x4 : Str) (σ : L2.St) (H2 : Hp), x1 ∈ kinds → x2 ∈ kinds → x3 ∈ kinds → x4 ∈ kinds → σ[0]? = some (some (.ref a)) → Ex H H2 →
      EvN K (tLst (tCons (tCB (rIsE K a (cAd mg nm) d) (tCons (tVar 0) (tCons (tC (.ref (cAd mg x1))) tNil))) (tCons (tCB (rIsE K a (cAd mg nm) d) (tCons (tVar 0) (tCons (tC (.ref (cAd mg x2))) tNil))) (tCons (tCB (rIsE K a (cAd mg nm) d) (tCons (tVar 0) (tCons (tC (.ref (cAd mg x3))) tNil))) (tCons (tCB (rIsE K a (cAd mg nm) d) (tCons (tVar 0) (tCons (tC (.ref (cAd mg x4))) tNil))) tNil))))) σ H2 (.list ([decide (x1 = nm), decide (x2 = nm), decide (x3 = nm), decide (x4 = nm)].map PyData.bool)) :=
    fun x1 x2 x3 x4 σ H2 m1 m2 m3 m4 h0 e => en_lst (eda_cons (one x1 σ H2 m1 h0 e) (eda_cons (one x2 σ H2 m2 h0 e) (eda_cons (one x3 σ H2 m3 h0 e) (eda_cons (one x4 σ H2 m4 h0 e) eda_nil))))
  refine r_asg (K := K) (four "NoStrip" "NoSizes" "NoNumber" "NoPlace" _ _ (by decide +kernel) (by decide +kernel) (by decide +kernel) (by decide +kernel) rfl (Ex.refl _)).toD fun v1 H1 e1 d1 => ?_
  refine r_asg (K := K) (en_cat (ed_var d1) (four "NoHue" "NoDraft" "NoPaper" "NoFit" _ _ (by decide +kernel) (by decide +kernel) (by decide +kernel) (by decide +kernel) rfl e1).toD (by simp)).toD fun v2 H2 e2 d2 => ?_
  rw [← List.map_append] at d2
  refine r_asg (K := K) (en_cat (ed_var d2) (four "TooGreat" "NoLot" "NoRing" "NoRound" _ _ (by decide +kernel) (by decide +kernel) (by decide +kernel) (by decide +kernel) rfl (e1.trans e2)).toD (by simp)).toD fun v3 H3 e3 d3 => ?_
  rw [← List.map_append] at d3
  refine r_asg (K := K) (en_cat (ed_var d3) (four "NoStand" "NoText" "NoDeed" "NoLine" _ _ (by decide +kernel) (by decide +kernel) (by decide +kernel) (by decide +kernel) rfl ((e1.trans e2).trans e3)).toD (by simp)).toD fun v4 H4 e4 d4 => ?_
  rw [← List.map_append] at d4
  have d4 : Dp K H4 v4 (.list ((kinds.map fun x => decide (x = nm)).map PyData.bool)) := d4
  have e14 := ((e1.trans e2).trans e3).trans e4
  refine q_when (b := false) (et_or (a := false) (b := false) (et_not (a := true) (et_B (K := K) (ed_ise rfl (.ty _) (okx e14) isV))) (fun _ => et_test ((ed_op (K := K) (ed_countB (ed_var d4)) ed_int rv_neI).eq (by rw [c1]; rfl)))) (fun z => by cases z) fun _ H5 e5 => ?_
  refine r_asg (K := K) (d := .list ((kindW.take 12).map PyData.str)) (en_lst (eda_cons ed_str (eda_cons ed_str (eda_cons ed_str (eda_cons ed_str (eda_cons ed_str (eda_cons ed_str (eda_cons ed_str (eda_cons ed_str (eda_cons ed_str (eda_cons ed_str (eda_cons ed_str (eda_cons ed_str eda_nil))))))))))))).toD fun v5 H6 e6 d5 => ?_
  have hcat := (en_cat (K := K) (H := H6) (σ := [some (.ref a), some v4, some v5]) (ta := tVar 2) (ed_var d5) (en_lst (eda_cons (ed_str (i := "stand")) (eda_cons (ed_str (i := "text")) (eda_cons (ed_str (i := "deed")) (eda_cons (ed_str (i := "line")) eda_nil))))).toD (by simp [kindW])).toD
  refine r_retD (K := K) (d := .str (kindT nm)) ?_ fun u H7 e7 n => ?_
  · rw [← c5]
    refine ed_op ed_str (ed_op hcat (ed_indexB (j := kindJ nm) (ed_var (dpx (e5.trans e6) d4)) c2 fun m hm => c3 m (List.mem_range.mpr hm)) (rv_ixL (d := .str z) (atI_nat ?_))) (rv_addS ?_)
    · show ((kindW.map PyData.str))[kindJ nm]? = some (.str z)
      rw [List.getElem?_map, c4]
      rfl
    · have hz : ∀ y ∈ kindW, y.length ≤ 10 := by decide +kernel
      have := hz z (List.mem_of_getElem? c4)
      have : (("! " : Str)).length = 2 := by decide +kernel
      omega
  · rw [dp_str n.dp]
    exact k H7 ((e14.trans (e5.trans e6)).trans e7)
end
end EH

set_option Elab.async false
set_option linter.all false
set_option maxRecDepth 100000
set_option maxHeartbeats 4000000
namespace EH
open PySem PySem.Spec PyProof.Rows L2 Evl
def PenAt (H : Hp) (p : Addr) : Prop := ∃ c f n m : Int, H p = some (.lst [.int c, .int f, .int n, .int m]) ∧ 0 ≤ m ∧ m < 1099511627776
theorem fmod_lo {i j : Int} (h : 0 < j) : 0 ≤ i.fmod j ∧ i.fmod j < j := ⟨Int.fmod_nonneg_of_pos _ h, Int.fmod_lt_of_pos _ h⟩
section
variable {P : Program} {w : World} {K : PySem.W.Frag} {mg : Str → Option Value} {base : Heap}
theorem ed_int1 {σ : L2.St} {H : Hp} {te : TE} {b : Bool} (h : EvD K te σ H (.bool b)) : EvD K (tCB (fun xs H Q => (∃ i, xs = [.int i] ∧ Q (.int i) H) ∨ ∃ k, xs = [.bl k] ∧ Q (.int (if k then 1 else 0)) H) (tCons te tNil)) σ H (.int (if b then 1 else 0)) := fun H1 e Q q => h H1 e _ fun v H2 e2 dv => by
  rw [dp_bl dv]
  exact .inr ⟨b, rfl, q _ H2 e2 (.int _)⟩
def sp_law_cell_at (K : PySem.W.Frag) : Sp := fun vs H Q _ => ∃ (s : Addr) (ns : List Int) (k : Nat), vs = [.ref s, .int (k : Int)] ∧ SqL K H s (ns.map V.int) ∧ ∀ H', Ex H H' → Q (.int (ns.getD k 0)) H'
theorem ln_law_cell_at : ∀ vs H Q E, sp_law_cell_at K vs H Q E → vs.length = 2 := fun vs H Q E ⟨_, _, _, e, _⟩ => by rw [e]; rfl
theorem ed_lenSq {σ : L2.St} {H : Hp} {s : Addr} {xs : List V} {i : Nat} (h : SqL K H s xs) (hi : σ[i]? = some (some (.ref s)) := by rfl) : EvD K (tCB (rLn K) (tCons (tVar i) tNil)) σ H (.int (xs.length : Int)) := fun H1 e Q q => ⟨_, hi, _, _, rfl, .inl ⟨xs, ex_l e h, rfl⟩, q _ H1 (Ex.refl H1) (.int _)⟩
theorem ed_ixSq {σ : L2.St} {H : Hp} {s : Addr} {xs : List V} {i : Nat} {te : TE} {j : Nat} {x : Int} (h : SqL K H s xs) (hj : EvD K te σ H (.int (j : Int))) (hx : xs[j]? = some (.int x)) (hi : σ[i]? = some (some (.ref s)) := by rfl) : EvD K (tOp (rIxL K) (tVar i) te) σ H (.int x) := fun H1 e Q q => ⟨_, hi, hj H1 e _ fun v H2 e2 dv => by
  rw [dp_int dv]
  exact ⟨s, xs, (j : Int), .int x, rfl, rfl, ex_l (e.trans e2) h, atI_nat hx, q _ H2 e2 (.int _)⟩⟩
theorem sc_law_cell_at : FnScope ["_law_script", "_law_k"] ["_law_script", "_law_k"] (defScope (top 92)) := ⟨rfl, rfl, rfl, by decide +kernel, rfl, by decide +kernel, by decide +kernel⟩
theorem df_law_cell_at (T : Txt K mg) (F : FnT K mg "_law_cell_at" (top 92))  : Df P w K mg base "_law_cell_at" 1 ["_law_script", "_law_k"] (sp_law_cell_at K) := by
  have nd := sc_law_cell_at.nd
  refine df_mk (k := 0) F sc_law_cell_at (fun _ _ _ _ _ _ us hl => match us, hl with | [_, _], _ => rfl) (ln_law_cell_at) (fun f cdv A outer s H vs Q E hr h => ?_)
  refine ⟨_, (pss_cons (ps_if (pt_cmpR op_lt (pv 1) (pe_callB (r := rLn K) call_len rfl T.b_len (by decide +kernel) (pa_cons (pv 0) pa_nil)) (nomark _)) (pss_one (ps_ret (pe_ix (r := rIxL K) ix_list (pv 0) (pv 1) (fun _ _ => rfl)))) pss_nil)
      (pss_one (ps_ret pe_int))), ?_⟩
  obtain ⟨s, ns, j, rfl, h1, k⟩ := h
  refine q_when (b := decide ((j : Int) < ((ns.map V.int).length : Int))) (et_test (K := K) (ed_op (ed_var (.int (j : Int))) (ed_lenSq h1) rv_lt)) (fun hb H1 e1 => ?_) (fun hb H1 e1 => ?_)
  · have hj : j < ns.length := by have := of_decide_eq_true hb; rw [List.length_map] at this; omega
    exact r_retD (K := K) (d := .int (ns.getD j 0)) (ed_ixSq (ex_l e1 h1) (ed_var (.int (j : Int))) (by rw [List.getElem?_map, List.getElem?_eq_getElem hj, List.getD_eq_getElem?_getD, List.getElem?_eq_getElem hj]; rfl)) fun v H2 e2 n => by
      rw [dp_int n.dp]
      exact k H2 (e1.trans e2)
  · have hj : ns.length ≤ j := by have := of_decide_eq_false hb; rw [List.length_map] at this; omega
    have e0 : ns.getD j 0 = 0 := by rw [List.getD_eq_getElem?_getD, List.getElem?_eq_none hj]; rfl
    rw [e0] at k
    exact r_retD (K := K) ed_int fun v H2 e2 n => by
      rw [dp_int n.dp]
      exact k H2 (e1.trans e2)
def sp_law_pen (K : PySem.W.Frag) : Sp := spD K fun ds d => ∃ c : Int, ds = [.int c] ∧ d = .list [.int c, .int (if decide (10 ^ 18 ≤ c) then 1 else 0), .int 0, .int (c.fmod 1000000007)]
theorem ln_law_pen : ∀ vs H Q E, sp_law_pen K vs H Q E → vs.length = 1 := spD_len fun ds d ⟨_, e, _⟩ => by rw [e]; rfl
theorem sc_law_pen : FnScope ["_law_cell"] ["_law_cell"] (defScope (top 93)) := ⟨rfl, rfl, rfl, by decide +kernel, rfl, by decide +kernel, by decide +kernel⟩
theorem df_law_pen (T : Txt K mg) (F : FnT K mg "_law_pen" (top 93))  : Df P w K mg base "_law_pen" 1 ["_law_cell"] (sp_law_pen K) := by
  have nd := sc_law_pen.nd
  refine df_mk (k := 0) F sc_law_pen (fun _ _ _ _ _ _ us hl => match us, hl with | [_], _ => rfl) (ln_law_pen) (fun f cdv A outer s H vs Q E hr h => ?_)
  refine ⟨_, (pss_one (ps_ret (pe_lst (pa_cons (pv 0) (pa_cons (pe_callTy call_int1 rfl T.b_int (by decide +kernel) (pa_cons (pe_cmpR op_ge (pv 0) (pe_op op_pow pe_int pe_int) (nomark _)) pa_nil)) (pa_cons pe_int (pa_cons (pe_op op_modN (pv 0) pe_int) pa_nil))))))), ?_⟩
  obtain ⟨ds, d, hv, ⟨c, rfl, rfl⟩, k⟩ := h
  obtain ⟨v, rfl, h1⟩ := dpa1 hv
  exact r_ret (K := K) (en_lst (eda_cons (ed_var h1) (eda_cons (ed_int1 (ed_op (ed_var h1) (ed_op ed_int ed_int (rv_I (i := 10) (j := 18) (c := .int (10 ^ 18)) ⟨by decide, by decide, by decide⟩ fun _ => .int _)) rv_ge)) (eda_cons ed_int (eda_cons (ed_mod (ed_var h1) ed_int (by decide) rfl) eda_nil))))) k
theorem pen_new {H : Hp} {p : Addr} {xs : List V} {c : Int} {f : Int} (h : H p = some (.lst xs)) (d : DpAll K H xs [.int c, .int f, .int 0, .int (c.fmod 1000000007)]) : PenAt H p := by
  obtain ⟨v1, v2, v3, v4, rfl, d1, d2, d3, d4⟩ := dpa4 d
  rw [dp_int d1, dp_int d2, dp_int d3, dp_int d4] at h
  have := fmod_lo (i := c) (j := 1000000007) (by decide)
  exact ⟨c, f, 0, _, h, this.1, by omega⟩
def sp_law_draw (K : PySem.W.Frag) : Sp := fun vs H Q _ => ∃ (p : Addr) (b : Nat), vs = [.ref p, .int (b : Int)] ∧ PenAt H p ∧ 1 ≤ b ∧ b ≤ 100 ∧ ∀ (r : Nat) H', Keep p H H' → PenAt H' p → r < b → Q (.int (r : Int)) H'
theorem ln_law_draw : ∀ vs H Q E, sp_law_draw K vs H Q E → vs.length = 2 := fun vs H Q E ⟨_, _, e, _⟩ => by rw [e]; rfl
theorem ed_pen {σ : L2.St} {H : Hp} {p : Addr} {c f n m : Int} (i : Nat) (h : H p = some (.lst [.int c, .int f, .int n, .int m])) (h0 : σ[0]? = some (some (.ref p))) (hi : i < 4) : EvD K (tOp (rIxL K) (tVar 0) (tC (.int (i : Int)))) σ H (.int ([c, f, n, m].getD i 0)) :=
  ed_op (ed_var (.lst h (dpa_int [c, f, n, m])) h0) ed_int (rv_ixL (at_i (ns := [c, f, n, m]) (by rw [List.getD_eq_getElem?_getD, List.getElem?_eq_getElem (show i < [c, f, n, m].length from hi)]; rfl)))
/-- pen[i] = e -/
theorem r_setPen {σ : L2.St} {H : Hp} {p : Addr} {c f n m x : Int} {te : TE} {D : Ends} {tz : TS} (i : Nat) (h : H p = some (.lst [.int c, .int f, .int n, .int m])) (h0 : σ[0]? = some (some (.ref p))) (hi : i < 4) (he : EvD K te σ H (.int x))
    (k : ∀ H1, Ex H H1 → tz D σ (upd H1 p (.lst ([V.int c, .int f, .int n, .int m].set i (.int x))))) : tSeq (tAsg te (gSub (tVar 0) (tC (.int (i : Int))) rSetL)) tz D σ H := he H (Ex.refl H) _ fun v H1 e1 dv => by
  rw [dp_int dv]
  have hx : ixN [V.int c, .int f, .int n, .int m].length ((i : Nat) : Int) = some i := by
    unfold ixN
    rw [if_pos (by omega), if_pos (by show (i : Int) < 4; omega)]
    rfl
  exact ⟨_, h0, p, [V.int c, .int f, .int n, .int m], (i : Int), i, rfl, rfl, e1 _ _ h, hx, k H1 e1⟩
theorem sc_law_draw : FnScope ["_law_pen_here", "_law_bound", "_law_found", "_law_stir"] ["_law_pen_here", "_law_bound"] (defScope (top 94)) := ⟨rfl, rfl, rfl, by decide +kernel, rfl, by decide +kernel, by decide +kernel⟩
theorem df_law_draw (T : Txt K mg) (F : FnT K mg "_law_draw" (top 94))  : Df P w K mg base "_law_draw" 1 ["_law_pen_here", "_law_bound"] (sp_law_draw K) := by
  have nd := sc_law_draw.nd
  refine df_mk (k := 0) F sc_law_draw (fun _ _ _ _ _ _ us hl => match us, hl with | [_, _], _ => rfl) (ln_law_draw) (fun f cdv A outer s H vs Q E hr h => ?_)
  refine ⟨_, (pss_cons (ps_if (PW.pt (pw_and (pt_cmpR op_eq (pe_ix (r := rIxL K) ix_list (pv 0) pe_int (fun _ _ => rfl)) pe_int (nomark _)) (pw_and1 (pt_cmpR op_gt (pe_ix (r := rIxL K) ix_list (pv 0) pe_int (fun _ _ => rfl)) pe_int (nomark _))))) (pss_cons (ps_set (i := 2) nd rfl (by first | exact Or.inl rfl | exact Or.inr rfl) (pe_op op_modN (pe_ix (r := rIxL K) ix_list (pv 0) pe_int (fun _ _ => rfl)) (pv 1)))
      (pss_cons (ps_asg (pe_op op_fdivN (pe_ix (r := rIxL K) ix_list (pv 0) pe_int (fun _ _ => rfl)) (pv 1)) (pg_sub (pv 0) pe_int set_list))
      (pss_one (ps_ret (pv 2))))) pss_nil)
      (pss_cons (ps_asg (pe_op op_add (pe_ix (r := rIxL K) ix_list (pv 0) pe_int (fun _ _ => rfl)) pe_int) (pg_sub (pv 0) pe_int set_list))
      (pss_cons (ps_set (i := 3) nd rfl (by first | exact Or.inl rfl | exact Or.inr rfl) (pe_op op_modN (pe_op op_mul (pe_op op_add (pe_ix (r := rIxL K) ix_list (pv 0) pe_int (fun _ _ => rfl)) pe_int) (pe_op op_add pe_int (pe_op op_mul pe_int (pe_ix (r := rIxL K) ix_list (pv 0) pe_int (fun _ _ => rfl))))) pe_int))
      (pss_cons (ps_set (i := 3) nd rfl (by first | exact Or.inl rfl | exact Or.inr rfl) (pe_op op_modN (pe_op op_add (pe_op op_add (pe_op op_mul (pv 3) (pv 3)) (pe_op op_mul pe_int (pe_ix (r := rIxL K) ix_list (pv 0) pe_int (fun _ _ => rfl)))) pe_int) pe_int))
      (pss_one (ps_ret (pe_op op_modN (pe_op op_fdivN (pe_op op_modN (pe_op op_mul (pv 3) pe_int) pe_int) pe_int) (pv 1)))))))), ?_⟩
  obtain ⟨p, b, rfl, ⟨c, f', n, m, hp, m1, m2⟩, b1, b2, k⟩ := h
  have fin : ∀ (x : Int) (H1 : Hp), Keep p H H1 → PenAt H1 p → Q (.int (x.fmod (b : Int))) H1 := fun x H1 kp pa => by
    have h := fmod_lo (i := x) (j := (b : Int)) (by omega)
    have e : x.fmod (b : Int) = (((x.fmod (b : Int)).toNat : Nat) : Int) := by omega
    rw [e]
    exact k _ H1 kp pa (by omega)
  refine q_when (b := decide (f' = 1) && decide (0 < c)) (et_and (et_test (K := K) (ed_op (ed_pen 1 hp rfl (by decide)) ed_int rv_eqI)) fun _ => et_test (ed_op (K := K) (ed_pen 0 hp rfl (by decide)) ed_int rv_gt)) (fun hb H1 e1 => ?_) (fun hb H1 e1 => ?_)
  · have hp1 := e1 _ _ hp
    refine r_asg (K := K) (d := .int (c.fmod (b : Int))) (ed_mod (ed_pen 0 hp1 rfl (by decide)) (ed_var (.int (b : Int))) (by omega) rfl) fun v H2 e2 dv => ?_
    rw [dp_int dv]
    have hp2 := e2 _ _ hp1
    refine r_setPen (K := K) (x := c.fdiv (b : Int)) 0 hp2 rfl (by decide) (ed_fdiv (ed_pen 0 hp2 rfl (by decide)) (ed_var (.int (b : Int))) ⟨by omega, by omega⟩ rfl) fun H3 e3 => ?_
    exact ⟨_, rfl, fin c _ ((Keep.of ((e1.trans e2).trans e3)).trans Keep.upd) ⟨_, _, _, _, upd_same, m1, m2⟩⟩
  · have hp1 := e1 _ _ hp
    refine r_setPen (K := K) (x := n + 1) 2 hp1 rfl (by decide) (ed_add (ed_pen 2 hp1 rfl (by decide)) ed_int rfl) fun H3 e3 => ?_
    have kp : Keep p H (upd H3 p (.lst ([V.int c, .int f', .int n, .int m].set 2 (.int (n + 1))))) := (Keep.of (e1.trans e3)).trans Keep.upd
    have hp3 : upd H3 p (.lst ([V.int c, .int f', .int n, .int m].set 2 (.int (n + 1)))) p = some (.lst [.int c, .int f', .int (n + 1), .int m]) := upd_same
    generalize upd H3 p (.lst ([V.int c, .int f', .int n, .int m].set 2 (.int (n + 1)))) = H4 at kp hp3
    refine r_asg (K := K) (ed_mod (ed_mul (ed_add (ed_pen 3 hp3 rfl (by decide)) ed_int rfl) (ed_add ed_int (ed_mul ed_int (ed_pen 2 hp3 rfl (by decide)) ⟨by decide, by decide⟩ rfl) rfl) ⟨?_, ?_⟩ rfl) ed_int (by decide) rfl) fun v H5 e5 dv => ?_
    · show -(2 ^ 64) < m + 17
      omega
    · show m + 17 < 2 ^ 64
      omega
    have hs := fmod_lo (i := ([c, f', n + 1, m].getD 3 0 + 17) * (69621 + 2 * [c, f', n + 1, m].getD 2 0)) (j := 2147483647) (by decide)
    generalize (([c, f', n + 1, m].getD 3 0 + 17) * (69621 + 2 * [c, f', n + 1, m].getD 2 0)).fmod 2147483647 = st at dv hs
    rw [dp_int dv]
    have hp5 := e5 _ _ hp3
    refine r_asg (K := K) (ed_mod (ed_add (ed_add (ed_mul (ed_var (.int st)) (ed_var (.int st)) ⟨by omega, by omega⟩ rfl) (ed_mul ed_int (ed_pen 2 hp5 rfl (by decide)) ⟨by decide, by decide⟩ rfl) rfl) ed_int rfl) ed_int (by decide) rfl) fun v2 H6 e6 dv2 => ?_
    have hs2 := fmod_lo (i := st * st + 40503 * [c, f', n + 1, m].getD 2 0 + 5) (j := 2147483629) (by decide)
    generalize (st * st + 40503 * [c, f', n + 1, m].getD 2 0 + 5).fmod 2147483629 = st2 at dv2 hs2
    rw [dp_int dv2]
    refine r_retD (K := K) (d := .int _) (ed_mod (ed_fdiv (ed_mod (ed_mul (ed_var (.int st2)) ed_int ⟨by omega, by omega⟩ rfl) ed_int (by decide) rfl) ed_int ⟨by decide, by decide⟩ rfl) (ed_var (.int (b : Int))) (by omega) rfl) fun z H7 e7 nz => ?_
    rw [dp_int nz]
    exact fin _ H7 (kp.trans (Keep.of ((e5.trans e6).trans e7))) ⟨_, _, _, _, e7 _ _ (e6 _ _ hp5), m1, m2⟩
def sp_law_hues_text (K : PySem.W.Frag) : Sp := spD K fun ds d => ∃ dr, ds = [iT dr] ∧ HuOk dr ∧ d = .str (dtxt dr)
theorem ln_law_hues_text : ∀ vs H Q E, sp_law_hues_text K vs H Q E → vs.length = 1 := spD_len fun ds d ⟨_, e, _⟩ => by rw [e]; rfl
theorem sg_at1 {h : Int} (a : -1 ≤ h ∧ h ≤ 3) : atI ((".0123" : Str)).cps.toList (h + 1) = some (sg h) := by
  rcases hu_cases a with rfl | rfl | rfl | rfl | rfl <;> decide +kernel
theorem join_none {d : List Int} (h : d ≠ []) : Txt.join "" (d.map fun h => sT [sg h]) = dtxt d := by
  have e : d.map (fun h => sT [sg h]) = (d.map sg).map fun c => sT [c] := by rw [List.map_map]; rfl
  rw [emptyT, e, join_chars]
  unfold dtxt
  rw [if_neg h]
theorem sc_law_hues_text : FnScope ["_law_some", "_law_hue"] ["_law_some"] (defScope (top 97)) := ⟨rfl, rfl, rfl, by decide +kernel, rfl, by decide +kernel, by decide +kernel⟩
theorem df_law_hues_text (T : Txt K mg) (F : FnT K mg "_law_hues_text" (top 97))  : Df P w K mg base "_law_hues_text" 1 ["_law_some"] (sp_law_hues_text K) := by
  have nd := sc_law_hues_text.nd
  refine df_mk (k := 0) F sc_law_hues_text (fun _ _ _ _ _ _ us hl => match us, hl with | [_], _ => rfl) (ln_law_hues_text) (fun f cdv A outer s H vs Q E hr h => ?_)
  refine ⟨_, (pss_one (ps_ret (pe_ifExp (pt_cmpR op_gt (pe_callB (r := rLn K) call_len rfl T.b_len (by decide +kernel) (pa_cons (pv 0) pa_nil)) pe_int (nomark _)) (pe_join pe_str (pe_lc (own := [("_law_hue", 1)]) (g := gName 1) (tt := tYes) rfl nd (pi_tup (pv 0)) (blkOk_by (N := ["_law_some", "_law_hue"]) (sc := defScope (top 97)) (by decide +kernel)) (fun _ _ _ _ _ => (pg_name (i := 1) nd rfl (by first | exact Or.inl rfl | exact Or.inr rfl))) (fun _ _ _ _ _ => pts_nil) (fun _ _ _ _ _ => (pe_ix ix_str pe_str (pe_op op_add (pv 1) pe_int) (fun _ _ => rfl))))) pe_str))), ?_⟩
  obtain ⟨ds, d, hv, ⟨dr, rfl, ok, rfl⟩, k⟩ := h
  obtain ⟨v, rfl, h1⟩ := dpa1 hv
  have hl := ok.1
  refine r_retD (K := K) (ed_if (b := decide ((0 : Int) < (dr.length : Int))) (et_test (ed_op (ed_lenI (ed_var h1)) ed_int rv_gt)) (fun hb => ?_) (fun hb => ?_)) k
  · have hne : dr ≠ [] := fun z => by rw [z] at hb; cases hb
    rw [← join_none hne]
    refine ed_join ed_str ?_ ?_
    · rw [List.map_map]
      exact (en_lcI (fun h => .str (sT [sg h])) (ed_var h1) (by omega) (fun _ => rfl) (fun i hi H2 e2 => ed_op ed_str (ed_add (ed_var (.int i)) ed_int rfl) (rv_ixS (by decide +kernel) (sg_at1 (ok.2 i hi)))) (fun _ _ => rfl)).toD
    · have e : dr.map (fun h => sT [sg h]) = (dr.map sg).map fun c => sT [c] := by rw [List.map_map]; rfl
      rw [e, lens_chars]
      simp
      have : (("" : Str)).length = 0 := by decide +kernel
      rw [this]
      omega
  · have hn : dr = [] := by
      have := of_decide_eq_false hb
      exact List.length_eq_zero_iff.mp (by omega)
    rw [hn]
    exact ed_str
def sp_law_numbers_text (K : PySem.W.Frag) : Sp := spD K fun ds d => ∃ l, ds = [nT l] ∧ NuOk l ∧ d = .str (ntxt l)
theorem ln_law_numbers_text : ∀ vs H Q E, sp_law_numbers_text K vs H Q E → vs.length = 1 := spD_len fun ds d ⟨_, e, _⟩ => by rw [e]; rfl
theorem ed_glue {σ : L2.St} {H : Hp} {te : TE} {l : List Nat} {j : Nat} {vs : List Nat} (ok : NuOk l) (hne : l ≠ []) (h : EvD K te σ H (nT l)) (hw : ∀ x, wipe ((wipe σ vs).set j (some x)) vs = wipe σ vs) (hs : ∀ x : V, ((wipe σ vs).set j (some x))[j]? = some (some x)) :
    EvD K (tM1 (rJoinT K) (tC (.str ",")) (tLc (iTup K te) (gName j) tYes (tCB rStrI (tCons (tVar j) tNil)) vs)) σ H (.str (ntxt l)) := by
  have hl := ok.1
  have e0 : Txt.join commaT (l.map fig) = ntxt l := by
    unfold ntxt
    rw [if_neg hne]
  rw [← e0]
  refine ed_join (z := commaT) ed_str ?_ ?_
  · rw [List.map_map]
    exact (en_lcNa (fun n => .str (fig n)) h (by omega) hw (fun i hi H2 e2 => (ed_strI (ed_var (.int (i : Int)) (hs _)) (by have := ok.2 i hi; omega)).eq (congrArg PyData.str (fig_str i (ok.2 i hi)))) (fun _ _ => rfl)).toD
  · rw [lens_fig, List.length_map]
    have : commaT.length = 1 := by decide +kernel
    rw [this]
    omega
theorem sc_law_numbers_text : FnScope ["_law_some", "_law_one"] ["_law_some"] (defScope (top 98)) := ⟨rfl, rfl, rfl, by decide +kernel, rfl, by decide +kernel, by decide +kernel⟩
theorem df_law_numbers_text (T : Txt K mg) (F : FnT K mg "_law_numbers_text" (top 98))  : Df P w K mg base "_law_numbers_text" 1 ["_law_some"] (sp_law_numbers_text K) := by
  have nd := sc_law_numbers_text.nd
  refine df_mk (k := 0) F sc_law_numbers_text (fun _ _ _ _ _ _ us hl => match us, hl with | [_], _ => rfl) (ln_law_numbers_text) (fun f cdv A outer s H vs Q E hr h => ?_)
  refine ⟨_, (pss_one (ps_ret (pe_ifExp (pt_cmpR op_gt (pe_callB (r := rLn K) call_len rfl T.b_len (by decide +kernel) (pa_cons (pv 0) pa_nil)) pe_int (nomark _)) (pe_join pe_str (pe_lc (own := [("_law_one", 1)]) (g := gName 1) (tt := tYes) rfl nd (pi_tup (pv 0)) (blkOk_by (N := ["_law_some", "_law_one"]) (sc := defScope (top 98)) (by decide +kernel)) (fun _ _ _ _ _ => (pg_name (i := 1) nd rfl (by first | exact Or.inl rfl | exact Or.inr rfl))) (fun _ _ _ _ _ => pts_nil) (fun _ _ _ _ _ => (pe_callTy call_str_int rfl T.b_str (by decide +kernel) (pa_cons (pv 1) pa_nil))))) pe_str))), ?_⟩
  obtain ⟨ds, d, hv, ⟨l, rfl, ok, rfl⟩, k⟩ := h
  obtain ⟨v, rfl, h1⟩ := dpa1 hv
  have hl := ok.1
  refine r_retD (K := K) (ed_if (b := decide ((0 : Int) < (l.length : Int))) (et_test (ed_op (ed_lenN (ed_var h1)) ed_int rv_gt)) (fun hb => ?_) (fun hb => ?_)) k
  · have hne : l ≠ [] := fun z => by rw [z] at hb; cases hb
    exact ed_glue ok hne (ed_var h1) (fun _ => rfl) (fun _ => rfl)
  · have hn : l = [] := by
      have := of_decide_eq_false hb
      exact List.length_eq_zero_iff.mp (by omega)
    rw [hn]
    exact ed_str
def sp_law_sizes (K : PySem.W.Frag) : Sp := fun vs H Q _ => ∃ p : Addr, vs = [.ref p] ∧ PenAt H p ∧ ∀ sz v H', sz ∈ menus → Keep p H H' → PenAt H' p → Dp K H' v (nT sz) → Q v H'
theorem ln_law_sizes : ∀ vs H Q E, sp_law_sizes K vs H Q E → vs.length = 1 := fun vs H Q E ⟨_, e, _⟩ => by rw [e]; rfl
theorem sc_law_sizes : FnScope ["_law_pen_here", "_law_some"] ["_law_pen_here"] (defScope (top 99)) := ⟨rfl, rfl, rfl, by decide +kernel, rfl, by decide +kernel, by decide +kernel⟩
theorem df_law_sizes (T : Txt K mg) (F : FnT K mg "_law_sizes" (top 99)) (D__law_draw : Df P w K mg base "_law_draw" 1 ["_law_pen_here", "_law_bound"] (sp_law_draw K)) : Df P w K mg base "_law_sizes" 2 ["_law_pen_here"] (sp_law_sizes K) := by
  have nd := sc_law_sizes.nd
  refine df_mk (k := 1) F sc_law_sizes (fun _ _ _ _ _ _ us hl => match us, hl with | [_], _ => rfl) (ln_law_sizes) (fun f cdv A outer s H vs Q E hr h => ?_)
  refine ⟨_, (pss_cons (ps_set (i := 1) nd rfl (by first | exact Or.inl rfl | exact Or.inr rfl) (pe_lst (pa_cons (pe_tup (pa_cons pe_int (pa_cons pe_int pa_nil))) (pa_cons (pe_tup (pa_cons pe_int (pa_cons pe_int pa_nil))) (pa_cons (pe_tup (pa_cons pe_int (pa_cons pe_int (pa_cons pe_int pa_nil)))) (pa_cons (pe_tup (pa_cons pe_int (pa_cons pe_int pa_nil))) (pa_cons (pe_tup (pa_cons pe_int pa_nil)) (pa_cons (pe_tup (pa_cons pe_int (pa_cons pe_int (pa_cons pe_int (pa_cons pe_int pa_nil))))) (pa_cons (pe_tup (pa_cons pe_int (pa_cons pe_int pa_nil))) (pa_cons (pe_tup (pa_cons pe_int (pa_cons pe_int (pa_cons pe_int pa_nil)))) (pa_cons (pe_tup (pa_cons pe_int (pa_cons pe_int pa_nil))) pa_nil)))))))))))
      (pss_one (ps_ret (pe_ix (r := rIxL K) ix_list (pv 1) (pe_d D__law_draw (hr.mono (by decide)) rfl (pa_cons (pv 0) (pa_cons pe_int pa_nil))) (fun _ _ => rfl))))), ?_⟩
  obtain ⟨p, rfl, ⟨c, f', n, m, hp, m1, m2⟩, k⟩ := h
  have t2 : ∀ (a b : Nat) (σ : L2.St), EvD K (tTup (tCons (tC (.int (a : Int))) (tCons (tC (.int (b : Int))) tNil))) σ H (nT [a, b]) := fun a b σ => en_tup (eda_cons ed_int (eda_cons ed_int eda_nil)) (by rw [iT_len, toI_len]; simp)
  have t3 : ∀ (a b c : Nat) (σ : L2.St), EvD K (tTup (tCons (tC (.int (a : Int))) (tCons (tC (.int (b : Int))) (tCons (tC (.int (c : Int))) tNil)))) σ H (nT [a, b, c]) := fun a b c σ => en_tup (eda_cons ed_int (eda_cons ed_int (eda_cons ed_int eda_nil))) (by rw [iT_len, toI_len]; simp)
  have t1 : ∀ (a : Nat) (σ : L2.St), EvD K (tTup (tCons (tC (.int (a : Int))) tNil)) σ H (nT [a]) := fun a σ => en_tup (eda_cons ed_int eda_nil) (by rw [iT_len, toI_len]; simp)
  have t4 : ∀ (a b c d : Nat) (σ : L2.St), EvD K (tTup (tCons (tC (.int (a : Int))) (tCons (tC (.int (b : Int))) (tCons (tC (.int (c : Int))) (tCons (tC (.int (d : Int))) tNil))))) σ H (nT [a, b, c, d]) := fun a b c d σ => en_tup (eda_cons ed_int (eda_cons ed_int (eda_cons ed_int (eda_cons ed_int eda_nil)))) (by rw [iT_len, toI_len]; simp)
  refine r_asgN (K := K) (ds := menus.map nT) (en_lst (eda_cons (t2 3 3 _) (eda_cons (t2 3 4 _) (eda_cons (t3 2 2 3 _) (eda_cons (t2 2 2 _) (eda_cons (t1 4 _) (eda_cons (t4 3 3 3 3 _) (eda_cons (t2 2 6 _) (eda_cons (t3 8 2 5 _) (eda_cons (t2 4 4 _) eda_nil))))))))) (by rw [List.length_map]; decide)) fun q H1 hq e1 hl => ?_
  obtain ⟨xs, hx, hxa⟩ := hl
  have hpq : p ≠ q := ne_of_none hp hq
  refine ⟨_, rfl, _, rfl, p, 9, rfl, ⟨c, f', n, m, e1 _ _ hp, m1, m2⟩, by decide, by decide, fun r H2 kp pa hr => ?_⟩
  have hx2 := kp _ _ hpq.symm hx
  have hm : menus[r]? = some (menus[r]'hr) := List.getElem?_eq_getElem hr
  obtain ⟨v, hv, dv⟩ := dpa_get hxa (i := r) (d := nT (menus[r]'hr)) (by rw [List.getElem?_map, hm]; rfl)
  have hlen := dpa_len hxa
  refine ⟨q, xs, (r : Int), v, rfl, rfl, sq_of hx2, atI_nat hv, ?_⟩
  exact k _ v H2 (List.getElem_mem hr) ((Keep.of e1).trans kp) pa (dpk (e1 _ _ hp) kp (flat_nT _) dv)
end
end EH

set_option Elab.async false
set_option linter.all false
set_option maxRecDepth 100000
set_option maxHeartbeats 4000000
namespace EH
open PySem PySem.Spec PyProof.Rows L2 Evl LamX
/-! ### Desk() -/
mutual
theorem dpq {K : PySem.W.Frag} {H H' : Hp} (e : ∀ b o, (∃ xs, o = .lst xs ∨ o = .tup xs) → H b = some o → H' b = some o) : ∀ {d : PyData} {v : V}, Dp K H v d → Dp K H' v d
  | _, _, .non => .non
  | _, _, .bl b => .bl b
  | _, _, .int i => .int i
  | _, _, .str x => .str x
  | _, _, .lst hs ha => .lst (e _ _ ⟨_, .inl rfl⟩ hs) (dpqs e ha)
  | _, _, .tup hs ha => .tup (e _ _ ⟨_, .inr rfl⟩ hs) (dpqs e ha)
theorem dpqs {K : PySem.W.Frag} {H H' : Hp} (e : ∀ b o, (∃ xs, o = .lst xs ∨ o = .tup xs) → H b = some o → H' b = some o) : ∀ {ds : List PyData} {vs : List V}, DpAll K H vs ds → DpAll K H' vs ds
  | _, _, .nil => .nil
  | _, _, .cons h t => .cons (dpq e h) (dpqs e t)
end
def st0 : List St2 := [([3, 3], [])]
section
variable {P : Program} {w : World} {K : PySem.W.Frag} {mg : Str → Option Value} {base : Heap} {C pP dS : Addr}
def sp_init (K : PySem.W.Frag) (C : Addr) : Sp := fun vs H Q _ => ∃ a dx, vs = [.ref a] ∧ H a = some (.ins C dx []) ∧ ∀ l H1 xs, Ex H H1 → H l = none → H1 l = some (.lst xs) → DpAll K H1 xs (st0.map deskD) → Q .non (upd H1 a (.ins C dx [("kept", .ref l)]))
theorem ln_init : ∀ vs H Q E, sp_init K C vs H Q E → vs.length = 1 := fun vs H Q E ⟨_, _, e, _⟩ => by rw [e]; rfl
theorem sc_init : FnScope ["self"] ["self"] (defScope (inClass (top 90) 0)) := ⟨rfl, rfl, rfl, by decide +kernel, rfl, by decide +kernel, by decide +kernel⟩
theorem mt_init (T : Txt K mg) (Y : DeskK w K mg C pP dS) (F : FnMt K C "__init__" "Desk.__init__" (inClass (top 90) 0)) : Mt P w K mg base CX0 C "__init__" 1 ["self"] (sp_init K C) := by
  have nd := sc_init.nd
  refine mt_mk (k := 0) F sc_init (fun _ _ _ _ _ _ us hl => match us, hl with | [_], _ => rfl) (ln_init) (fun f cdv A outer s H vs Q E hr h => ?_)
  refine ⟨_, PSs.nox ((pss_one (ps_fld (pv 0) (pe_lst (pa_cons (pe_tup (pa_cons (pe_tup (pa_cons pe_int (pa_cons pe_int pa_nil))) (pa_cons (pe_tup pa_nil) pa_nil))) pa_nil)) rfl))), ?_⟩
  obtain ⟨a, dx, rfl, hi, k⟩ := h
  refine (en_lst (K := K) (H := H) (σ := [some (.ref a)]) (ds := st0.map deskD) (eda_cons (d := deskD ([3, 3], [])) (en_tup (eda_cons (d := nT [3, 3]) (en_tup (eda_cons ed_int (eda_cons ed_int eda_nil)) (by rw [iT_len, toI_len]; simp)) (eda_cons (d := iT []) (en_tup eda_nil) eda_nil))) eda_nil) (by rw [List.length_map]; simp [st0])) H (Ex.refl H) _ fun v H1 e1 n => ?_
  obtain ⟨l, xs, rfl, hl, hx, ha⟩ := n
  exact ⟨_, rfl, a, C, dx, [], rfl, e1 _ _ hi, Y.cls, Y.na, by simp, k l H1 xs e1 hl hx ha⟩
structure MkD (P : Program) (w : World) (K : PySem.W.Frag) (mg : Str → Option Value) (base : Heap) (C : Addr) : Prop where
  ex : ∃ (f : Addr) (fd : FuncData), Mk K C f ∧ FnOk P w K mg base CX0 1 f fd ["self"] (sp_init K C) ∧ Binds K fd ["self"] []
theorem mkd_of (M : Mt P w K mg base CX0 C "__init__" 1 ["self"] (sp_init K C)) (h1 : PySem.W.makesIn K C = true) (h2 : PySem.W.keepIn K (.ref C) = true) : MkD P w K mg base C := by
  obtain ⟨f, fd, m, F, B⟩ := M.ex
  exact ⟨f, fd, ⟨h1, m.at_, m.fn, h2⟩, F, B⟩
theorem pe_desk {X : Cx} {p pos : Pos} (M : MkD X.prog X.w X.K X.mg X.base C) (mC : X.mg "Desk" = some (.ref C)) (hr : Room 2 X.A) (hg : Gl X "Desk") : PE X (.Call (.Name "Desk" p) [] [] pos) (tMake C (sp_init X.K C) [] E0 tNil) := by
  obtain ⟨f, fd, m, F, B⟩ := M.ex
  exact pe_make0 m F hr hg mC B .nil pass0
theorem ev_desk {σ : L2.St} {H : Hp} {Q : VK} (k : ∀ a l H', Ex H H' → H a = none → H l = none → DeskAt K C H' a l st0 → Q (.ref a) H') : tMake C (sp_init K C) [] E0 tNil σ H Q := fun x dx hx hdx hne =>
  ⟨x, dx, rfl, upd_same, fun l H1 xs e1 hl hx1 hxa => ⟨rfl, by
    have nlx : l ≠ x := fun z => by rw [z, upd_same] at hl; cases hl
    have nld : l ≠ dx := fun z => by rw [upd_ne nlx, z, upd_same] at hl; cases hl
    have hl0 : H l = none := by rw [upd_ne nlx, upd_ne nld] at hl; exact hl
    have hix : H1 x = some (.ins C dx []) := e1 _ _ upd_same
    have keep : ∀ b o, (∃ xs, o = .lst xs ∨ o = .tup xs) → H1 b = some o → upd H1 x (.ins C dx [("kept", .ref l)]) b = some o := fun b o ho hb => by
      rw [upd_ne]
      · exact hb
      · intro z
        rw [z, hix] at hb
        cases hb
        obtain ⟨xs, h | h⟩ := ho <;> cases h
    refine k x l _ (fun b o hb => ?_) hx hl0 ⟨⟨dx, upd_same⟩, xs, keep _ _ ⟨xs, .inl rfl⟩ hx1, dpqs keep hxa⟩
    have nb : b ≠ x := fun z => by rw [z, hx] at hb; cases hb
    have nd : b ≠ dx := fun z => by rw [z, hdx] at hb; cases hb
    rw [upd_ne nb]
    exact e1 b o (by rw [upd_ne nb, upd_ne nd]; exact hb)⟩⟩
/-! ### over lambda calls: all but one list and the code tables stays -/
def NoT (o : HO) : Prop := ∀ ps, o ≠ .tbl ps
def Kt (l : Addr) (H H' : Hp) : Prop := ∀ b o, b ≠ l → NoT o → H b = some o → H' b = some o
theorem Kt.refl {l : Addr} {H : Hp} : Kt l H H := fun _ _ _ _ h => h
theorem Kt.trans {l : Addr} {H H1 H2 : Hp} (a : Kt l H H1) (b : Kt l H1 H2) : Kt l H H2 := fun c o n t h => b c o n t (a c o n t h)
theorem Kt.keep {l : Addr} {H H1 : Hp} (k : Keep l H H1) : Kt l H H1 := fun b o n _ h => k b o n h
theorem Kt.ex {l : Addr} {H H1 : Hp} (k : Ex H H1) : Kt l H H1 := fun b o n _ h => k b o h
theorem Kt.extN {l : Addr} {H H1 : Hp} (k : ExtN H H1) : Kt l H H1 := fun b o _ t h => k b o h t
theorem noT_lst {xs : List V} : NoT (.lst xs) := fun _ z => by cases z
theorem noT_tup {xs : List V} : NoT (.tup xs) := fun _ z => by cases z
theorem noT_ins {C dx : Addr} {fs : List (Str × V)} : NoT (.ins C dx fs) := fun _ z => by cases z
mutual
theorem dpt {l : Addr} {xs : List V} {H H' : Hp} (hl : H l = some (.lst xs)) (k : Kt l H H') : ∀ {d : PyData} {v : V}, flat d = true → Dp K H v d → Dp K H' v d
  | _, _, _, .non => .non
  | _, _, _, .bl b => .bl b
  | _, _, _, .int i => .int i
  | _, _, _, .str x => .str x
  | _, _, f, .lst hs ha => by simp [flat] at f
  | _, _, f, .tup hs ha => .tup (k _ _ (ne_of hs hl (by intro z; cases z)) noT_tup hs) (dpts hl k (by simpa [flat] using f) ha)
theorem dpts {l : Addr} {xs : List V} {H H' : Hp} (hl : H l = some (.lst xs)) (k : Kt l H H') : ∀ {ds : List PyData} {vs : List V}, flats ds = true → DpAll K H vs ds → DpAll K H' vs ds
  | _, _, _, .nil => .nil
  | _, _, f, .cons h t => by
    simp only [flats, Bool.and_eq_true] at f
    exact .cons (dpt hl k f.1 h) (dpts hl k f.2 t)
end
theorem DeskAt.extN {H H1 : Hp} {a l : Addr} {st : List St2} (h : DeskAt K C H a l st) (e : ExtN H H1) : DeskAt K C H1 a l st := by
  obtain ⟨⟨dx, hi⟩, xs, hx, ha⟩ := h
  exact ⟨⟨dx, e _ _ hi noT_ins⟩, xs, e _ _ hx noT_lst, dpqs (fun b o ho hb => e b o hb (by obtain ⟨ys, h | h⟩ := ho <;> (rw [h]; intro _ z; cases z))) ha⟩
theorem DeskAt.kt {H H1 : Hp} {a l b : Addr} {ys : List V} {st : List St2} (h : DeskAt K C H a l st) (hb : H b = some (.lst ys)) (n : l ≠ b) (e : Kt b H H1) : DeskAt K C H1 a l st := by
  have hn := h.ne hb
  obtain ⟨⟨dx, hi⟩, xs, hx, ha⟩ := h
  exact ⟨⟨dx, e _ _ hn noT_ins hi⟩, xs, e _ _ n noT_lst hx, dpts hb e (flats_desk st) ha⟩
theorem DeskAt.lst {H : Hp} {a l : Addr} {st : List St2} (h : DeskAt K C H a l st) : ∃ xs, H l = some (.lst xs) := by
  obtain ⟨_, xs, hx, _⟩ := h
  exact ⟨xs, hx⟩
theorem tabs_keep {T : List (Addr × Str)} {H H1 : Hp} {l : Addr} {xs : List V} (t : Tabs T H) (hl : H l = some (.lst xs)) (k : Keep l H H1) : Tabs T H1 := fun p hp => by
  obtain ⟨ps, h1, h2, h3⟩ := t p hp
  refine ⟨ps, k _ _ (fun z => by rw [z, hl] at h1; cases h1) h1, h2, fun pos cv hc => ?_⟩
  obtain ⟨c, e1, e2⟩ := h3 pos cv hc
  refine ⟨c, e1, k _ _ (fun z => ?_) e2⟩
  rw [z, hl] at e2
  unfold CodeO at e2
  cases e2
/-! ### _law_got -/
/-- told: try: return a() / except HueError as e: return kind of e -/
def TTgot (mg : Str → Option Value) : (XK → Hp → VK → Prop) → Hp → VK → Prop := fun tl H Q =>
  tl (fun cls d H' => ∃ x, x ∈ errs ∧ cls = .ref (cAd mg x) ∧ DOk d H' ∧ ∀ H'', Ex H' H'' → Q (.str (kindT x)) H'') H Q
structure KindF (P : Program) (w : World) (K : PySem.W.Frag) (mg : Str → Option Value) (base : Heap) : Prop where
  ex : ∃ (f : Addr) (fd : FuncData), FnC P w K mg base 1 f fd ["_law_e"] (sp_law_kind K mg) ∧ mg "_law_kind" = some (.ref f) ∧ PySem.W.keepIn K (.ref f) = true ∧ Binds K fd ["_law_e"] []
theorem sc_law_got : FnScope ["_law_call", "_law_e"] ["_law_call"] (defScope (top 96)) := ⟨rfl, rfl, rfl, by decide +kernel, rfl, by decide +kernel, by decide +kernel⟩
theorem pss_conv {X : Cx} {st : List Stmt} {t t' : TS} (h : PSs X st t) (c : ∀ D σ H, σ.length = X.N.length → t' D σ H → t D σ H) : PSs X st t' := ⟨fun pins s σ H D I h' => h.run pins s σ H D I (c D σ H I.len h')⟩
theorem got_gives {X : Cx} {g : Addr} {cdg : Value} {q : Str} (Kn : KindK X.K X.mg) (G : KindF X.prog X.w X.K X.mg X.base) (hr : Room 2 X.A) :
    GivesTo X ["_law_call", "_law_e"] "_law_got" (defScope (top 96)) g cdg (defBody (top 96)) "_law_call" q (TTgot X.mg) := by
  intro f c' s H Q tl act hc h
  obtain ⟨fk, fdk, F, hm, hk, hb⟩ := G.ex
  have nd := sc_law_got.nd
  have hr1 := hr.deeper (envOfC "_law_got" (defScope (top 96)) s.heap.objs.size g cdg)
  have hgl : Gl (cxOf C8.CX0 X.prog X.w X.K X.mg X.base ["_law_call", "_law_e"] "_law_got" (defScope (top 96)) g cdg X.A X.stack s H C8.E0).nox "HueError" := rfl
  refine ⟨_, pss_one (L2.ps_try_as (X := (cxOf C8.CX0 X.prog X.w X.K X.mg X.base ["_law_call", "_law_e"] "_law_got" (defScope (top 96)) g cdg X.A X.stack s H C8.E0).nox) (i := 1) (c := .ref (cAd X.mg "HueError"))
      (tb := fun W D σ H => ∃ Ech : XK, (∀ cls d σ' H', Ech cls d H' → W cls d σ' H') ∧ σ[0]? = some (some (.ref f)) ∧ H c' = some (CodeO c' q) ∧ tl Ech H D.rt)
      (ts := fun a cls d D σ H => ∃ x, x ∈ errs ∧ cls = .ref (cAd X.mg x) ∧ DOk d H ∧ (σ.length = 2 → σ[1]? = some (some (.ref a))) ∧ ∀ H'', Ex H H'' → D.rt (.str (kindT x)) H'')
      rfl rfl nd rfl rfl ⟨hgl, by decide, .inl Kn.hue⟩ L2.takes0 (fun W pn xe tk _ => ?_) (fun a oe cls d pn hz hf => ?_)), ?_⟩
  · refine ⟨fun pins s' σ H' D I h' => ?_⟩
    obtain ⟨Ech, hW, h1, h2, h3⟩ := h'
    exact (pss_one (ps_ret (act W pn xe Ech _ _ tk hW))).run pins s' σ H' D I ⟨h1, h2, h3⟩
  · refine pss_conv (pss_one (ps_ret (pe_callC (p := (a, oe)) F ⟨hr1.dp, hr1.un⟩ List.mem_cons_self rfl hm hk hb (pa_cons (pv 1) pa_nil)))) fun D σ H hl h' => ?_
    obtain ⟨x, hx, rfl, ok, h1, k⟩ := h'
    have h1 := h1 hl
    exact ⟨_, h1, x, d, rfl, hx, hz.1, hz.2, hf, ok, k⟩
  · exact ⟨fun cls d H' => ∃ x, x ∈ errs ∧ cls = .ref (cAd X.mg x) ∧ DOk d H' ∧ ∀ H'', Ex H' H'' → Q (.str (kindT x)) H'', fun cls d σ' H' ⟨x, hx, e, ok, k⟩ => by
      subst e
      exact ⟨true, (Kn.is x hx).2.2.2, fun _ a na => ⟨x, hx, rfl, ok, fun hl => by
        have hl2 : σ'.length = 2 := by rw [List.length_set] at hl; exact hl
        exact List.getElem?_set_self (by omega), k⟩, fun z => by cases z⟩, rfl, hc, h⟩
end
end EH

set_option Elab.async false
set_option linter.all false
set_option maxRecDepth 100000
set_option maxHeartbeats 4000000
namespace EH
open PySem PySem.Spec PyProof.Rows L2 Evl LamX
/-! ### defs that hold lambdas -/
abbrev lamQ (x : Str) : Str := (x ++ ".<locals>.") ++ "<lambda>"
structure LamD (K : PySem.W.Frag) (base : Heap) (mg : Str → Option Value) (T : List (Addr × Str)) (x : Str) (st : Stmt) : Prop where
  ex : ∃ (f : Addr) (oc : Value) (od : Option Addr) (kV doc pm : Value) (an : Option Addr) (c P : Addr) (ct : Value) (osl : Array (Option Value)),
    K.lookup f = some ⟨oc, od, .func (PySem.W.fnOf x x (defArgs st) (defBody st) (defScope st) .none kV doc pm an (.ref c) ct), osl⟩ ∧ PySem.W.codeIn K (.ref c) x = true ∧ PySem.W.keepIn K (.ref f) = true ∧ mg x = some (.ref f) ∧ TabB base mg c P ∧ (P, lamQ x) ∈ T ∧ ∀ p ∈ T, p.1 = P → p.2 = lamQ x
/-- the context's code object and its table -/
structure TabH (X : Cx) (T : List (Addr × Str)) : Prop where
  ex : ∃ c P, TabB X.base X.mg c P ∧ X.env.code = .ref c ∧ (P, X.env.qual ++ "<lambda>") ∈ T ∧ ∀ p ∈ T, p.1 = P → p.2 = X.env.qual ++ "<lambda>"
theorem df_mkL {P : Program} {w : World} {K : PySem.W.Frag} {mg : Str → Option Value} {base : Heap} {T : List (Addr × Str)} {x : Str} {st : Stmt} {N ps : List Str} {k : Nat} {sp : Sp} (F : LamD K base mg T x st) (S : FnScope N ps (defScope st))
    (hb : ∀ (kV doc pm : Value) (an : Option Addr) (cdv ct : Value) (us : List Value), us.length = ps.length → bindArgs (PySem.W.fnOf x x (defArgs st) (defBody st) (defScope st) .none kV doc pm an cdv ct) ⟨us, []⟩ = pure (ps.zip us))
    (len : ∀ vs H Q E, sp vs H Q E → vs.length = ps.length)
    (hbody : ∀ (f : Addr) (cdv : Value) (A : Around) (outer : List Env) (s : Shared) (H : Hp) (vs : List V) (Q : VK) (E : XK), Room k (A.deeper (envOfC x (defScope st) s.heap.objs.size f cdv)) → TabH (cxOf CX0 P w K mg base N x (defScope st) f cdv A outer s H E).nox T → sp vs H Q E →
      ∃ t, PSs (cxOf CX0 P w K mg base N x (defScope st) f cdv A outer s H E).nox (defBody st) t ∧ t { nx := fun _ H' => Q .non H', rt := Q } (start N vs) H) : Df P w K mg base x (k + 1) ps sp := by
  obtain ⟨f, oc, od, kV, doc, pm, an, c, Pt, ct, osl, lk, hcd, hk, hm, TB, h1, h2⟩ := F.ex
  refine ⟨f, _, fn_of lk hcd S len fun A outer s H vs Q E hr h => ?_, hm, hk, .all (hb kV doc pm an (.ref c) ct)⟩
  obtain ⟨t, g1, g2⟩ := hbody f (.ref c) A outer s H vs Q E hr ⟨c, Pt, TB, rfl, h1, h2⟩ h
  exact ⟨t, g1.nox, g2⟩
/-- _law_got as it stands -/
structure GotD (K : PySem.W.Frag) (mg : Str → Option Value) : Prop where
  ex : ∃ (g : Addr) (fd : FuncData), FunD K "_law_got" "_law_got" (defArgs (top 96)) (defBody (top 96)) (defScope (top 96)) [] [] g fd ∧ mg "_law_got" = some (.ref g)
theorem pe_gotL {X : Cx} {T : List (Addr × Str)} {params : Arguments} {body : Expr} {scope : Scope} {lpos p pos : Pos} {t : XK → TE} (G : GotD X.K X.mg) (Kn : KindK X.K X.mg) (KF : KindF X.prog X.w X.K X.mg X.base) (B : TabH X T) (hr : Room 13 X.A) (hg : Gl X "_law_got") (L : LamS X.env.scope scope) (hdef : defaultsOf params X.env = ([], []))
    (hbind : ∀ (q : Str) (cl : List (Str × Addr)) (pm cv ctv : Value), bindArgs (PySem.W.kla_fn "<lambda>" q params body scope cl pm cv ctv) ⟨[], []⟩ = pure [])
    (hbody : ∀ (A : Around) (outer : List Env) (s : Shared) (H : Hp) (E : XK) (f c' : Addr), Room 11 (A.deeper (lamEnv X scope s.heap.objs.size f c')) → L2.Takes (lamCx X A outer s H E scope f c') (WXof E) → PE (lamCx X A outer s H E scope f c') body (t E)) :
    PE X (.Call (.Name "_law_got" p) [.Lambda params body scope lpos] [] pos) (tLam T (TTgot X.mg) t) := by
  obtain ⟨g, fd, F, hm⟩ := G.ex
  obtain ⟨c, P, TB, hc, h1, h2⟩ := B.ex
  obtain ⟨oc, od, dV, kV, doc, pm, an, cdv, ct, osl, e, lk, hcd, hD, _⟩ := F.ex
  have hb : L2.Binds X.K fd ["_law_call"] [] := F.bindsN fun _ _ _ _ _ _ us hl => match us, hl with | [_], _ => rfl
  subst e
  exact pe_lamcall hg hm F.kp lk hcd hb sc_law_got rfl (Or.inl rfl) (got_gives Kn KF (hr.mono (by decide))) TB hc h1 h2 hr L hdef hbind fun A outer s H E f c' hr2 => hbody A outer s H E f c' hr2 (L2.takes_of rfl rfl rfl rfl)
theorem pe_gotM {X : Cx} {T : List (Addr × Str)} {params : Arguments} {body : Expr} {scope : Scope} {lpos p pos : Pos} {t : XK → TE} (mg' : Str → Option Value) (hmg : X.mg = mg') (G : GotD X.K X.mg) (Kn : KindK X.K X.mg) (KF : KindF X.prog X.w X.K X.mg X.base) (B : TabH X T) (hr : Room 13 X.A) (hg : Gl X "_law_got") (L : LamS X.env.scope scope) (hdef : defaultsOf params X.env = ([], []))
    (hbind : ∀ (q : Str) (cl : List (Str × Addr)) (pm cv ctv : Value), bindArgs (PySem.W.kla_fn "<lambda>" q params body scope cl pm cv ctv) ⟨[], []⟩ = pure [])
    (hbody : ∀ (A : Around) (outer : List Env) (s : Shared) (H : Hp) (E : XK) (f c' : Addr), Room 11 (A.deeper (lamEnv X scope s.heap.objs.size f c')) → L2.Takes (lamCx X A outer s H E scope f c') (WXof E) → PE (lamCx X A outer s H E scope f c') body (t E)) :
    PE X (.Call (.Name "_law_got" p) [.Lambda params body scope lpos] [] pos) (tLam T (TTgot mg') t) := by
  subst hmg
  exact pe_gotL G Kn KF B hr hg L hdef hbind hbody
section
variable {P : Program} {w : World} {K : PySem.W.Frag} {mg : Str → Option Value} {base : Heap} {C pP dS : Addr}
theorem ans_err {sz : List Nat} {dr : List Int} {q : Qn} {x : Str} (h : ansM sz dr q = .error x) : x ∈ errs := by
  cases q <;> simp only [ansM] at h
  all_goals first
    | cases h
    | (split at h <;> cases h; simp [errs])
theorem say_err {b : List St2} {sz : List Nat} {dr : List Int} {rw : Rw} {x : Str} (h : sayR b sz dr rw = .error x) : x ∈ errs := by
  cases rw with
  | setS s => cases h
  | act ac => cases h
  | run => cases h
  | opn p =>
    simp only [sayR] at h
    split at h <;> cases h
    simp [errs]
  | back =>
    simp only [sayR] at h
    split at h <;> cases h
    simp [errs]
  | ask q =>
    simp only [sayR] at h
    cases ha : ansM sz dr q with
    | ok z => rw [ha] at h; cases h
    | error y =>
      rw [ha] at h
      have e : y = x := by
        simpa [Except.map] using h
      rw [← e]
      exact ans_err ha
/-- what is told of a row, and the desk behind it -/
def gotR (b : List St2) (sz : List Nat) (dr : List Int) (rw : Rw) : Str × List St2 := match sayR b sz dr rw with
  | .ok p => p
  | .error x => (kindT x, b ++ [(sz, dr)])
theorem kind_mg (Kn : KindK K mg) {x : Str} {c : Value} (hx : x ∈ errs) (hm : mg x = some c) : c = .ref (cAd mg x) := by
  have hk : x ∈ kinds := by
    have : ∀ y ∈ errs, y ∈ kinds := by decide +kernel
    exact this x hx
  rw [Kn.g x hk] at hm
  exact (Option.some.inj hm).symm
/-- _law_got(lambda: desk.say(row)) -/
theorem ev_got {T : List (Addr × Str)} {σ : L2.St} {H : Hp} {i : Nat} {te : TE} {a l : Addr} {b : List St2} {sz : List Nat} {dr : List Int} {rw : Rw} {Q : VK} (Kn : KindK K mg) (hT : Tabs T H) (hd : DeskAt K C H a l (b ++ [(sz, dr)])) (g : StG (b ++ [(sz, dr)])) (ok : RwOk sz dr rw) (hi : σ[i]? = some (some (.ref a)))
    (he : ∀ H1, EvD K te σ H1 (.str (rowT rw))) (k : ∀ H', Kt l H H' → Tabs T H' → DeskAt K C H' a l (gotR b sz dr rw).2 → Q (.str (gotR b sz dr rw).1) H') :
    tLam T (TTgot mg) (fun E => tMeth C "say" (sp_say K mg C) [] E (tVar i) (tCons te tNil)) σ H Q := ⟨hT, fun H1 eN T1 => by
  have hd1 := hd.extN eN
  obtain ⟨xs, hx⟩ := hd1.lst
  refine m_call hd1 (by decide) (eda_cons (he H1) eda_nil) (fun vs H2 e2 dvs hd2 => ?_) hi
  obtain ⟨v, rfl, dv⟩ := dpa1 dvs
  rw [dp_str dv]
  refine ⟨a, l, b, sz, dr, rw, rfl, hd2, g, ok, ?_⟩
  have key : gotR b sz dr rw = match sayR b sz dr rw with | .ok p => p | .error x => (kindT x, b ++ [(sz, dr)]) := rfl
  cases hs : sayR b sz dr rw with
  | ok p =>
    rw [hs] at key
    rw [key] at k
    obtain ⟨z, st⟩ := p
    exact fun H3 kp hd3 => k H3 ((Kt.extN eN).trans ((Kt.ex e2).trans (Kt.keep kp))) (tabs_keep (T1.ext e2) (e2 _ _ hx) kp) hd3
  | error x =>
    rw [hs] at key
    rw [key] at k
    exact fun c d H3 hm e3 ok3 => ⟨x, say_err hs, kind_mg Kn (say_err hs) hm, ok3, fun H4 e4 => k H4 ((Kt.extN eN).trans ((Kt.ex e2).trans (Kt.ex (e3.trans e4)))) (T1.ext (fun b o hb => e4 b o (e3 b o (e2 b o hb)))) ((hd2.ex e3).ex e4)⟩⟩
/-- desk.say(row), told -/
theorem ev_say {T : List (Addr × Str)} {σ : L2.St} {H : Hp} {i : Nat} {te : TE} {a l : Addr} {b : List St2} {sz : List Nat} {dr : List Int} {rw : Rw} {z : Str} {st : List St2} {Q : VK} (hT : Tabs T H) (hd : DeskAt K C H a l (b ++ [(sz, dr)])) (g : StG (b ++ [(sz, dr)])) (ok : RwOk sz dr rw) (hi : σ[i]? = some (some (.ref a)))
    (he : EvD K te σ H (.str (rowT rw))) (hs : sayR b sz dr rw = .ok (z, st)) (k : ∀ H', Keep l H H' → Tabs T H' → DeskAt K C H' a l st → Q (.str z) H') :
    tMeth C "say" (sp_say K mg C) [] E0 (tVar i) (tCons te tNil) σ H Q := by
  obtain ⟨xs, hx⟩ := hd.lst
  refine m_call hd (by decide) (eda_cons he eda_nil) (fun vs H2 e2 dvs hd2 => ?_) hi
  obtain ⟨v, rfl, dv⟩ := dpa1 dvs
  rw [dp_str dv]
  refine ⟨a, l, b, sz, dr, rw, rfl, hd2, g, ok, ?_⟩
  rw [hs]
  exact fun H3 kp hd3 => k H3 ((Keep.of e2).trans kp) (tabs_keep (hT.ext e2) (e2 _ _ hx) kp) hd3
end
end EH

set_option Elab.async false
set_option linter.all false
set_option maxRecDepth 100000
set_option maxHeartbeats 4000000
namespace EH
open PySem PySem.Spec PyProof.Rows L2 Evl LamX
theorem TabH.blk {X : Cx} {T : List (Addr × Str)} {s : Shared} {H : Hp} {scope : Scope} {cl : List (Str × Addr)} {C : Addr} {fp : List Addr} (h : TabH X T) : TabH (X.blk s H scope (compEnvC scope cl C X.env) fp) T := ⟨h.ex⟩
section
variable {P : Program} {w : World} {K : PySem.W.Frag} {mg : Str → Option Value} {base : Heap} {C pP dS : Addr} {T : List (Addr × Str)}
def sp_law_shown (K : PySem.W.Frag) (mg : Str → Option Value) (C : Addr) (T : List (Addr × Str)) : Sp := fun vs H Q _ => ∃ a l b sz dr, vs = [.ref a] ∧ Tabs T H ∧ DeskAt K C H a l (b ++ [(sz, dr)]) ∧ StG (b ++ [(sz, dr)]) ∧
  ∀ v H', Kt l H H' → Tabs T H' → DeskAt K C H' a l (b ++ [(sz, dr)]) → Dp K H' v (.list [.str (dtxt dr), .str (ntxt sz)]) → Q v H'
theorem ln_law_shown : ∀ vs H Q E, sp_law_shown K mg C T vs H Q E → vs.length = 1 := fun vs H Q E ⟨_, _, _, _, _, e, _⟩ => by rw [e]; rfl
theorem sc_law_shown : FnScope ["_law_desk"] ["_law_desk"] (defScope (top 100)) := ⟨rfl, rfl, rfl, by decide +kernel, rfl, by decide +kernel, by decide +kernel⟩
theorem df_law_shown (TX : Txt K mg) (Kn : KindK K mg) (Y : DeskK w K mg C pP dS) (F : LamD K base mg T "_law_shown" (top 100))  (M_say : Mt P w K mg base (L2.CX P w) C "say" 11 ["self", "row"] (sp_say K mg C)) (G : GotD K mg) (KF : KindF P w K mg base) : Df P w K mg base "_law_shown" 14 ["_law_desk"] (sp_law_shown K mg C T) := by
  have nd := sc_law_shown.nd
  refine df_mkL (k := 13) F sc_law_shown (fun _ _ _ _ _ _ us hl => match us, hl with | [_], _ => rfl) (ln_law_shown) (fun f cdv A outer s H vs Q E hr hB h => ?_)
  refine ⟨_, (pss_one (ps_ret (pe_lst (pa_cons (pe_gotL (t := fun E => tMeth C "say" (sp_say K mg C) [] E (tVar 0) (tCons (tC (.str "draft")) tNil)) G Kn KF hB (hr.mono (by decide)) rfl (lamS_by (by rfl)) rfl (fun _ _ _ _ _ => rfl) (fun A outer s H E f c' hr2 tk2 => pe_mt Y.cls M_say hr2 (L2.passes_call tk2 (fun _ _ _ _ h => h)) (pv 0) (pa_cons pe_str pa_nil))) (pa_cons (pe_mt Y.cls M_say (hr.mono (by decide)) passN (pv 0) (pa_cons pe_str pa_nil)) pa_nil))))), ?_⟩
  obtain ⟨a, l, b, sz, dr, rfl, hT, hd, g, k⟩ := h
  refine ev_got (b := b) (sz := sz) (dr := dr) (rw := .ask .draft) Kn hT hd g True.intro rfl (fun H1 => ed_str (K := K)) fun H1 k1 T1 hd1 => ?_
  refine ev_say (b := b) (sz := sz) (dr := dr) (rw := .ask .sizes) T1 hd1 g True.intro rfl (ed_str (K := K)) rfl fun H2 k2 T2 hd2 => ?_
  refine ⟨sz_of (by simp), fun p hp => ?_⟩
  exact k _ _ (k1.trans ((Kt.keep k2).trans (Kt.ex (Ex.new hp)))) (T2.ext (fun c o hc => Ex.new hp c o hc)) (hd2.ex (Ex.new hp)) (.lst upd_same (.cons (.str _) (.cons (.str _) .nil)))
end
end EH

set_option Elab.async false
set_option linter.all false
set_option maxRecDepth 100000
set_option maxHeartbeats 4000000
namespace EH
open PySem PySem.Spec PyProof.Rows L2 Evl LamX
/-! ### rows as the law writes them -/
theorem row_more : ∀ n, n ≤ 9 → ("more " : Str) ++ fig n = rowT (.act (.more n)) := by
  have h : ∀ n ∈ List.range 10, ("more " : Str) ++ fig n = rowT (.act (.more n)) := by decide +kernel
  exact fun n hn => h n (List.mem_range.mpr (by omega))
theorem row_open : ∀ n, n ≤ 9 → ("open " : Str) ++ fig n = rowT (.opn n) := by
  have h : ∀ n ∈ List.range 10, ("open " : Str) ++ fig n = rowT (.opn n) := by decide +kernel
  exact fun n hn => h n (List.mem_range.mpr (by omega))
theorem row_clear : ∀ n, n ≤ 9 → ("clear " : Str) ++ fig n = rowT (.act (.clear n)) := by
  have h : ∀ n ∈ List.range 10, ("clear " : Str) ++ fig n = rowT (.act (.clear n)) := by decide +kernel
  exact fun n hn => h n (List.mem_range.mpr (by omega))
theorem row_put0 : ∀ n, n ≤ 9 → (("put " : Str) ++ fig n) ++ (" 0" : Str) = rowT (.act (.put n 0)) := by
  have h : ∀ n ∈ List.range 10, (("put " : Str) ++ fig n) ++ (" 0" : Str) = rowT (.act (.put n 0)) := by decide +kernel
  exact fun n hn => h n (List.mem_range.mpr (by omega))
theorem row_put : ∀ p h, p ≤ 9 → h ≤ 9 → ((("put " : Str) ++ fig p) ++ (" " : Str)) ++ fig h = rowT (.act (.put p h)) := by
  have h : ∀ p ∈ List.range 10, ∀ h ∈ List.range 10, ((("put " : Str) ++ fig p) ++ (" " : Str)) ++ fig h = rowT (.act (.put p h)) := by decide +kernel
  exact fun p x hp hx => h p (List.mem_range.mpr (by omega)) x (List.mem_range.mpr (by omega))
theorem row_one : (("more 1" : Str)) = rowT (.act (.more 1)) := by decide +kernel
abbrev rAddS : R2 := fun x u H Q => ∃ i j, x = .str i ∧ u = .str j ∧ i.length + j.length ≤ sizeLine ∧ Q (.str (i ++ j)) H
section
variable {K : PySem.W.Frag} {σ : L2.St} {H : Hp} {i j : Nat}
theorem ed_cat2 {ta tb : TE} {a b z : Str} (ha : EvD K ta σ H (.str a)) (hb : EvD K tb σ H (.str b)) (h1 : a.length ≤ 1000) (h2 : b.length ≤ 1000) (e : a ++ b = z) : EvD K (tOp rAddS ta tb) σ H (.str z) := by
  rw [← e]
  exact ed_op ha hb (rv_addS (by omega))
theorem ed_fig {te : TE} {n : Nat} (h : EvD K te σ H (.int (n : Int))) (hn : n ≤ 9) : EvD K (tCB rStrI (tCons te tNil)) σ H (.str (fig n)) := (ed_strI h (by omega)).eq (congrArg PyData.str (fig_str n hn))
theorem fig_len (n : Nat) : (fig n).length = 1 := rfl
theorem ed_rowPut {ta tb : TE} {p h : Nat} (ha : EvD K ta σ H (.int (p : Int))) (hb : EvD K tb σ H (.str (fig h))) (h1 : p ≤ 9) (h2 : h ≤ 9) : EvD K (tOp rAddS (tOp rAddS (tOp rAddS (tC (.str "put ")) (tCB rStrI (tCons ta tNil))) (tC (.str " "))) tb) σ H (.str (rowT (.act (.put p h)))) := by
  have l1 : (("put " : Str)).length = 4 := by decide +kernel
  have l2 : ((" " : Str)).length = 1 := by decide +kernel
  refine ed_cat2 (ed_cat2 (ed_cat2 ed_str (ed_fig ha h1) (by omega) (by rw [fig_len]; omega) rfl) ed_str ?_ (by omega) rfl) hb ?_ (by rw [fig_len]; omega) (row_put p h h1 h2)
  · rw [str_app_len, fig_len]; omega
  · rw [str_app_len, str_app_len, fig_len]; omega
end
/-! ### lists of states -/
theorem StG.snoc {st : List St2} {sz : List Nat} {d : List Int} (g : StG st) (h1 : st.length ≤ 499) (h2 : sz ∈ menus) (h3 : DrOk sz d) (h4 : d.length ≤ 10) : StG (st ++ [(sz, d)]) := ⟨by rw [List.length_append]; show st.length + 1 ≤ 500; omega, fun p hp => by
  rcases List.mem_append.mp hp with z | z
  · exact g.all p z
  · rw [List.mem_singleton.mp z]; exact ⟨h2, h3, h4⟩⟩
theorem stG0 : StG st0 := ⟨by decide, fun p hp => by
  rw [List.mem_singleton.mp (show p ∈ [(([3, 3], []) : St2)] from hp)]
  exact ⟨by decide, ⟨by decide, fun h hh => by cases hh⟩, by decide⟩⟩
theorem dr_take {sz : List Nat} {d : List Int} (od : DrOk sz d) (i : Nat) : DrOk sz (d.take i) := ⟨by rw [List.length_take]; have := od.len; omega, fun h hh => od.all h (List.mem_of_mem_take hh)⟩
theorem dr_snoc {sz : List Nat} {d : List Int} (od : DrOk sz d) (hl : d.length ≤ 39) {x : Int} (hx : -1 ≤ x ∧ x < (sz.length : Int)) : DrOk sz (d ++ [x]) := ⟨by rw [List.length_append]; show d.length + 1 ≤ 40; omega, fun h hh => by
  rcases List.mem_append.mp hh with z | z
  · exact od.all h z
  · rw [List.mem_singleton.mp z]; exact hx⟩
theorem set_last {d : List Int} {x y : Int} : (d ++ [x]).set d.length y = d ++ [y] := by
  simp [List.set_append]
theorem getD_last {d : List Int} {x : Int} : (d ++ [x]).getD d.length 0 = x := by
  rw [List.getD_eq_getElem?_getD, List.getElem?_append_right (by omega), Nat.sub_self]
  rfl
theorem q_asgQ {te : TE} {D : Ends} {tz : TS} {σ : L2.St} {H : Hp} {i : Nat} (h : te σ H fun v H1 => tz D (σ.set i (some v)) H1) : tSeq (tAsg te (gName i)) tz D σ H := h
theorem s_asgQ {te : TE} {D : Ends} {σ : L2.St} {H : Hp} {i : Nat} (h : te σ H fun v H1 => D.nx (σ.set i (some v)) H1) : tAsg te (gName i) D σ H := h
theorem q_dropQ {te : TE} {D : Ends} {tz : TS} {σ : L2.St} {H : Hp} (h : te σ H fun _ H1 => tz D σ H1) : tSeq (tDrop te) tz D σ H := h
theorem s_dropQ {te : TE} {D : Ends} {σ : L2.St} {H : Hp} (h : te σ H fun _ H1 => D.nx σ H1) : tDrop te D σ H := h
theorem q_retQ {te : TE} {D : Ends} {σ : L2.St} {H : Hp} (h : te σ H D.rt) : tRet te D σ H := h
/-- o.say(e): what e leaves -/
theorem meth_at {K : PySem.W.Frag} {C : Addr} {sp : Sp} {E : XK} {te : TE} {σ : L2.St} {H : Hp} {i : Nat} {m : Str} {a l : Addr} {st : List St2} {Q : VK} (hd : DeskAt K C H a l st) (hi : σ[i]? = some (some (.ref a))) (hm : (m == ("kept" : Str)) = false) (h : te σ H fun v H1 => sp [.ref a, v] H1 Q E) : tMeth C m sp [] E (tVar i) (tCons te tNil) σ H Q := by
  obtain ⟨dx, hx⟩ := hd.ins
  refine ⟨_, hi, a, dx, _, rfl, hx, ?_, h⟩
  show (match m == ("kept" : Str) with | true => some (V.ref l) | false => none) = none
  rw [hm]
theorem op_right {r : R2} {v : V} {tb : TE} {σ : L2.St} {H : Hp} {Q : VK} (h : tb σ H fun y H2 => r v y H2 Q) : tOp r (tC v) tb σ H Q := h
theorem for_callS {K : PySem.W.Frag} {sp : Sp} {E : XK} {te : TE} {g : TG} {tu tz : TS} {D : Ends} {σ : L2.St} {H : Hp} (h : te σ H fun v H1 => sp [v] H1 (fun u H2 => ∃ a xs, [u] = [V.ref a] ∧ SqT K H2 a xs ∧ ForW (IteT K a) g tu { D with nx := tz D } σ H2) E) :
    tSeq (tFor (iEnumT K (tCons (tCall sp [] E (tCons te tNil)) tNil)) g tu) tz D σ H := h
/-- it begins as every desk does -/
def Bot (st : List St2) : Prop := ∃ r, st = st0 ++ r
theorem Bot.app {st r : List St2} (h : Bot st) : Bot (st ++ r) := by
  obtain ⟨s, rfl⟩ := h
  exact ⟨s ++ r, by rw [List.append_assoc]⟩
theorem Kt.fresh {l l2 : Addr} {H H1 H2 : Hp} (k : Kt l H H1) (n : H l2 = none) (k2 : Kt l2 H1 H2) : Kt l H H2 := fun b o hb ho h => k2 b o (fun z => by rw [z, n] at h; cases h) ho (k b o hb ho h)
section
variable {P : Program} {w : World} {K : PySem.W.Frag} {mg : Str → Option Value} {base : Heap} {C pP dS : Addr} {T : List (Addr × Str)}
def sp_law_another (K : PySem.W.Frag) (C : Addr) (T : List (Addr × Str)) : Sp := fun vs H Q _ => ∃ a l b sz dr, vs = [.ref a] ∧ Tabs T H ∧ DeskAt K C H a l (b ++ [(sz, dr)]) ∧ StG (b ++ [(sz, dr)]) ∧ dr.length ≤ 9 ∧
  ∀ a2 l2 b2 H', Kt l H H' → Tabs T H' → DeskAt K C H' a l (b ++ [(sz, dr)]) → DeskAt K C H' a2 l2 (b2 ++ [(sz, dr)]) → StG (b2 ++ [(sz, dr)]) → b2.length ≤ 40 → Bot b2 → H l2 = none → H a2 = none → Q (.ref a2) H'
theorem ln_law_another : ∀ vs H Q E, sp_law_another K C T vs H Q E → vs.length = 1 := fun vs H Q E ⟨_, _, _, _, _, e, _⟩ => by rw [e]; rfl
theorem sc_law_another : FnScope ["_law_desk", "_law_other", "_law_place", "_law_hue"] ["_law_desk"] (defScope (top 104)) := ⟨rfl, rfl, rfl, by decide +kernel, rfl, by decide +kernel, by decide +kernel⟩
theorem df_law_another (TX : Txt K mg) (Kn : KindK K mg) (Y : DeskK w K mg C pP dS) (F : FnT K mg "_law_another" (top 104))  (D_draft_read : Df P w K mg base "draft_read" 2 ["text"] (sp_draft_read K)) (M_say : Mt P w K mg base (L2.CX P w) C "say" 11 ["self", "row"] (sp_say K mg C)) (MD : MkD P w K mg base C) : Df P w K mg base "_law_another" 13 ["_law_desk"] (sp_law_another K C T) := by
  have nd := sc_law_another.nd
  refine df_mk (k := 12) F sc_law_another (fun _ _ _ _ _ _ us hl => match us, hl with | [_], _ => rfl) (ln_law_another) (fun f cdv A outer s H vs Q E hr h => ?_)
  refine ⟨_, (pss_cons (ps_set (i := 1) nd rfl (by first | exact Or.inl rfl | exact Or.inr rfl) (pe_desk MD Y.mC (hr.mono (by decide)) rfl))
      (pss_cons (ps_expr (pe_mt Y.cls M_say (hr.mono (by decide)) passN (pv 1) (pa_cons (pe_op op_add_str pe_str (pe_mt Y.cls M_say (hr.mono (by decide)) passN (pv 0) (pa_cons pe_str pa_nil))) pa_nil)))
      (pss_cons (ps_for PassesOwn.never rfl (pi_enumT rfl TX.b_enumerate (pa_cons (pe_d D_draft_read (hr.mono (by decide)) rfl (pa_cons (pe_mt Y.cls M_say (hr.mono (by decide)) passN (pv 0) (pa_cons pe_str pa_nil)) pa_nil)) pa_nil)) (pg_tup rfl (pgs_cons (pg_name (i := 2) nd rfl (by first | exact Or.inl rfl | exact Or.inr rfl)) (pgs_cons (pg_name (i := 3) nd rfl (by first | exact Or.inl rfl | exact Or.inr rfl)) pgs_nil))) (pss_cons (ps_expr (pe_mt Y.cls M_say (hr.mono (by decide)) passN (pv 1) (pa_cons pe_str pa_nil)))
      (pss_one (ps_if (pt_cmpR op_ge (pv 3) pe_int (nomark _)) (pss_one (ps_expr (pe_mt Y.cls M_say (hr.mono (by decide)) passN (pv 1) (pa_cons (pe_op op_add_str (pe_op op_add_str (pe_op op_add_str pe_str (pe_callTy call_str_int rfl TX.b_str (by decide +kernel) (pa_cons (pv 2) pa_nil))) pe_str) (pe_callTy call_str_int rfl TX.b_str (by decide +kernel) (pa_cons (pv 3) pa_nil))) pa_nil)))) pss_nil))))
      (pss_one (ps_ret (pv 1)))))), ?_⟩
  obtain ⟨a, l, b, sz, dr, rfl, hT, hd, g, hl9, k⟩ := h
  obtain ⟨hm, od, hl10⟩ := st_last g
  have ok := menu_ok hm
  have hu := dr_hu ok od
  refine q_asgQ (ev_desk fun a2 l2 H1 e1 na2 nl2 hd2 => ?_)
  obtain ⟨xs0, hx0⟩ := hd.lst
  have hll : l2 ≠ l := fun z => by rw [z, hx0] at nl2; cases nl2
  have hd1 := hd.ex e1
  have T1 := hT.ext e1
  -- other.say('sizes ' + desk.say('sizes'))
  refine q_dropQ (meth_at hd2 rfl (by decide) (op_right (ev_say (b := b) (sz := sz) (dr := dr) (rw := .ask .sizes) T1 hd1 g True.intro rfl (ed_str (K := K)) rfl fun H2 k2 T2 hd1' => ?_)))
  obtain ⟨ys1, hy1⟩ := hd1.lst
  have hd2' := hd2.other hy1 hll k2
  have hn80 := ntxt_len (l := sz) (by have := ok.hi; omega)
  have e6 : (("sizes " : Str)).length = 6 := by decide +kernel
  refine ⟨_, _, rfl, rfl, sz_of (by omega), a2, l2, [], [3, 3], [], .setS sz, rfl, hd2', stG0, hm, fun H3 k3 hd3 => ?_⟩
  obtain ⟨ys2, hy2⟩ := hd2'.lst
  have hdl3 := hd1'.other hy2 hll.symm k3
  have T3 := tabs_keep T2 hy2 k3
  have kt3 : Kt l H H3 := ((Kt.ex e1).trans (Kt.keep k2)).fresh nl2 (Kt.keep k3)
  -- the loop
  refine for_callS (ev_say (b := b) (sz := sz) (dr := dr) (rw := .ask .draft) T3 hdl3 g True.intro rfl (ed_str (K := K)) rfl fun H4 k4 T4 hdl4 => ?_)
  obtain ⟨ys3, hy3⟩ := hdl3.lst
  have hd4 := hd3.other hy3 hll k4
  refine ⟨[.str (dtxt dr)], iT dr, .cons (.str _) .nil, ⟨dr, rfl, hu, rfl⟩, fun v H5 e5 nv => ?_⟩
  obtain ⟨ta, ts, rfl, hts, hta⟩ := dp_tupR (ds := dr.map PyData.int) nv.dp
  have htsl : ts.length = dr.length := by rw [dpa_len hta, List.length_map]
  have hints := dpa_ints hta
  refine ⟨ta, ts, rfl, st_of hts, for_it (walk_enumT (xs := ts)) (fun i σ' H' => ∃ v2 v3 b2, σ' = [some (.ref a), some (.ref a2), v2, v3] ∧ Kt l H H' ∧ Tabs T H' ∧ DeskAt K C H' a l (b ++ [(sz, dr)]) ∧ DeskAt K C H' a2 l2 (b2 ++ [(sz, dr.take i)]) ∧ StG (b2 ++ [(sz, dr.take i)]) ∧ b2.length = 1 + (b2.length - 1) ∧ b2.length ≤ 1 + 2 * i ∧ Bot b2 ∧ H' ta = some (.tup ts)) ?_ (fun i σ' H' _ p => ?_) (fun i x σ' H' H6 hi p y => ?_) (fun σ' H' p => ?_)⟩
  · exact ⟨none, none, st0, rfl, (kt3.trans (Kt.keep k4)).trans (Kt.ex e5), T4.ext e5, hdl4.ex e5, hd4.ex e5, stG0.snoc (by decide) hm ⟨by simp, fun h hh => by cases hh⟩ (by simp), rfl, by decide, ⟨[], rfl⟩, hts⟩
  · obtain ⟨_, _, _, _, _, _, _, _, _, _, _, _, hz⟩ := p
    exact st_of hz
  · obtain ⟨v2, v3, b2, rfl, kt, Tt, hda, hdb, gb, hb1, hb2, bot, hz⟩ := p
    obtain ⟨Tp, x1, x2, rfl, hTp, rfl, q1, q2⟩ := y
    obtain rfl := Option.some.inj q1
    have hi' : i < dr.length := by omega
    have hx2 : x2 = .int (dr.getD i 0) := by
      rw [hints] at q2
      have q2 : (dr.map V.int)[i]? = some x2 := q2
      rw [List.getElem?_map, List.getElem?_eq_getElem hi'] at q2
      rw [List.getD_eq_getElem?_getD, List.getElem?_eq_getElem hi']
      exact (Option.some.inj q2).symm
    subst hx2
    have hTn := Ex.new (o := .tup [.int (i : Int), .int (dr.getD i 0)]) hTp
    refine ⟨Tp, _, rfl, st_of upd_same, rfl, _, _, rfl, _, _, rfl, rfl, ?_⟩
    have hdaT := hda.ex hTn
    have hdbT := hdb.ex hTn
    have hti : (dr.take i).length = i := by rw [List.length_take]; omega
    have hxi := od.all _ (getD_mem (s := dr) (q := i) hi')
    have o1 := dr_take od i
    have o2 := dr_snoc o1 (by omega) (x := -1) ⟨by omega, by omega⟩
    refine q_dropQ (ev_say (b := b2) (sz := sz) (dr := dr.take i) (rw := .act (.more 1)) (Tt.ext hTn) hdbT gb ⟨by omega, by omega, by omega⟩ rfl ((ed_str (K := K)).eq (congrArg PyData.str row_one)) rfl fun H7 k7 T7 hd7 => ?_)
    have hd7 : DeskAt K C H7 a2 l2 ((b2 ++ [(sz, dr.take i)]) ++ [(sz, dr.take i ++ [-1])]) := hd7
    obtain ⟨zs, hzs⟩ := hdbT.lst
    have hda7 := hdaT.other hzs hll.symm k7
    have kt7 : Kt l H H7 := (kt.trans (Kt.ex hTn)).fresh nl2 (Kt.keep k7)
    have hta2 : ta ≠ l2 := fun z => by rw [z] at hz; rw [hTn _ _ hz] at hzs; cases hzs
    have hz7 := k7 _ _ hta2 (hTn _ _ hz)
    have g7 := gb.snoc (by rw [List.length_append]; show b2.length + 1 ≤ 499; omega) hm o2 (by rw [List.length_append]; show (dr.take i).length + 1 ≤ 10; omega)
    have step : dr.take (i + 1) = dr.take i ++ [dr.getD i 0] := take_snoc (by rw [List.getD_eq_getElem?_getD, List.getElem?_eq_getElem hi']; rfl)
    refine s_when (b := decide (0 ≤ dr.getD i 0)) (et_test (K := K) (ed_op (ed_var (.int _)) ed_int rv_ge)) (fun hb H8 e8 => ?_) (fun hb H8 e8 => ?_)
    · have hge := of_decide_eq_true hb
      have hc : dr.getD i 0 = (((dr.getD i 0).toNat : Nat) : Int) := by omega
      have hsl := ok.hi
      refine s_dropQ (ev_say (b := b2 ++ [(sz, dr.take i)]) (sz := sz) (dr := dr.take i ++ [-1]) (rw := .act (.put i (dr.getD i 0).toNat)) (T7.ext e8) (hd7.ex e8) g7 ⟨by rw [List.length_append]; show i < (dr.take i).length + 1; omega, ?_, by omega⟩ rfl (ed_rowPut (ed_var (.int _)) (ed_fig (ed_var (by rw [← hc]; exact .int _)) (by omega)) (by omega) (by omega)) rfl fun H9 k9 T9 hd9 => ?_)
      · have h := getD_last (d := dr.take i) (x := -1)
        rw [hti] at h
        exact h
      · obtain ⟨us, hus⟩ := (hd7.ex e8).lst
        have hset : (dr.take i ++ [(-1 : Int)]).set i (((dr.getD i 0).toNat : Nat) : Int) = dr.take (i + 1) := by
          have h := set_last (d := dr.take i) (x := -1) (y := (((dr.getD i 0).toNat : Nat) : Int))
          rw [hti] at h
          rw [h, step, ← hc]
        have hd9 : DeskAt K C H9 a2 l2 ((b2 ++ [(sz, dr.take i)] ++ [(sz, dr.take i ++ [-1])]) ++ [(sz, (dr.take i ++ [(-1 : Int)]).set i (((dr.getD i 0).toNat : Nat) : Int))]) := hd9
        rw [hset] at hd9
        refine ⟨_, _, b2 ++ [(sz, dr.take i)] ++ [(sz, dr.take i ++ [-1])], rfl, (kt7.trans (Kt.ex e8)).fresh nl2 (Kt.keep k9), T9, (hda7.ex e8).other hus hll.symm k9, hd9, g7.snoc ?_ hm (dr_take od _) ?_, ?_, ?_, bot.app.app, k9 _ _ hta2 (e8 _ _ hz7)⟩
        · simp only [List.length_append, List.length_cons, List.length_nil]; omega
        · rw [List.length_take]; omega
        · simp only [List.length_append, List.length_cons, List.length_nil]; omega
        · simp only [List.length_append, List.length_cons, List.length_nil]; omega
    · have hlt := of_decide_eq_false hb
      have hm1 : dr.getD i 0 = -1 := by omega
      rw [hm1] at step
      rw [← step] at hd7 g7
      refine ⟨_, _, b2 ++ [(sz, dr.take i)], rfl, kt7.trans (Kt.ex e8), T7.ext e8, hda7.ex e8, hd7.ex e8, g7, ?_, ?_, bot.app, e8 _ _ hz7⟩
      · simp only [List.length_append, List.length_cons, List.length_nil]; omega
      · simp only [List.length_append, List.length_cons, List.length_nil]; omega
  · obtain ⟨v2, v3, b2, rfl, kt, Tt, hda, hdb, gb, hb1, hb2, bot, hz⟩ := p
    rw [htsl, List.take_length] at hdb gb
    exact ⟨_, rfl, k a2 l2 b2 H' kt Tt hda hdb gb (by omega) bot nl2 na2⟩
end
end EH

set_option Elab.async false
set_option linter.all false
set_option maxRecDepth 100000
set_option maxHeartbeats 4000000
namespace EH
open PySem
/-! The law's plain part. -/
theorem row_lt {L S : Nat} {r : Nat × Nat} (h : r ∈ lying L S) : r.1 + (S - 1) * r.2 ≤ L - 1 ∧ r.1 < L ∧ 1 ≤ r.2 ∧ r.2 ≤ (L - 1 - r.1) / (S - 1) := by
  unfold lying at h
  obtain ⟨f, hf, h⟩ := List.mem_flatMap.mp h
  obtain ⟨j, hj, rfl⟩ := List.mem_map.mp h
  have hf := List.mem_range.mp hf
  have hj := List.mem_range.mp hj
  refine ⟨?_, hf, by show 1 ≤ j + 1; omega, hj⟩
  show f + (S - 1) * (j + 1) ≤ L - 1
  have h1 : (S - 1) * (j + 1) ≤ (S - 1) * ((L - 1 - f) / (S - 1)) := Nat.mul_le_mul_left _ hj
  have h2 : (S - 1) * ((L - 1 - f) / (S - 1)) ≤ L - 1 - f := Nat.mul_div_le _ _
  omega
theorem row_thr {L S k : Nat} {r : Nat × Nat} (h : r ∈ lying L S) (hk : k < S) : r ∈ thr L S (r.1 + k * r.2) := by
  obtain ⟨h1, h2, h3, h4⟩ := row_lt h
  unfold thr
  refine List.mem_flatMap.mpr ⟨r.2 - 1, List.mem_range.mpr ?_, List.mem_map.mpr ⟨k, List.mem_filter.mpr ⟨List.mem_range.mpr hk, ?_⟩, ?_⟩⟩
  · have : (L - 1 - r.1) / (S - 1) ≤ (L - 1) / (S - 1) := Nat.div_le_div_right (by omega)
    omega
  · have e : r.2 - 1 + 1 = r.2 := by omega
    rw [e]
    simp only [Bool.and_eq_true, decide_eq_true_eq]
    omega
  · have e : r.2 - 1 + 1 = r.2 := by omega
    rw [e]
    show (r.1 + k * r.2 - k * r.2, r.2) = r
    rw [Nat.add_sub_cancel]
theorem hue_iff {s : List Int} {r : Nat × Nat} {n : Nat} {h : Int} : hasHue s r n h = true ↔ ∀ k, k < n → s.getD (r.1 + k * r.2) 0 = h := by
  unfold hasHue rowPl
  rw [List.all_map, List.all_eq_true]
  constructor
  · intro a k hk
    have := a k (List.mem_range.mpr hk)
    simpa using this
  · intro a k hk
    have := a k (List.mem_range.mp hk)
    simpa using this
theorem wrong_iff {sz : List Nat} {s : List Int} : wrong sz s = true ↔ ∃ j, j < sz.length ∧ ∃ r ∈ lying s.length (sz.getD j 0), hasHue s r (sz.getD j 0) (j : Int) = true := by
  unfold wrong
  rw [Bool.not_eq_true', List.isEmpty_eq_false_iff_exists_mem]
  unfold wrongs
  constructor
  · rintro ⟨r, hr⟩
    obtain ⟨j, hj, hr⟩ := List.mem_flatMap.mp hr
    obtain ⟨h1, h2⟩ := List.mem_filter.mp hr
    exact ⟨j, List.mem_range.mp hj, r, h1, h2⟩
  · rintro ⟨j, hj, r, h1, h2⟩
    exact ⟨r, List.mem_flatMap.mpr ⟨j, List.mem_range.mpr hj, List.mem_filter.mpr ⟨h1, h2⟩⟩⟩
/-- an open hue put in leaves no wrong row -/
theorem wrong_set {sz : List Nat} {s : List Int} {p h : Nat} (ok : SzOk sz) (hp : p < s.length) (hw : wrong sz s = false) (ho : h ∈ openM sz s p) : wrong sz (s.set p (h : Int)) = false := by
  refine Bool.eq_false_iff.mpr fun z => ?_
  obtain ⟨j, hj, r, hr, hh⟩ := wrong_iff.mp z
  rw [List.length_set] at hr
  have hall := hue_iff.mp hh
  by_cases hth : ∃ k, k < sz.getD j 0 ∧ r.1 + k * r.2 = p
  · obtain ⟨k, hk, e⟩ := hth
    have hv := hall k hk
    rw [e, set_same hp] at hv
    have ejh : h = j := by omega
    subst ejh
    have hb : barsM sz s p h = [] := by
      have := (List.mem_filter.mp ho).2
      exact List.isEmpty_iff.mp this
    have hin : r ∈ barsM sz s p h := by
      refine List.mem_filter.mpr ⟨?_, hh⟩
      rw [← e]
      exact row_thr hr hk
    rw [hb] at hin
    cases hin
  · have hw2 : wrong sz s = true := wrong_iff.mpr ⟨j, hj, r, hr, hue_iff.mpr fun k hk => by
      have hv := hall k hk
      rw [set_get (fun e => hth ⟨k, hk, e⟩)] at hv
      exact hv⟩
    rw [hw] at hw2
    cases hw2
theorem fill_clean {sz : List Nat} {dr : List Int} (ok : SzOk sz) (hw : wrong sz dr = false) : ∀ (l : List Nat), (∀ p ∈ l, p < dr.length) → ∀ s ∈ fillUp sz dr l, wrong sz s = false := by
  have key : ∀ (l : List Nat) (f : List (List Int)), (∀ p ∈ l, p < dr.length) → (∀ s ∈ f, s.length = dr.length ∧ wrong sz s = false) → ∀ s ∈ l.foldl (fun f p => fillStep sz p f) f, wrong sz s = false := by
    intro l
    induction l with
    | nil => exact fun f _ h s hs => (h s hs).2
    | cons p r ih =>
      intro f hl h
      refine ih _ (fun q hq => hl q (List.mem_cons_of_mem _ hq)) fun s hs => ?_
      obtain ⟨t, ht, hs⟩ := List.mem_flatMap.mp hs
      obtain ⟨x, hx, rfl⟩ := List.mem_map.mp hs
      obtain ⟨h1, h2⟩ := h t ht
      exact ⟨by rw [List.length_set]; exact h1, wrong_set ok (by rw [h1]; exact hl p List.mem_cons_self) h2 hx⟩
  exact fun l hl s hs => key l [dr] hl (fun s hs => by rw [List.mem_singleton.mp hs]; exact ⟨rfl, hw⟩) s hs
theorem full_blanks {a : List Int} (h : ∀ x ∈ a, 0 ≤ x) : blanksM a = [] := by
  unfold blanksM
  refine List.filter_eq_nil_iff.mpr fun p hp => ?_
  have := h _ (getD_mem (s := a) (q := p) (List.mem_range.mp hp))
  intro z
  have z := of_decide_eq_true z
  rw [z] at this
  omega
/-- a filling is its own only filling, and clean -/
theorem fill_own {sz : List Nat} {dr a : List Int} (ok : SzOk sz) (od : DrOk sz dr) (h : a ∈ fillM sz dr) : wrong sz a = false ∧ waysM sz a = 1 ∧ fillM sz a = [a] := by
  obtain ⟨hw, hu⟩ := fill_mem h
  have hc := fill_clean ok hw (blanksM dr) (fun p hp => (bl_mem hp).1) a hu
  have hb := full_blanks fun x hx => ((fill_full od h).2 x hx).1
  refine ⟨hc, ?_, ?_⟩
  · unfold waysM
    rw [hb]
    rfl
  · unfold fillM
    rw [hc, hb]
    rfl
theorem fill_same {sz : List Nat} {dr a : List Int} (h : a ∈ fillM sz dr) {q : Nat} (hq : q < dr.length) (hd : dr.getD q 0 ≠ -1) : a.getD q 0 = dr.getD q 0 := by
  obtain ⟨_, hu⟩ := fill_mem h
  exact ((fill_spec sz dr _ a hu).2 q).1 fun z => hd (bl_mem z).2
/-- the run comes to rest -/
theorem run_rest (sz : List Nat) : ∀ (n : Nat) (d : List Int), (blanksM d).length < n → (narrowM sz (runF sz n d).1 = none ∧ (runF sz n d).2 = none) ∨ ∃ p, narrowM sz (runF sz n d).1 = some (p, []) ∧ (runF sz n d).2 = some p
  | 0, d, h => by omega
  | n + 1, d, h => by
    unfold runF
    cases hn : narrowM sz d with
    | none => exact .inl ⟨hn, rfl⟩
    | some q =>
      obtain ⟨p, l⟩ := q
      cases l with
      | nil => exact .inr ⟨p, hn, rfl⟩
      | cons x r =>
        have hb := bl_set (h := x) (nar_mem hn).1
        exact run_rest sz n (d.set p (x : Int)) (by omega)
theorem run_again (sz : List Nat) (d : List Int) : runM sz (runM sz d).1 = runM sz d := by
  rcases run_rest sz ((blanksM d).length + 1) d (by omega) with ⟨h1, h2⟩ | ⟨p, h1, h2⟩
  · have e : runM sz d = ((runM sz d).1, none) := by
      rw [← show (runM sz d).2 = none from h2]
    rw [e]
    show runF sz ((blanksM (runM sz d).1).length + 1) (runM sz d).1 = _
    unfold runF
    rw [show narrowM sz (runM sz d).1 = none from h1]
  · have e : runM sz d = ((runM sz d).1, some p) := by
      rw [← show (runM sz d).2 = some p from h2]
    rw [e]
    show runF sz ((blanksM (runM sz d).1).length + 1) (runM sz d).1 = _
    unfold runF
    rw [show narrowM sz (runM sz d).1 = some (p, []) from h1]
theorem put_clear {d : List Int} {p : Nat} {x : Int} (h : d.getD p 0 = -1) (hp : p < d.length) : (d.set p x).set p (-1) = d := by
  rw [List.set_set]
  refine List.ext_getElem? fun q => ?_
  by_cases hq : q = p
  · subst hq
    rw [List.getElem?_set_self hp, List.getElem?_eq_getElem hp]
    rw [List.getD_eq_getElem?_getD, List.getElem?_eq_getElem hp] at h
    exact congrArg some h.symm
  · rw [List.getElem?_set_ne (Ne.symm hq)]
end EH

set_option Elab.async false
set_option linter.all false
set_option maxRecDepth 100000
set_option maxHeartbeats 4000000
namespace EH
open PySem PySem.Spec PyProof.Rows L2 Evl LamX
/-! ### a comprehension of what a desk says -/
abbrev LcW (J : It) (g : TG) (tt : TT) (te : TE) (vs : List Nat) (σ : L2.St) (H1 : Hp) (Q : VK) : Prop := ∀ D, H1 D = none → ∃ W : Nat → Nat → Hp → Prop, (∃ m, W 0 m (upd H1 D (.lst []))) ∧ ∀ i m H, W i m H →
  (J.stop i H ∧ Q (.ref D) H) ∨ (J.go i H ∧ ∃ Nx : Hp → Prop, (∀ H', Nx H' → ∃ m', m' < m ∧ W (i + 1) m' H') ∧ ∀ x H', J.yld i H x H' → g x (wipe σ vs) H' fun σ2 H2 => wipe σ2 vs = wipe σ vs ∧ tt σ2 H2 fun b H3 =>
    if b = true then te σ2 H3 fun y H4 => ∃ acc, H4 D = some (.lst acc) ∧ acc.length < sizeLine ∧ Nx (upd H4 D (.lst (acc ++ [y]))) else Nx H3)
section
variable {K : PySem.W.Frag} {mg : Str → Option Value} {C : Addr} {T : List (Addr × Str)}
theorem lcJ {J : It} {n : Nat} {G : Hp → Prop} {xs : List V} (wk : Walk J n G (YAt xs)) {te : TE} {vs : List Nat} {σ : L2.St} {H1 : Hp} {Q : VK} {j a l : Addr} {st : List St2} (f : Nat → Str) (hn : n ≤ 1000) (hw : ∀ x, wipe ((wipe σ vs).set j (some x)) vs = wipe σ vs)
    (hT : Tabs T H1) (hd : DeskAt K C H1 a l st) (hG : ∀ H', Kt l H1 H' → G H')
    (hb : ∀ (i : Nat) x H', xs[i]? = some x → i < n → Kt l H1 H' → Tabs T H' → DeskAt K C H' a l st → ∀ Q' : VK, (∀ H'', Kt l H' H'' → Tabs T H'' → DeskAt K C H'' a l st → Q' (.str (f i)) H'') → te ((wipe σ vs).set j (some x)) H' Q')
    (hq : ∀ D H', Kt l H1 H' → Tabs T H' → DeskAt K C H' a l st → H1 D = none → H' D = some (.lst ((List.range n).map fun i => V.str (f i))) → Q (.ref D) H') : LcW J (gName j) tYes te vs σ H1 Q := fun D hD => by
  obtain ⟨us, hus⟩ := hd.lst
  have hDl : D ≠ l := fun z => by rw [z, hus] at hD; cases hD
  have put : ∀ (H' : Hp) (ys zs : List V), Kt l H1 H' → Tabs T H' → DeskAt K C H' a l st → H' D = some (.lst ys) → Kt l H1 (upd H' D (.lst zs)) ∧ Tabs T (upd H' D (.lst zs)) ∧ DeskAt K C (upd H' D (.lst zs)) a l st := fun H' ys zs k t d h =>
    ⟨fun b o hb ho h1 => by
      rw [upd_ne (fun z => by rw [z, hD] at h1; cases h1)]
      exact k b o hb ho h1, tabs_keep t h Keep.upd, d.other h hDl.symm Keep.upd⟩
  refine lc_it wk (fun i H' => Kt l H1 H' ∧ Tabs T H' ∧ DeskAt K C H' a l st ∧ H' D = some (.lst ((List.range i).map fun i => V.str (f i)))) ?_ (fun i H' _ p => hG H' p.1) (fun i x H' H2 hi p y => ?_) (fun H' p => hq D H' p.1 p.2.1 p.2.2.1 hD p.2.2.2)
  · exact ⟨Kt.ex (Ex.new hD), hT.ext (fun c o hc => Ex.new hD c o hc), hd.ex (Ex.new hD), upd_same⟩
  · obtain ⟨rfl, hx⟩ := y
    obtain ⟨k, t, d, hacc⟩ := p
    refine ⟨hw x, ?_⟩
    show te _ _ _
    refine hb i x H2 hx hi k t d _ fun H3 k3 t3 d3 => ?_
    have h3 := k3 D _ hDl noT_lst hacc
    obtain ⟨q1, q2, q3⟩ := put H3 _ ((List.range i).map (fun i => V.str (f i)) ++ [.str (f i)]) (k.trans k3) t3 d3 h3
    refine ⟨_, h3, sz_lt (by rw [List.length_map, List.length_range]; omega), q1, q2, q3, ?_⟩
    rw [upd_same, List.range_succ, List.map_append]
    rfl
theorem rv_inT {z : Str} {zs : List Str} : RvD K (rIn K false) (.str z) (.tuple (zs.map PyData.str)) (.bool (inV (.str z) (zs.map V.str))) := fun H x y dx dy Q q => by
  obtain ⟨p, xs, rfl, hs, hx⟩ := dp_tup dy
  rw [dpa_strs hx] at hs
  rw [dp_str dx]
  refine ⟨p, _, rfl, .inr hs, rfl, ?_, q _ H (Ex.refl H) (.bl _)⟩
  rw [List.all_map]
  exact List.all_eq_true.mpr fun _ _ => rfl
theorem eqv_strs : ∀ zs : List Str, PyData.eqvAll (zs.map PyData.str) (zs.map PyData.str) = true
  | [] => rfl
  | a :: r => by
    show (PyData.eqv (.str a) (.str a) && PyData.eqvAll (r.map PyData.str) (r.map PyData.str)) = true
    rw [eqv_strs r]
    simp [PyData.eqv]
theorem shaped_strs {zs : List Str} (h : ∀ z ∈ zs, PyData.strOk z = true) : SeqAt.shaped (.list (zs.map PyData.str)) = true := by
  have q := lay_lists (zs.map PyData.str) fun d hd => by
    obtain ⟨z, hz, rfl⟩ := List.mem_map.mp hd
    exact ⟨h z hz, by simp [PyData.depth]⟩
  exact shaped_list ⟨q.1, by have := q.2; omega⟩
theorem sOk_sT {l : List Nat} (h : ∀ c ∈ l, c < 1000) : PyData.strOk (sT l) = true := by
  unfold PyData.strOk
  rw [← Array.all_toList]
  exact List.all_eq_true.mpr fun c hc => decide_eq_true (by have := h c hc; omega)
theorem sOk_dtxt {d : List Int} (h : HuOk d) : PyData.strOk (dtxt d) = true := by
  unfold dtxt
  split
  · decide +kernel
  · refine sOk_sT fun c hc => ?_
    obtain ⟨x, hx, rfl⟩ := List.mem_map.mp hc
    have := h.2 x hx
    unfold sg
    split <;> omega
theorem joinL_small : ∀ l : List Nat, (∀ n ∈ l, n ≤ 9) → ∀ c ∈ TL.joinL [44] (l.map fun n => [48 + n]), c < 1000
  | [], _, c, hc => by cases hc
  | [a], h, c, hc => by
    have hc : c ∈ [48 + a] := hc
    have := h a List.mem_cons_self
    have := List.mem_singleton.mp hc
    omega
  | a :: b :: r, h, c, hc => by
    have hc : c ∈ [48 + a] ++ ([44] ++ TL.joinL [44] ((b :: r).map fun n => [48 + n])) := hc
    rcases List.mem_append.mp hc with z | z
    · have := h a List.mem_cons_self
      have := List.mem_singleton.mp z
      omega
    · rcases List.mem_append.mp z with z | z
      · have := List.mem_singleton.mp z
        omega
      · exact joinL_small (b :: r) (fun n hn => h n (List.mem_cons_of_mem _ hn)) c z
theorem sOk_ntxt {l : List Nat} (h : ∀ n ∈ l, n ≤ 9) : PyData.strOk (ntxt l) = true := by
  unfold ntxt
  split
  · decide +kernel
  · have e : l.map fig = (l.map fun n => [48 + n]).map SX.S := by rw [List.map_map]; rfl
    have c : commaT = SX.S [44] := by decide +kernel
    rw [e, c, SX.join_S]
    exact sOk_sT (joinL_small l h)
theorem sOk_int {i : Int} (h : -5 ≤ i ∧ i < 600) : PyData.strOk (Str.ofString (toString i)) = true := by
  have d : ∀ n ∈ List.range 605, PyData.strOk (Str.ofString (toString (((n : Nat) : Int) - 5))) = true := by decide +kernel
  have e : i = (((i + 5).toNat : Nat) : Int) - 5 := by omega
  rw [e]
  exact d _ (List.mem_range.mpr (by omega))
theorem eqv_lstrs (zs : List Str) : PyData.eqv (.list (zs.map PyData.str)) (.list (zs.map PyData.str)) = true := by
  show PyData.eqvAll _ _ = true
  exact eqv_strs zs
end
theorem op_left {r : R2} {ta tb : TE} {σ : L2.St} {H : Hp} {Q : VK} (h : ta σ H fun x H1 => tb σ H1 fun y H2 => r x y H2 Q) : tOp r ta tb σ H Q := h
theorem lc_tupQ {K : PySem.W.Frag} {te tb : TE} {g : TG} {tt : TT} {vs : List Nat} {σ : L2.St} {H : Hp} {Q : VK} (h : te σ H fun v H1 => ∃ a, v = .ref a ∧ (∃ xs, SqT K H1 a xs) ∧ LcW (Itt K a) g tt tb vs σ H1 Q) : tLc (iTup K te) g tt tb vs σ H Q := h
theorem lc_listQ {K : PySem.W.Frag} {te tb : TE} {g : TG} {tt : TT} {vs : List Nat} {σ : L2.St} {H : Hp} {Q : VK} (h : te σ H fun v H1 => ∃ a, v = .ref a ∧ (∃ xs, SqL K H1 a xs) ∧ LcW (Itl K a) g tt tb vs σ H1 Q) : tLc (iList K te) g tt tb vs σ H Q := h
/-- for i, x in enumerate(a name's tuple), all but a list and the tables staying -/
theorem r_forEk {K : PySem.W.Frag} {C : Addr} {T : List (Addr × Str)} {σ : L2.St} {H : Hp} {D : Ends} {tu tz : TS} {es : List PyData} {v : V} {i0 j1 j2 : Nat} {a l : Addr} (hv : Dp K H v (.tuple es)) (hσ : σ[i0]? = some (some v)) (hT : Tabs T H) (hl : ∃ xs, H l = some (.lst xs)) (Pv : Nat → L2.St → Hp → Prop) (h0 : Pv 0 σ H) (hE : ∀ i σ' H', Pv i σ' H' → Kt l H H')
    (hs : ∀ (i : Nat) e x σ' H' H2, es[i]? = some e → Dp K H2 x e → Pv i σ' H' → Ex H' H2 → tu { D with nx := Pv (i + 1), ct := Pv (i + 1), bk := tz D } ((σ'.set j1 (some (.int (i : Int)))).set j2 (some x)) H2) (hd : ∀ σ' H', Pv es.length σ' H' → tz D σ' H') (hf : flats es = true := by exact flats_int _) :
    tSeq (tFor (iEnumT K (tCons (tVar i0) tNil)) (gTup K 2 (gCons (gName j1) (gCons (gName j2) gNil))) tu) tz D σ H := by
  obtain ⟨ta, xs, rfl, ht, ha⟩ := dp_tupR hv
  obtain ⟨ls, hls⟩ := hl
  have htl : ta ≠ l := fun z => by rw [z, hls] at ht; cases ht
  refine ⟨_, hσ, ta, xs, rfl, st_of ht, for_it (walk_enumT (xs := xs)) Pv h0 (fun i σ' H' _ p => st_of (hE i σ' H' p _ _ htl noT_tup ht)) (fun i x σ' H' H2 hi p y => ?_) (fun σ' H' p => hd σ' H' (by rw [← dpa_len ha]; exact p))⟩
  obtain ⟨Tp, x1, x2, rfl, hTp, rfl, q1, q2⟩ := y
  obtain rfl := Option.some.inj q1
  obtain ⟨e, he, de⟩ := dpa_getV ha q2
  have fe : flat e = true := by
    have : ∀ {ds : List PyData} {i : Nat}, flats ds = true → ds[i]? = some e → flat e = true := by
      intro ds
      induction ds with
      | nil => intro i _ h; simp at h
      | cons d r ih =>
        intro i h1 h2
        simp only [flats, Bool.and_eq_true] at h1
        cases i with
        | zero => simp at h2; rw [← h2]; exact h1.1
        | succ i => exact ih h1.2 (by simpa using h2)
    exact this hf he
  exact ⟨Tp, _, rfl, st_of upd_same, rfl, _, _, rfl, _, _, rfl, rfl, hs i e x2 σ' H' _ he (dpx (Ex.new hTp) (dpt hls (hE i σ' H' p) fe de)) p (Ex.new hTp)⟩
/-! ### _law_filled -/
theorem sg_big {h : Int} (a : -1 ≤ h ∧ h ≤ 3) : sg h ≠ 110 ∧ sg h ≠ 33 := by
  rcases hu_cases a with rfl | rfl | rfl | rfl | rfl <;> decide
/-- a draft's text is none of the two words -/
theorem told_no {d : List Int} (h : HuOk d) (hne : d ≠ []) : inV (.str (dtxt d)) (([("no" : Str), ("! great" : Str)]).map V.str) = false := by
  have key : ∀ z : Str, z.cps.toList.head? = some 110 ∨ z.cps.toList.head? = some 33 → (z == dtxt d) = false := by
    intro z hz
    refine beq_eq_false_iff_ne.mpr fun e => ?_
    cases d with
    | nil => exact hne rfl
    | cons x r =>
      have hs := sg_big (h.2 x List.mem_cons_self)
      unfold dtxt at e
      rw [if_neg (by simp)] at e
      rw [e] at hz
      have hh : ((sT ((x :: r).map sg)).cps.toList).head? = some (sg x) := rfl
      rw [hh] at hz
      rcases hz with hz | hz
      · exact hs.1 (Option.some.inj hz)
      · exact hs.2 (Option.some.inj hz)
  show (eqV (V.str "no") (.str (dtxt d)) || (eqV (V.str "! great") (.str (dtxt d)) || false)) = false
  have h1 : eqV (V.str "no") (.str (dtxt d)) = false := key "no" (.inl (by decide +kernel))
  have h2 : eqV (V.str "! great") (.str (dtxt d)) = false := key "! great" (.inr (by decide +kernel))
  rw [h1, h2]
  rfl
theorem dig_at {d : List Int} {i : Nat} (hi : i < d.length) : atI (dtxt d).cps.toList ((i : Nat) : Int) = some (sg (d.getD i 0)) := by
  have hne : d ≠ [] := fun z => by rw [z] at hi; cases hi
  have e : (dtxt d).cps.toList = d.map sg := by
    unfold dtxt
    rw [if_neg hne]
  rw [e]
  refine atI_nat ?_
  rw [List.getElem?_map, List.getElem?_eq_getElem hi, List.getD_eq_getElem?_getD, List.getElem?_eq_getElem hi]
  rfl
theorem sg_fig {h : Int} (a : 0 ≤ h) : sT [sg h] = fig h.toNat := by
  unfold sg fig
  rw [if_neg (by omega)]
section
variable {P : Program} {w : World} {K : PySem.W.Frag} {mg : Str → Option Value} {base : Heap} {C pP dS : Addr} {T : List (Addr × Str)}
/-- the draft after the first i places are filled in -/
def fillI (dr a : List Int) (i : Nat) : List Int := a.take i ++ dr.drop i
theorem fillI_len {dr a : List Int} (h : a.length = dr.length) (i : Nat) (hi : i ≤ dr.length) : (fillI dr a i).length = dr.length := by
  unfold fillI
  rw [List.length_append, List.length_take, List.length_drop]
  omega
theorem fillI_at {dr a : List Int} (h : a.length = dr.length) {i : Nat} (hi : i < dr.length) : (fillI dr a i).getD i 0 = dr.getD i 0 := by
  unfold fillI
  have hl : (a.take i).length = i := by rw [List.length_take]; omega
  rw [List.getD_eq_getElem?_getD, List.getElem?_append_right (by omega), hl, Nat.sub_self, List.getElem?_drop, Nat.add_zero, ← List.getD_eq_getElem?_getD]
theorem fillI_next {dr a : List Int} (h : a.length = dr.length) {i : Nat} (hi : i < dr.length) : (fillI dr a i).set i (a.getD i 0) = fillI dr a (i + 1) := by
  unfold fillI
  have hl : (a.take i).length = i := by rw [List.length_take]; omega
  rw [List.set_append, if_neg (by omega), hl, Nat.sub_self]
  have hd : dr.drop i = dr[i] :: dr.drop (i + 1) := List.drop_eq_getElem_cons hi
  have ht : a.take (i + 1) = a.take i ++ [a.getD i 0] := take_snoc (by rw [List.getD_eq_getElem?_getD, List.getElem?_eq_getElem (by omega)]; rfl)
  rw [hd, ht, List.append_assoc]
  rfl
theorem fillI_stay {dr a : List Int} (h : a.length = dr.length) {i : Nat} (hi : i < dr.length) (he : a.getD i 0 = dr.getD i 0) : fillI dr a i = fillI dr a (i + 1) := by
  rw [← fillI_next h hi, he, ← fillI_at h hi]
  refine (List.ext_getElem? fun q => ?_).symm
  by_cases hq : q = i
  · subst hq
    have hl := fillI_len h q (by omega)
    rw [List.getElem?_set_self (by omega), List.getD_eq_getElem?_getD, List.getElem?_eq_getElem (by omega)]
    rfl
  · rw [List.getElem?_set_ne (Ne.symm hq)]
theorem dr_fillI {sz : List Nat} {dr a : List Int} (od : DrOk sz dr) (h : a.length = dr.length) (ha : ∀ x ∈ a, 0 ≤ x ∧ x < (sz.length : Int)) (i : Nat) (hi : i ≤ dr.length) : DrOk sz (fillI dr a i) := ⟨by rw [fillI_len h i hi]; exact od.len, fun x hx => by
  rcases List.mem_append.mp hx with z | z
  · have := ha x (List.mem_of_mem_take z); omega
  · exact od.all x (List.mem_of_mem_drop z)⟩
def sp_law_filled (K : PySem.W.Frag) (mg : Str → Option Value) (C : Addr) (T : List (Addr × Str)) : Sp := fun vs H Q _ => ∃ a l b sz dr v2, vs = [.ref a, v2] ∧ Tabs T H ∧ DeskAt K C H a l (b ++ [(sz, dr)]) ∧ StG (b ++ [(sz, dr)]) ∧ b.length ≤ 60 ∧ Bot (b ++ [(sz, dr)]) ∧ Dp K H v2 (iT dr) ∧ 1 ≤ dr.length ∧
  ∀ st H', Kt l H H' → Tabs T H' → DeskAt K C H' a l st → StG st → Bot st → Q (.bl true) H'
theorem ln_law_filled : ∀ vs H Q E, sp_law_filled K mg C T vs H Q E → vs.length = 2 := fun vs H Q E ⟨_, _, _, _, _, _, e, _⟩ => by rw [e]; rfl
theorem sc_law_filled : FnScope ["_law_desk", "_law_draft", "_law_told", "_law_place", "_law_hue", "_law_row"] ["_law_desk", "_law_draft"] (defScope (top 105)) := ⟨rfl, rfl, rfl, by decide +kernel, rfl, by decide +kernel, by decide +kernel⟩
theorem df_law_filled (TX : Txt K mg) (Kn : KindK K mg) (Y : DeskK w K mg C pP dS) (F : LamD K base mg T "_law_filled" (top 105))  (M_say : Mt P w K mg base (L2.CX P w) C "say" 11 ["self", "row"] (sp_say K mg C)) (G : GotD K mg) (KF : KindF P w K mg base) : Df P w K mg base "_law_filled" 14 ["_law_desk", "_law_draft"] (sp_law_filled K mg C T) := by
  have nd := sc_law_filled.nd
  refine df_mkL (k := 13) F sc_law_filled (fun _ _ _ _ _ _ us hl => match us, hl with | [_, _], _ => rfl) (ln_law_filled) (fun f cdv A outer s H vs Q E hr hB h => ?_)
  refine ⟨_, (pss_cons (ps_set (i := 2) nd rfl (by first | exact Or.inl rfl | exact Or.inr rfl) (pe_gotL (t := fun E => tMeth C "say" (sp_say K mg C) [] E (tVar 0) (tCons (tC (.str "first")) tNil)) G Kn KF hB (hr.mono (by decide)) rfl (lamS_by (by rfl)) rfl (fun _ _ _ _ _ => rfl) (fun A outer s H E f c' hr2 tk2 => pe_mt Y.cls M_say hr2 (L2.passes_call tk2 (fun _ _ _ _ h => h)) (pv 0) (pa_cons pe_str pa_nil))))
      (pss_cons (ps_if (pt_cmpR (r := rIn K false) op_in_seq (pv 2) (pe_tup (pa_cons pe_str (pa_cons pe_str pa_nil))) rfl) (pss_one (ps_ret pe_bl)) pss_nil)
      (pss_cons (ps_for PassesOwn.never rfl (pi_enumT rfl TX.b_enumerate (pa_cons (pv 1) pa_nil)) (pg_tup rfl (pgs_cons (pg_name (i := 3) nd rfl (by first | exact Or.inl rfl | exact Or.inr rfl)) (pgs_cons (pg_name (i := 4) nd rfl (by first | exact Or.inl rfl | exact Or.inr rfl)) pgs_nil))) (pss_one (ps_if (pt_cmpR op_lt (pv 4) pe_int (nomark _)) (pss_one (ps_expr (pe_mt Y.cls M_say (hr.mono (by decide)) passN (pv 0) (pa_cons (pe_op op_add_str (pe_op op_add_str (pe_op op_add_str pe_str (pe_callTy call_str_int rfl TX.b_str (by decide +kernel) (pa_cons (pv 3) pa_nil))) pe_str) (pe_ix ix_str (pv 2) (pv 3) (fun _ _ => rfl))) pa_nil)))) pss_nil)))
      (pss_one (ps_ret (pe_cmpR (r := rEqD K) (op_eqD hr.units) (pe_lc (own := [("_law_row", 5)]) (g := gName 5) (tt := tYes) rfl nd (pi_tup (pe_tup (pa_cons pe_str (pa_cons pe_str (pa_cons pe_str (pa_cons pe_str pa_nil)))))) (blkOk_by (N := ["_law_desk", "_law_draft", "_law_told", "_law_place", "_law_hue", "_law_row"]) (sc := defScope (top 105)) (by decide +kernel)) (fun _ _ _ _ _ => (pg_name (i := 5) nd rfl (by first | exact Or.inl rfl | exact Or.inr rfl))) (fun _ _ _ _ _ => pts_nil) (fun _ _ _ _ _ => (pe_mt Y.cls M_say (hr.mono (by decide)) passN (pv 0) (pa_cons (pv 5) pa_nil)))) (pe_lst (pa_cons (pv 2) (pa_cons (pv 2) (pa_cons pe_str (pa_cons pe_str pa_nil))))) (nomark _))))))), ?_⟩
  obtain ⟨a, l, b, sz, dr, v2, rfl, hT, hd, g, hb60, bot, h2, hl1, k⟩ := h
  obtain ⟨hm, od, hl10⟩ := st_last g
  have ok := menu_ok hm
  have hu := dr_hu ok od
  obtain ⟨xs0, hx0⟩ := hd.lst
  refine q_asgQ (ev_got (b := b) (sz := sz) (dr := dr) (rw := .ask .first) Kn hT hd g True.intro rfl (fun H1 => ed_str (K := K)) fun H1 k1 T1 hd1 => ?_)
  have x2 : Dp K H1 v2 (iT dr) := dpt hx0 k1 (flat_iT dr) h2
  have hin : ∀ z : Str, EvT (tTest (tOp (rIn K false) (tVar 2) (tTup (tCons (tC (.str "no")) (tCons (tC (.str "! great")) tNil))))) [some (.ref a), some v2, some (.str z), none, none, none] H1 (inV (.str z) (([("no" : Str), ("! great" : Str)]).map V.str)) := fun z =>
    et_test (ed_op (K := K) (ed_var (.str z)) (en_tup (ds := ([("no" : Str), ("! great" : Str)]).map PyData.str) (eda_cons ed_str (eda_cons ed_str eda_nil))) rv_inT)
  have done : ∀ z : Str, (gotR b sz dr (.ask .first)) = (z, b ++ [(sz, dr)]) → inV (.str z) (([("no" : Str), ("! great" : Str)]).map V.str) = true → ∀ H2, Ex H1 H2 → Q (.bl true) H2 := fun z e _ H2 e2 => by
    rw [e] at hd1
    exact k _ H2 (k1.trans (Kt.ex e2)) (T1.ext e2) (hd1.ex e2) g bot
  by_cases hw : waysM sz dr ≤ 512
  · cases hf : fillM sz dr with
    | nil =>
      have e : gotR b sz dr (.ask .first) = (("no" : Str), b ++ [(sz, dr)]) := by
        simp only [gotR, sayR, ansM, if_pos hw, hf]
        rfl
      have e1 : (gotR b sz dr (.ask .first)).1 = "no" := by rw [e]
      rw [e1]
      exact q_when (b := true) (et_is (hin "no") (by decide +kernel)) (fun _ H2 e2 => r_retD (K := K) ed_bl fun u H3 e3 nu => by
        rw [dp_bl nu.dp]
        exact done "no" e (by decide +kernel) H3 (e2.trans e3)) (fun z => by cases z)
    | cons ff fr =>
      have hmem : ff ∈ fillM sz dr := by rw [hf]; exact List.mem_cons_self
      obtain ⟨flen, fall⟩ := fill_full od hmem
      obtain ⟨fw, fways, fown⟩ := fill_own ok od hmem
      have fne : ff ≠ [] := fun z => by rw [z] at flen; simp at flen; omega
      have fhu : HuOk ff := ⟨by omega, fun x hx => by have := fall x hx; have := ok.hi; omega⟩
      have e : gotR b sz dr (.ask .first) = (dtxt ff, b ++ [(sz, dr)]) := by
        simp only [gotR, sayR, ansM, if_pos hw, hf]
        rfl
      have e1 : (gotR b sz dr (.ask .first)).1 = dtxt ff := by rw [e]
      rw [e1]
      have hd1 : DeskAt K C H1 a l (b ++ [(sz, dr)]) := by rw [e] at hd1; exact hd1
      refine q_when (b := false) (et_is (hin (dtxt ff)) (told_no fhu fne)) (fun z => by cases z) fun _ H2 e2 => ?_
      have x2' := dpx e2 x2
      -- the loop
      refine r_forEk (T := T) (a := a) (l := l) (es := dr.map PyData.int) (K := K) (C := C) x2' rfl (T1.ext e2) ((hd1.ex e2).lst) (fun i σ' H' => ∃ v3 v4 b2, σ' = [some (.ref a), some v2, some (.str (dtxt ff)), v3, v4, none] ∧ Kt l H2 H' ∧ Tabs T H' ∧ DeskAt K C H' a l (b2 ++ [(sz, fillI dr ff i)]) ∧ StG (b2 ++ [(sz, fillI dr ff i)]) ∧ b2.length ≤ 60 + i ∧ Bot (b2 ++ [(sz, fillI dr ff i)])) ?_ (fun i σ' H' ⟨_, _, _, _, z, _⟩ => z) ?_ ?_
      · have e0 : fillI dr ff 0 = dr := rfl
        exact ⟨none, none, b, rfl, Kt.refl, T1.ext e2, by rw [e0]; exact hd1.ex e2, by rw [e0]; exact g, by omega, by rw [e0]; exact bot⟩
      · rintro i x y σ' H' H6 hei dy ⟨v3, v4, b2, rfl, kt, Tt, hda, gb, hb2, bt⟩ e6
        rw [List.getElem?_map] at hei
        obtain ⟨xi, hxi, rfl⟩ := Option.map_eq_some_iff.mp hei
        obtain ⟨hi, hxe⟩ := List.getElem?_eq_some_iff.mp hxi
        have hxd : dr.getD i 0 = xi := by rw [List.getD_eq_getElem?_getD, hxi]; rfl
        rw [dp_int dy]
        have hda6 := hda.ex e6
        have oi := dr_fillI od flen fall i (by omega)
        have li := fillI_len flen i (show i ≤ dr.length by omega)
        refine s_when (b := decide (xi < 0)) (et_test (K := K) (ed_op (ed_var (.int _)) ed_int rv_lt)) (fun hb H7 e7 => ?_) (fun hb H7 e7 => ?_)
        · have hneg := of_decide_eq_true hb
          have hxo := od.all xi (List.mem_of_getElem? hxi)
          have hfa := fall _ (getD_mem (s := ff) (q := i) (by omega))
          have hc : (((ff.getD i 0).toNat : Nat) : Int) = ff.getD i 0 := by omega
          have hsl := ok.hi
          refine s_dropQ (ev_say (b := b2) (sz := sz) (dr := fillI dr ff i) (rw := .act (.put i (ff.getD i 0).toNat)) (Tt.ext (fun c o hc => e7 c o (e6 c o hc))) (hda6.ex e7) gb ⟨by omega, by rw [fillI_at flen hi, hxd]; omega, by omega⟩ rfl (ed_rowPut (ed_var (.int _)) ?_ (by omega) (by omega)) rfl fun H9 k9 T9 hd9 => ?_)
          · rw [← sg_fig hfa.1]
            exact ed_op (ed_var (.str (dtxt ff))) (ed_var (.int (i : Int))) (rv_ixS (by have := dtxt_len fhu; omega) (dig_at (by omega)))
          · have hd9 : DeskAt K C H9 a l ((b2 ++ [(sz, fillI dr ff i)]) ++ [(sz, (fillI dr ff i).set i (((ff.getD i 0).toNat : Nat) : Int))]) := hd9
            rw [hc, fillI_next flen hi] at hd9
            exact ⟨_, _, b2 ++ [(sz, fillI dr ff i)], rfl, (kt.trans (Kt.ex (e6.trans e7))).trans (Kt.keep k9), T9, hd9, gb.snoc (by rw [List.length_append]; show b2.length + 1 ≤ 499; omega) hm (dr_fillI od flen fall _ (by omega)) (by rw [fillI_len flen _ (by omega)]; exact hl10), by rw [List.length_append]; show b2.length + 1 ≤ _; omega, bt.app⟩
        · have hge := of_decide_eq_false hb
          have hst := fillI_stay flen hi (fill_same hmem hi (by rw [hxd]; omega))
          rw [hst] at hda6 gb bt
          exact ⟨_, _, b2, rfl, kt.trans (Kt.ex (e6.trans e7)), Tt.ext (fun c o hc => e7 c o (e6 c o hc)), hda6.ex e7, gb, by omega, bt⟩
      · rintro σ' H' ⟨v3, v4, b2, rfl, kt, Tt, hda, gb, hb2, bt⟩
        have eN : fillI dr ff (dr.map PyData.int).length = ff := by
          rw [List.length_map]
          unfold fillI
          rw [List.drop_length, List.append_nil, List.take_of_length_le (by omega)]
        rw [eN] at hda gb bt
        have kH : Kt l H H' := (k1.trans (Kt.ex e2)).trans kt
        -- the last comparison
        let rws : List Rw := [.ask .draft, .ask .first, .ask .fillings, .ask .clean]
        let outs : List Str := [dtxt ff, dtxt ff, "1", "yes"]
        have hsay : ∀ i (hi : i < 4), sayR b2 sz ff (rws[i]'hi) = .ok (outs[i]'hi, b2 ++ [(sz, ff)]) := by
          intro i hi
          match i, hi with
          | 0, _ => rfl
          | 1, _ =>
            show (ansM sz ff .first).map _ = _
            simp only [ansM, fways, fown]
            rfl
          | 2, _ =>
            show (ansM sz ff .fillings).map _ = _
            have h1 : (([ff] : List (List Int)).length) = 1 := rfl
            simp only [ansM, fways, fown, h1]
            have h2 : Str.ofString (toString ((1 : Nat) : Int)) = ("1" : Str) := by decide +kernel
            rw [h2]
            rfl
          | 3, _ =>
            show Except.map (fun z => (z, b2 ++ [(sz, ff)])) (ansM sz ff .clean) = _
            simp only [ansM, fw]
            rfl
        refine q_retQ (op_left (lc_tupQ ?_))
        refine (en_tup (K := K) (H := H') (σ := [some (.ref a), some v2, some (.str (dtxt ff)), v3, v4, none]) (ds := ([("draft" : Str), ("first" : Str), ("fillings" : Str), ("clean" : Str)]).map PyData.str) (eda_cons ed_str (eda_cons ed_str (eda_cons ed_str (eda_cons ed_str eda_nil))))) H' (Ex.refl H') _ fun u H7 e7 du => ?_
        obtain ⟨tq, tqs, rfl, htq, htqa⟩ := dp_tupR du
        have htqs := dpa_strs htqa
        subst htqs
        have hda7 := hda.ex e7
        obtain ⟨ls, hls⟩ := hda7.lst
        have htl : tq ≠ l := fun z => by rw [z, hls] at htq; cases htq
        refine ⟨tq, rfl, ⟨_, st_of htq⟩, lcJ (T := T) (C := C) (K := K) (a := a) (l := l) (st := b2 ++ [(sz, ff)]) walk_tup (fun i => outs.getD i "") (by decide) (fun _ => rfl) (Tt.ext e7) hda7 (fun H'' k'' => st_of (k'' _ _ htl noT_tup htq)) (fun i x H'' hx hi k'' t'' d'' Q' hQ' => ?_) (fun D H'' k'' t'' d'' nD hD => ?_)⟩
        · have hi4 : i < 4 := hi
          have hxr : x = .str (rowT (rws[i]'hi4)) := by
            match i, hi4 with
            | 0, _ => exact (Option.some.inj hx).symm.trans (congrArg V.str (by show ("draft" : Str) = glueT (qT .draft) []; rw [glue_one]; rfl))
            | 1, _ => exact (Option.some.inj hx).symm.trans (congrArg V.str (by show ("first" : Str) = glueT (qT .first) []; rw [glue_one]; rfl))
            | 2, _ => exact (Option.some.inj hx).symm.trans (congrArg V.str (by show ("fillings" : Str) = glueT (qT .fillings) []; rw [glue_one]; rfl))
            | 3, _ => exact (Option.some.inj hx).symm.trans (congrArg V.str (by show ("clean" : Str) = glueT (qT .clean) []; rw [glue_one]; rfl))
          subst hxr
          refine ev_say (b := b2) (sz := sz) (dr := ff) (rw := rws[i]'hi4) t'' d'' gb ?_ rfl (ed_var (K := K) (.str _)) (hsay i hi4) fun H3 k3 t3 d3 => ?_
          · match i, hi4 with
            | 0, _ => exact True.intro
            | 1, _ => exact True.intro
            | 2, _ => exact True.intro
            | 3, _ => exact True.intro
          · have ho : outs.getD i "" = outs[i]'hi4 := by rw [List.getD_eq_getElem?_getD, List.getElem?_eq_getElem (show i < outs.length from hi4)]; rfl
            have := hQ' H3 (Kt.keep k3) t3 d3
            rw [ho] at this
            exact this
        · have hD : H'' D = some (.lst (outs.map V.str)) := hD
          have dD : Dp K H'' (.ref D) (.list (outs.map PyData.str)) := .lst hD (dpa_str _)
          refine (en_lst (K := K) (H := H'') (σ := [some (.ref a), some v2, some (.str (dtxt ff)), v3, v4, none]) (ds := outs.map PyData.str) (eda_cons (ed_var (.str _)) (eda_cons (ed_var (.str _)) (eda_cons ed_str (eda_cons ed_str eda_nil)))) (by show (4 : Nat) ≤ 100000; decide)) H'' (Ex.refl _) _ fun u2 H8 e8 n8 => ?_
          have so : ∀ z ∈ outs, PyData.strOk z = true := fun z hz => by
            have hz : z ∈ [dtxt ff, dtxt ff, ("1" : Str), ("yes" : Str)] := hz
            simp only [List.mem_cons, List.mem_nil_iff, or_false] at hz
            rcases hz with rfl | rfl | rfl | rfl
            · exact sOk_dtxt fhu
            · exact sOk_dtxt fhu
            · decide +kernel
            · decide +kernel
          refine rv_eqD (shaped_strs so) (shaped_strs so) H8 (.ref D) u2 (dpx e8 dD) n8.dp _ fun v H9 e9 dv => ?_
          rw [eqv_lstrs] at dv
          rw [dp_bl dv]
          exact k _ H9 ((kH.trans (Kt.ex e7)).trans (k''.trans (Kt.ex (e8.trans e9)))) (t''.ext (fun c o hc => e9 c o (e8 c o hc))) (d''.ex (e8.trans e9)) gb bt
  · have e : gotR b sz dr (.ask .first) = (("! great" : Str), b ++ [(sz, dr)]) := by
      simp only [gotR, sayR, ansM, if_neg hw]
      exact Prod.ext (by show kindT "TooGreat" = ("! great" : Str); decide +kernel) rfl
    have e1 : (gotR b sz dr (.ask .first)).1 = "! great" := by rw [e]
    rw [e1]
    exact q_when (b := true) (et_is (hin "! great") (by decide +kernel)) (fun _ H2 e2 => r_retD (K := K) ed_bl fun u H3 e3 nu => by
      rw [dp_bl nu.dp]
      exact done "! great" e (by decide +kernel) H3 (e2.trans e3)) (fun z => by cases z)
end
end EH

set_option Elab.async false
set_option linter.all false
set_option maxRecDepth 100000
set_option maxHeartbeats 4000000
namespace EH
open PySem PySem.Spec PyProof.Rows L2 Evl LamX
/-! ### _law_answers -/
def askRows : List Rw := [.ask .draft, .ask .sizes, .ask .clean, .ask .stuck, .ask .fillings, .ask .first, .ask .far]
def ansRows (m : Nat) : List Rw := askRows ++ (List.range (m + 1)).map Rw.opn
def AskRw : Rw → Prop
  | .ask _ => True
  | .opn p => p ≤ 9
  | _ => False
theorem ans_ask {m : Nat} (hm : m ≤ 8) : ∀ rw ∈ ansRows m, AskRw rw := fun rw h => by
  rcases List.mem_append.mp h with z | z
  · simp only [askRows, List.mem_cons, List.mem_nil_iff, or_false] at z
    rcases z with rfl | rfl | rfl | rfl | rfl | rfl | rfl <;> exact True.intro
  · obtain ⟨p, hp, rfl⟩ := List.mem_map.mp z
    have := List.mem_range.mp hp
    show p ≤ 9
    omega
def ansT (sz : List Nat) (dr : List Int) (rw : Rw) : Str := (gotR [] sz dr rw).1
def ansL (sz : List Nat) (dr : List Int) (m : Nat) : List Str := (ansRows m).map (ansT sz dr)
theorem got_ask {b : List St2} {sz : List Nat} {dr : List Int} {rw : Rw} (h : AskRw rw) : gotR b sz dr rw = (ansT sz dr rw, b ++ [(sz, dr)]) := by
  cases rw with
  | setS _ => exact h.elim
  | act _ => exact h.elim
  | run => exact h.elim
  | back => exact h.elim
  | opn p =>
    simp only [ansT, gotR, sayR]
    by_cases hb : blankAt dr p = true
    · simp only [if_pos hb]
    · simp only [if_neg hb]
  | ask q =>
    simp only [ansT, gotR, sayR]
    cases ansM sz dr q <;> rfl
theorem ask_ok {sz : List Nat} {dr : List Int} {rw : Rw} (h : AskRw rw) : RwOk sz dr rw := by
  cases rw with
  | setS _ => exact h.elim
  | act _ => exact h.elim
  | opn p => exact h
  | run => exact True.intro
  | back => exact True.intro
  | ask _ => exact True.intro
section
variable {P : Program} {w : World} {K : PySem.W.Frag} {mg : Str → Option Value} {base : Heap} {C pP dS : Addr} {T : List (Addr × Str)}
def sp_law_answers (K : PySem.W.Frag) (mg : Str → Option Value) (C : Addr) (T : List (Addr × Str)) : Sp := fun vs H Q _ => ∃ a l b sz dr, ∃ m : Nat, vs = [.ref a, .int (m : Int)] ∧ m ≤ 8 ∧ Tabs T H ∧ DeskAt K C H a l (b ++ [(sz, dr)]) ∧ StG (b ++ [(sz, dr)]) ∧
  ∀ D H', Kt l H H' → Tabs T H' → DeskAt K C H' a l (b ++ [(sz, dr)]) → H D = none → H' D = some (.lst ((ansL sz dr m).map V.str)) → Q (.ref D) H'
theorem ln_law_answers : ∀ vs H Q E, sp_law_answers K mg C T vs H Q E → vs.length = 2 := fun vs H Q E ⟨_, _, _, _, _, _, e, _⟩ => by rw [e]; rfl
theorem sc_law_answers : FnScope ["_law_desk", "_law_many", "_law_rows", "_law_row", "_law_place"] ["_law_desk", "_law_many"] (defScope (top 103)) := ⟨rfl, rfl, rfl, by decide +kernel, rfl, by decide +kernel, by decide +kernel⟩
theorem df_law_answers (TX : Txt K mg) (Kn : KindK K mg) (Y : DeskK w K mg C pP dS) (F : LamD K base mg T "_law_answers" (top 103))  (M_say : Mt P w K mg base (L2.CX P w) C "say" 11 ["self", "row"] (sp_say K mg C)) (G : GotD K mg) (KF : KindF P w K mg base) : Df P w K mg base "_law_answers" 14 ["_law_desk", "_law_many"] (sp_law_answers K mg C T) := by
  have nd := sc_law_answers.nd
  refine df_mkL (k := 13) F sc_law_answers (fun _ _ _ _ _ _ us hl => match us, hl with | [_, _], _ => rfl) (ln_law_answers) (fun f cdv A outer s H vs Q E hr hB h => ?_)
  refine ⟨_, (pss_cons (ps_set (i := 2) nd rfl (by first | exact Or.inl rfl | exact Or.inr rfl) (pe_lst (pa_cons pe_str (pa_cons pe_str (pa_cons pe_str (pa_cons pe_str (pa_cons pe_str (pa_cons pe_str (pa_cons pe_str pa_nil)))))))))
      (pss_one (ps_ret (pe_lc (own := [("_law_row", 3)]) (g := gName 3) (tt := tYes) rfl nd (pi_list (pe_op op_cat (pv 2) (pe_lc (own := [("_law_place", 4)]) (g := gName 4) (tt := tYes) rfl nd (pi_range1 rfl TX.b_range (pa_cons (pe_op op_add (pv 1) pe_int) pa_nil)) (blkOk_by (N := ["_law_desk", "_law_many", "_law_rows", "_law_row", "_law_place"]) (sc := defScope (top 103)) (by decide +kernel)) (fun _ _ _ _ _ => (pg_name (i := 4) nd rfl (by first | exact Or.inl rfl | exact Or.inr rfl))) (fun _ _ _ _ _ => pts_nil) (fun _ _ _ _ _ => (pe_op op_add_str pe_str (pe_callTy call_str_int rfl TX.b_str (by decide +kernel) (pa_cons (pv 4) pa_nil))))))) (blkOk_by (N := ["_law_desk", "_law_many", "_law_rows", "_law_row", "_law_place"]) (sc := defScope (top 103)) (by decide +kernel)) (fun _ _ _ _ _ => (pg_name (i := 3) nd rfl (by first | exact Or.inl rfl | exact Or.inr rfl))) (fun _ _ _ _ _ => pts_nil) (fun _ _ _ _ _ => (by refine pe_gotM (T := T) (t := fun E => tMeth C "say" (sp_say K mg C) [] E (tVar 0) (tCons (tVar 3) tNil)) mg ?_ ?_ ?_ ?_ ?_ ?_ ?_ ?_ ?_ ?_ ?_; rfl; exact G; exact Kn; exact KF; exact hB.blk; exact hr.mono (by decide); rfl; exact lamS_by (by rfl); rfl; exact (fun _ _ _ _ _ => rfl); exact (fun A outer s H E f c' hr2 tk2 => pe_mt Y.cls M_say hr2 (L2.passes_call tk2 (fun _ _ _ _ h => h)) (pv 0) (pa_cons (pv 3) pa_nil)))))))), ?_⟩
  obtain ⟨a, l, b, sz, dr, m, rfl, hm8, hT, hd, g, k⟩ := h
  obtain ⟨xs0, hx0⟩ := hd.lst
  have erow : askRows.map rowT = [("draft" : Str), ("sizes" : Str), ("clean" : Str), ("stuck" : Str), ("fillings" : Str), ("first" : Str), ("far" : Str)] := by
    show [glueT (qT .draft) [], glueT (qT .sizes) [], glueT (qT .clean) [], glueT (qT .stuck) [], glueT (qT .fillings) [], glueT (qT .first) [], glueT (qT .far) []] = _
    simp only [glue_one]
    rfl
  refine r_asgN (K := K) (ds := (askRows.map rowT).map PyData.str) (by rw [erow]; exact en_lst (eda_cons ed_str (eda_cons ed_str (eda_cons ed_str (eda_cons ed_str (eda_cons ed_str (eda_cons ed_str (eda_cons ed_str eda_nil)))))))) fun q H1 hq e1 hl => ?_
  obtain ⟨ys, hy, hya⟩ := hl
  have dq : Dp K H1 (.ref q) (.list ((askRows.map rowT).map PyData.str)) := .lst hy hya
  have l5 : (("open " : Str)).length = 5 := by decide +kernel
  refine q_retQ (lc_listQ ?_)
  refine en_cat (K := K) (H := H1) (σ := [some (.ref a), some (.int (m : Int)), some (.ref q), none, none]) (ds := ((List.range (m + 1)).map fun p => PyData.str (rowT (.opn p)))) (ed_var dq) ((en_lcRa (lo := 0) (n := (((m : Int) + 1)).toNat) _ (ei_r1 (K := K) (eda_cons (ed_add (ed_var (.int (m : Int))) ed_int rfl) eda_nil) (by omega)) (fun p => .str (rowT (.opn p))) (by omega) (fun _ => rfl) (fun p hp H2 e2 => ?_) (fun _ _ => rfl)).eq ?_).toD ?_ H1 (Ex.refl H1) _ fun v H2 e2 nv => ?_
  · exact ed_cat2 ed_str (ed_fig ((ed_var (.int _)).eq (congrArg PyData.int (Int.zero_add _))) (by omega)) (by omega) (by rw [fig_len]; omega) (row_open p (by omega))
  · rw [show ((m : Int) + 1).toNat = m + 1 by omega]
  · rw [List.length_map, List.length_map, List.length_map, List.length_range]
    show 7 + (m + 1) ≤ 100000
    omega
  · obtain ⟨r, zs, rfl, hr, hrl, hrd⟩ := nv
    have erows : (askRows.map rowT).map PyData.str ++ (List.range (m + 1)).map (fun p => PyData.str (rowT (.opn p))) = ((ansRows m).map rowT).map PyData.str := by
      unfold ansRows
      rw [List.map_append, List.map_append, List.map_map, List.map_map, List.map_map]
      rfl
    rw [erows] at hrd
    have hzs := dpa_strs hrd
    subst hzs
    have hd2 := (hd.ex e1).ex e2
    obtain ⟨us, hus⟩ := hd2.lst
    have hrl2 : r ≠ l := fun z => by
      rw [z] at hr
      rw [e1 _ _ hx0] at hr
      cases hr
    have hlen : (((ansRows m).map rowT).map V.str).length = (ansRows m).length := by rw [List.length_map, List.length_map]
    have hal : (ansRows m).length = 7 + (m + 1) := by
      unfold ansRows
      rw [List.length_append, List.length_map, List.length_range]
      rfl
    refine ⟨r, rfl, ⟨_, sq_of hrl⟩, lcJ (T := T) (C := C) (K := K) (a := a) (l := l) (st := b ++ [(sz, dr)]) walk_list (fun i => ansT sz dr ((ansRows m).getD i .run)) (by rw [hlen]; omega) (fun _ => rfl) ((hT.ext e1).ext e2) hd2 (fun H' k' => sq_of (k' _ _ hrl2 noT_lst hrl)) (fun i x H' hx hi k' t' d' Q' hQ' => ?_) (fun D H' k' t' d' nD hD => ?_)⟩
    · rw [hlen] at hi
      have hgi : (ansRows m)[i]? = some ((ansRows m)[i]'hi) := List.getElem?_eq_getElem hi
      have hgd : (ansRows m).getD i .run = (ansRows m)[i]'hi := by rw [List.getD_eq_getElem?_getD, hgi]; rfl
      rw [List.getElem?_map, List.getElem?_map, hgi] at hx
      have hx : x = .str (rowT ((ansRows m)[i]'hi)) := (Option.some.inj hx).symm
      subst hx
      have hask := ans_ask hm8 _ (List.getElem_mem hi)
      refine ev_got (b := b) (sz := sz) (dr := dr) (rw := (ansRows m)[i]'hi) Kn t' d' g (ask_ok hask) rfl (fun H3 => ed_var (K := K) (.str _)) fun H3 k3 t3 d3 => ?_
      rw [got_ask hask] at d3 ⊢
      have := hQ' H3 k3 t3 d3
      rw [hgd] at this
      exact this
    · refine k D H' ((Kt.ex (e1.trans e2)).trans k') t' d' ?_ ?_
      · cases hHD : H D with
        | none => rfl
        | some o => rw [e2 _ _ (e1 _ _ hHD)] at nD; cases nD
      · rw [hD, hlen]
        refine congrArg (fun t => some (HO.lst t)) ?_
        unfold ansL
        rw [List.map_map]
        refine List.ext_getElem? fun i => ?_
        rw [List.getElem?_map, List.getElem?_map]
        by_cases hi : i < (ansRows m).length
        · rw [List.getElem?_range hi, List.getElem?_eq_getElem hi]
          show some (V.str (ansT sz dr ((ansRows m).getD i .run))) = some (V.str (ansT sz dr ((ansRows m)[i]'hi)))
          rw [List.getD_eq_getElem?_getD, List.getElem?_eq_getElem hi]
          rfl
        · rw [List.getElem?_eq_none (by rw [List.length_range]; omega), List.getElem?_eq_none (by omega)]
          rfl
end
end EH

set_option Elab.async false
set_option linter.all false
set_option maxRecDepth 100000
set_option maxHeartbeats 4000000
namespace EH
open PySem PySem.Spec PyProof.Rows L2 Evl LamX
/-! ### rows one behind another -/
inductive RunTo : List St2 → List Rw → List St2 → Prop
  | nil (st : List St2) : RunTo st [] st
  | cons {b : List St2} {sz : List Nat} {dr : List Int} {rw : Rw} {rws : List Rw} {st : List St2} : StG (b ++ [(sz, dr)]) → RwOk sz dr rw → RunTo (gotR b sz dr rw).2 rws st → RunTo (b ++ [(sz, dr)]) (rw :: rws) st
theorem RunTo.app {s1 s2 s3 : List St2} {r1 r2 : List Rw} (h1 : RunTo s1 r1 s2) (h2 : RunTo s2 r2 s3) : RunTo s1 (r1 ++ r2) s3 := by
  induction h1 with
  | nil st => exact h2
  | cons g ok _ ih => exact .cons g ok (ih h2)
theorem RunTo.one {b : List St2} {sz : List Nat} {dr : List Int} {rw : Rw} {st : List St2} (g : StG (b ++ [(sz, dr)])) (ok : RwOk sz dr rw) (e : (gotR b sz dr rw).2 = st) : RunTo (b ++ [(sz, dr)]) [rw] st := .cons g ok (by rw [e]; exact .nil st)
def putRow (dr : List Int) (p : Nat) : List Rw := if 0 ≤ dr.getD p 0 then [.act (.put p (dr.getD p 0).toNat)] else []
def putsUp (dr : List Int) (i : Nat) : List Rw := (List.range i).flatMap (putRow dr)
def headRows (sz : List Nat) (n : Nat) : List Rw := .setS sz :: (if 0 < n then [.act (.more n)] else [])
def begRows (sz : List Nat) (dr : List Int) : List Rw := headRows sz dr.length ++ putsUp dr dr.length ++ [.act (.more 1)]
def blankN (n : Nat) : List Int := List.replicate n (-1)
theorem dr_fillB {sz : List Nat} {dr : List Int} (od : DrOk sz dr) (i : Nat) (hi : i ≤ dr.length) : DrOk sz (fillI (blankN dr.length) dr i) := ⟨by
    rw [fillI_len (by simp [blankN]) i (by simp [blankN]; exact hi)]
    simp [blankN]
    exact od.len, fun x hx => by
    rcases List.mem_append.mp hx with z | z
    · exact od.all x (List.mem_of_mem_take z)
    · have := (List.mem_replicate.mp (List.mem_of_mem_drop z)).2
      omega⟩
theorem blank_at {n i : Nat} (h : i < n) : (blankN n).getD i 0 = -1 := by
  unfold blankN
  rw [List.getD_eq_getElem?_getD, List.getElem?_replicate, if_pos h]
  rfl
theorem head_run {sz : List Nat} {n : Nat} (hm : sz ∈ menus) (hn : n ≤ 8) : ∃ b, RunTo st0 (headRows sz n) (b ++ [(sz, blankN n)]) ∧ StG (b ++ [(sz, blankN n)]) ∧ b.length ≤ 2 ∧ Bot b := by
  have g1 : StG (st0 ++ [(sz, [])]) := stG0.snoc (by decide) hm ⟨by simp, fun h hh => by cases hh⟩ (by simp)
  have r1 : RunTo st0 [.setS sz] (st0 ++ [(sz, [])]) := RunTo.one (b := []) (sz := [3, 3]) (dr := []) stG0 hm rfl
  by_cases h : 0 < n
  · refine ⟨st0 ++ [(sz, [])], ?_, ?_, by simp [st0], ⟨[(sz, [])], rfl⟩⟩
    · unfold headRows
      rw [if_pos h]
      exact r1.app (RunTo.one g1 ⟨by omega, by omega, by simp; omega⟩ rfl)
    · exact g1.snoc (by simp [st0]) hm ⟨by simp [blankN]; omega, fun x hx => by have := (List.mem_replicate.mp hx).2; omega⟩ (by simp [blankN]; omega)
  · have h0 : n = 0 := by omega
    subst h0
    exact ⟨st0, r1, g1, by decide, ⟨[], rfl⟩⟩
theorem puts_run {sz : List Nat} {dr : List Int} (hm : sz ∈ menus) (od : DrOk sz dr) (hl : dr.length ≤ 8) {b : List St2} (g : StG (b ++ [(sz, blankN dr.length)])) (hb : b.length ≤ 2) (bot : Bot b) :
    ∀ i, i ≤ dr.length → ∃ b2, RunTo (b ++ [(sz, blankN dr.length)]) (putsUp dr i) (b2 ++ [(sz, fillI (blankN dr.length) dr i)]) ∧ StG (b2 ++ [(sz, fillI (blankN dr.length) dr i)]) ∧ b2.length ≤ 2 + i ∧ Bot b2
  | 0, _ => ⟨b, .nil _, g, hb, bot⟩
  | i + 1, hi => by
    obtain ⟨b2, r, g2, l2, bt⟩ := puts_run hm od hl g hb bot i (by omega)
    have hbl : dr.length = (blankN dr.length).length := by simp [blankN]
    have hil : i < (blankN dr.length).length := by omega
    have e : putsUp dr (i + 1) = putsUp dr i ++ putRow dr i := by
      unfold putsUp
      rw [range_snoc, List.flatMap_append]
      simp
    have hx := od.all _ (getD_mem (s := dr) (q := i) (by omega))
    by_cases hp : 0 ≤ dr.getD i 0
    · have hc : (((dr.getD i 0).toNat : Nat) : Int) = dr.getD i 0 := by omega
      have hnx := fillI_next (dr := blankN dr.length) (a := dr) hbl hil
      refine ⟨b2 ++ [(sz, fillI (blankN dr.length) dr i)], ?_, ?_, ?_, bt.app⟩
      · rw [e]
        unfold putRow
        rw [if_pos hp]
        refine r.app (RunTo.one g2 ⟨by rw [fillI_len hbl i (by omega)]; omega, by rw [fillI_at hbl hil]; exact blank_at (by omega), by omega⟩ ?_)
        show b2 ++ [(sz, fillI (blankN dr.length) dr i)] ++ [(sz, (fillI (blankN dr.length) dr i).set i (((dr.getD i 0).toNat : Nat) : Int))] = _
        rw [hc, hnx]
      · refine g2.snoc (by rw [List.length_append]; show b2.length + 1 ≤ 499; omega) hm (dr_fillB od _ (by omega)) ?_
        rw [fillI_len hbl _ (by omega)]
        omega
      · rw [List.length_append]
        show b2.length + 1 ≤ _
        omega
    · have hst := fillI_stay (dr := blankN dr.length) (a := dr) hbl hil (by rw [blank_at (by omega)]; omega)
      refine ⟨b2, ?_, by rw [← hst]; exact g2, by omega, bt⟩
      rw [e]
      unfold putRow
      rw [if_neg hp, List.append_nil, ← hst]
      exact r
theorem beg_run {sz : List Nat} {dr : List Int} (hm : sz ∈ menus) (od : DrOk sz dr) (hl : dr.length ≤ 8) : ∃ b, RunTo st0 (begRows sz dr) (b ++ [(sz, dr ++ [-1])]) ∧ StG (b ++ [(sz, dr ++ [-1])]) ∧ b.length ≤ 20 ∧ Bot b := by
  obtain ⟨b, r1, g1, l1, bt1⟩ := head_run (n := dr.length) hm hl
  obtain ⟨b2, r2, g2, l2, bt2⟩ := puts_run hm od hl g1 l1 bt1 dr.length (Nat.le_refl _)
  have e : fillI (blankN dr.length) dr dr.length = dr := by
    unfold fillI blankN
    rw [List.take_length, List.drop_replicate, Nat.sub_self]
    simp
  rw [e] at r2 g2
  refine ⟨b2 ++ [(sz, dr)], (r1.app r2).app (RunTo.one g2 ⟨by omega, by omega, by omega⟩ rfl), ?_, ?_, bt2.app⟩
  · exact g2.snoc (by rw [List.length_append]; show b2.length + 1 ≤ 499; omega) hm (dr_snoc od (by omega) ⟨by omega, by omega⟩) (by rw [List.length_append]; show dr.length + 1 ≤ 10; omega)
  · rw [List.length_append]
    show b2.length + 1 ≤ 20
    omega
theorem Kt.penAt {l p : Addr} {H H' : Hp} (k : Kt l H H') (n : p ≠ l) (h : PenAt H p) : PenAt H' p := by
  obtain ⟨c, f, m, d, h1, h2⟩ := h
  exact ⟨c, f, m, d, k _ _ n noT_lst h1, h2⟩
theorem PenAt.ex {p : Addr} {H H' : Hp} (h : PenAt H p) (e : Ex H H') : PenAt H' p := by
  obtain ⟨c, f, m, d, h1, h2⟩ := h
  exact ⟨c, f, m, d, e _ _ h1, h2⟩
theorem Keep.fresh {p q : Addr} {H H1 H2 : Hp} (k : Keep p H H1) (n : H q = none) (k2 : Keep q H1 H2) : Keep p H H2 := fun b o hb h => k2 b o (fun z => by rw [z, n] at h; cases h) (k b o hb h)
theorem cbQ {r : List V → Hp → VK → Prop} {te : TE} {σ : L2.St} {H : Hp} {Q : VK} (h : te σ H fun x H1 => r [x] H1 Q) : tCB r (tCons te tNil) σ H Q := h
theorem lc_wiQ {wi : TI} {g : TG} {tt : TT} {te : TE} {vs : List Nat} {σ : L2.St} {H : Hp} {Q : VK} (h : wi σ H fun J H1 => LcW J g tt te vs σ H1 Q) : tLc wi g tt te vs σ H Q := h
theorem q_forQ {wi : TI} {g : TG} {tu tz : TS} {D : Ends} {σ : L2.St} {H : Hp} (h : wi σ H fun J H1 => ForW J g tu { D with nx := tz D } σ H1) : tSeq (tFor wi g tu) tz D σ H := h
theorem iL_Q {K : PySem.W.Frag} {te : TE} {σ : L2.St} {H : Hp} {R : It → Hp → Prop} (h : te σ H fun v H1 => ∃ a, v = .ref a ∧ (∃ xs, SqL K H1 a xs) ∧ R (Itl K a) H1) : iList K te σ H R := h
theorem q_whenJ {t : TT} {tu tz : TS} {D : Ends} {σ : L2.St} {H : Hp} {b : Bool} (J : Hp → Prop) (h : EvT t σ H b) (h1 : b = true → ∀ H1, Ex H H1 → ∀ N : L2.St → Hp → Prop, (∀ H', J H' → N σ H') → tu { D with nx := N } σ H1) (h2 : b = false → ∀ H1, Ex H H1 → J H1) (k : ∀ H', J H' → tz D σ H') : tSeq (tIfS t tu tNext) tz D σ H :=
  q_when h (fun hb H1 e => h1 hb H1 e _ fun H' j => k H' j) (fun hb H1 e => k H1 (h2 hb H1 e))
theorem drawQ {K : PySem.W.Frag} {σ : L2.St} {H : Hp} {p : Addr} {m : Nat} {tb : TE} {Q : VK} (h0 : σ[0]? = some (some (.ref p))) (hb : EvD K tb σ H (.int (m : Int))) (hp : PenAt H p) (h1 : 1 ≤ m) (h2 : m ≤ 100) (k : ∀ (r : Nat) H', Keep p H H' → PenAt H' p → r < m → Q (.int (r : Int)) H') : tCall (sp_law_draw K) [] E0 (tCons (tVar 0) (tCons tb tNil)) σ H Q :=
  ⟨_, h0, hb H (Ex.refl H) _ fun v H1 e dv => ⟨p, m, by rw [dp_int dv]; rfl, hp.ex e, h1, h2, fun r H' kp pa hr => k r H' ((Keep.of e).trans kp) pa hr⟩⟩
section
variable {P : Program} {w : World} {K : PySem.W.Frag} {mg : Str → Option Value} {base : Heap} {C pP dS : Addr} {T : List (Addr × Str)}
/-- [draw(pen, m) - 1 for .. in range(n)] -/
theorem lc_draw {σ : L2.St} {H : Hp} {p : Addr} {n m j : Nat} {vs : List Nat} {te : TE} {Q : VK} (hp : PenAt H p) (hn : n ≤ 1000) (hw : ∀ x, wipe ((wipe σ vs).set j (some x)) vs = wipe σ vs)
    (he : ∀ x H1, PenAt H1 p → Keep p H H1 → ∀ Q' : VK, (∀ (r : Nat) H2, Keep p H1 H2 → PenAt H2 p → r < m → Q' (.int ((r : Int) - 1)) H2) → te ((wipe σ vs).set j (some x)) H1 Q')
    (hq : ∀ D H' (xs : List Int), Keep p H H' → PenAt H' p → H D = none → H' D = some (.lst (xs.map V.int)) → xs.length = n → (∀ x ∈ xs, -1 ≤ x ∧ x < (m : Int) - 1) → Q (.ref D) H') : LcW (Itr 0 n) (gName j) tYes te vs σ H Q := fun D hD => by
  have hDp : D ≠ p := fun z => by
    obtain ⟨c, f, k, d, h1, _⟩ := hp
    rw [z, h1] at hD
    cases hD
  refine lc_range (lo := 0) (n := n) (fun i H' => ∃ xs : List Int, Keep p H H' ∧ PenAt H' p ∧ H' D = some (.lst (xs.map V.int)) ∧ xs.length = i ∧ ∀ x ∈ xs, -1 ≤ x ∧ x < (m : Int) - 1) ?_ (fun i H' hi p' => ⟨hw _, ?_⟩) (fun H' ⟨xs, k, pa, hd, hl, hx⟩ => hq D H' xs k pa hD hd hl hx)
  · obtain ⟨c, f, k, d, h1, h2⟩ := hp
    exact ⟨[], Keep.of (Ex.new hD), ⟨c, f, k, d, by rw [upd_ne hDp.symm]; exact h1, h2⟩, upd_same, rfl, fun x hx => by cases hx⟩
  · obtain ⟨xs, k, pa, hd, hl, hx⟩ := p'
    show te _ _ _
    refine he _ H' pa k _ fun r H2 k2 pa2 hr => ?_
    have hd2 := k2 _ _ hDp hd
    refine ⟨_, hd2, sz_lt (by rw [List.length_map]; omega), xs ++ [(r : Int) - 1], ?_, ?_, by rw [upd_same, List.map_append]; rfl, by rw [List.length_append, hl]; rfl, fun x hx2 => ?_⟩
    · exact fun b o hb ho => by
        rw [upd_ne (fun z => by rw [z, hD] at ho; cases ho)]
        exact (k.trans k2) b o hb ho
    · obtain ⟨c, f, kk, d, h1, h2⟩ := pa2
      exact ⟨c, f, kk, d, by rw [upd_ne hDp.symm]; exact h1, h2⟩
    · rcases List.mem_append.mp hx2 with z | z
      · exact hx x z
      · rw [List.mem_singleton.mp z]
        omega
/-- l.append(text) -/
theorem s_appS {σ : L2.St} {H : Hp} {D : Ends} {i : Nat} {q : Addr} {zs : List Str} {z : Str} {te : TE} (h : H q = some (.lst (zs.map V.str))) (hi : σ[i]? = some (some (.ref q))) (he : EvD K te σ H (.str z)) (hz : zs.length ≤ 1000) (k : ∀ H1, Ex H H1 → D.nx σ (upd H1 q (.lst ((zs ++ [z]).map V.str)))) : tDrop (tBM K "list" rAppend (tVar i) (tCons te tNil)) D σ H :=
  ⟨_, hi, .inl ⟨rfl, _, sq_of h⟩, he H (Ex.refl H) _ fun v H1 e dv => ⟨q, _, v, rfl, rfl, e _ _ h, sz_lt (by rw [List.length_map]; omega), by
    rw [dp_str dv]
    have := k H1 e
    rw [List.map_append] at this
    exact this⟩⟩
def sp_law_begun (K : PySem.W.Frag) (C : Addr) (T : List (Addr × Str)) : Sp := fun vs H Q _ => ∃ p v2 sz, ∃ n : Nat, vs = [.ref p, v2, .int (n : Int)] ∧ PenAt H p ∧ Dp K H v2 (nT sz) ∧ sz ∈ menus ∧ n ≤ 8 ∧ Tabs T H ∧
  ∀ t w H' dr a l b, Kt p H H' → Tabs T H' → PenAt H' p → DrOk sz dr → dr.length = n → DeskAt K C H' a l (b ++ [(sz, dr ++ [-1])]) → StG (b ++ [(sz, dr ++ [-1])]) → b.length ≤ 20 → Bot b → H a = none → H l = none → H' t = some (.tup [.ref a, w]) → Dp K H' w (iT dr) → Q (.ref t) H'
theorem ln_law_begun : ∀ vs H Q E, sp_law_begun K C T vs H Q E → vs.length = 3 := fun vs H Q E ⟨_, _, _, _, e, _⟩ => by rw [e]; rfl
theorem sc_law_begun : FnScope ["_law_pen_here", "_law_sizes_here", "_law_many", "_law_desk", "_law_draft", "_law_rows", "_law_place", "_law_hue", "_law_row", "_law_size"] ["_law_pen_here", "_law_sizes_here", "_law_many"] (defScope (top 101)) := ⟨rfl, rfl, rfl, by decide +kernel, rfl, by decide +kernel, by decide +kernel⟩
theorem df_law_begun (TX : Txt K mg) (Kn : KindK K mg) (Y : DeskK w K mg C pP dS) (F : LamD K base mg T "_law_begun" (top 101))  (D__law_draw : Df P w K mg base "_law_draw" 1 ["_law_pen_here", "_law_bound"] (sp_law_draw K)) (M_say : Mt P w K mg base (L2.CX P w) C "say" 11 ["self", "row"] (sp_say K mg C)) (MD : MkD P w K mg base C) (G : GotD K mg) (KF : KindF P w K mg base) : Df P w K mg base "_law_begun" 14 ["_law_pen_here", "_law_sizes_here", "_law_many"] (sp_law_begun K C T) := by
  have nd := sc_law_begun.nd
  refine df_mkL (k := 13) F sc_law_begun (fun _ _ _ _ _ _ us hl => match us, hl with | [_, _, _], _ => rfl) (ln_law_begun) (fun f cdv A outer s H vs Q E hr hB h => ?_)
  refine ⟨_, (pss_cons (ps_set (i := 3) nd rfl (by first | exact Or.inl rfl | exact Or.inr rfl) (pe_desk MD Y.mC (hr.mono (by decide)) rfl))
      (pss_cons (ps_set (i := 4) nd rfl (by first | exact Or.inl rfl | exact Or.inr rfl) (pe_callTy (r := rTp K) call_tuple_of rfl TX.b_tuple (by decide +kernel) (pa_cons (pe_lc (own := [("_law_place", 6)]) (g := gName 6) (tt := tYes) rfl nd (pi_range1 rfl TX.b_range (pa_cons (pv 2) pa_nil)) (blkOk_by (N := ["_law_pen_here", "_law_sizes_here", "_law_many", "_law_desk", "_law_draft", "_law_rows", "_law_place", "_law_hue", "_law_row", "_law_size"]) (sc := defScope (top 101)) (by decide +kernel)) (fun _ _ _ _ _ => (pg_name (i := 6) nd rfl (by first | exact Or.inl rfl | exact Or.inr rfl))) (fun _ _ _ _ _ => pts_nil) (fun _ _ _ _ _ => (pe_op op_sub (pe_d D__law_draw (hr.mono (by decide)) rfl (pa_cons (pv 0) (pa_cons (pe_op op_add pe_int (pe_op op_mul pe_int (pe_callB (r := rLn K) call_len rfl TX.b_len (by decide +kernel) (pa_cons (pv 1) pa_nil)))) pa_nil))) pe_int))) pa_nil)))
      (pss_cons (ps_set (i := 4) nd rfl (by first | exact Or.inl rfl | exact Or.inr rfl) (pe_callTy (r := rTp K) call_tuple_of rfl TX.b_tuple (by decide +kernel) (pa_cons (pe_lc (own := [("_law_hue", 7)]) (g := gName 7) (tt := tYes) rfl nd (pi_tup (pv 4)) (blkOk_by (N := ["_law_pen_here", "_law_sizes_here", "_law_many", "_law_desk", "_law_draft", "_law_rows", "_law_place", "_law_hue", "_law_row", "_law_size"]) (sc := defScope (top 101)) (by decide +kernel)) (fun _ _ _ _ _ => (pg_name (i := 7) nd rfl (by first | exact Or.inl rfl | exact Or.inr rfl))) (fun _ _ _ _ _ => pts_nil) (fun _ _ _ _ _ => (pe_ifExp (pt_cmpR op_lt (pv 7) (pe_callB (r := rLn K) call_len rfl TX.b_len (by decide +kernel) (pa_cons (pv 1) pa_nil)) (nomark _)) (pv 7) (pe_un un_neg pe_int)))) pa_nil)))
      (pss_cons (ps_set (i := 5) nd rfl (by first | exact Or.inl rfl | exact Or.inr rfl) (pe_lst (pa_cons (pe_op op_add_str pe_str (pe_join pe_str (pe_lc (own := [("_law_size", 9)]) (g := gName 9) (tt := tYes) rfl nd (pi_tup (pv 1)) (blkOk_by (N := ["_law_pen_here", "_law_sizes_here", "_law_many", "_law_desk", "_law_draft", "_law_rows", "_law_place", "_law_hue", "_law_row", "_law_size"]) (sc := defScope (top 101)) (by decide +kernel)) (fun _ _ _ _ _ => (pg_name (i := 9) nd rfl (by first | exact Or.inl rfl | exact Or.inr rfl))) (fun _ _ _ _ _ => pts_nil) (fun _ _ _ _ _ => (pe_callTy call_str_int rfl TX.b_str (by decide +kernel) (pa_cons (pv 9) pa_nil)))))) pa_nil)))
      (pss_cons (ps_if (pt_cmpR op_gt (pv 2) pe_int (nomark _)) (pss_one (ps_expr (pe_bm PySem.F.plainAttrs_list PySem.F.slot_list_append PySem.F.type_list_append mt_append (pv 5) (pa_cons (pe_op op_add_str pe_str (pe_callTy call_str_int rfl TX.b_str (by decide +kernel) (pa_cons (pv 2) pa_nil))) pa_nil)))) pss_nil)
      (pss_cons (ps_for PassesOwn.never rfl (pi_enumT rfl TX.b_enumerate (pa_cons (pv 4) pa_nil)) (pg_tup rfl (pgs_cons (pg_name (i := 6) nd rfl (by first | exact Or.inl rfl | exact Or.inr rfl)) (pgs_cons (pg_name (i := 7) nd rfl (by first | exact Or.inl rfl | exact Or.inr rfl)) pgs_nil))) (pss_one (ps_if (pt_cmpR op_ge (pv 7) pe_int (nomark _)) (pss_one (ps_expr (pe_bm PySem.F.plainAttrs_list PySem.F.slot_list_append PySem.F.type_list_append mt_append (pv 5) (pa_cons (pe_op op_add_str (pe_op op_add_str (pe_op op_add_str pe_str (pe_callTy call_str_int rfl TX.b_str (by decide +kernel) (pa_cons (pv 6) pa_nil))) pe_str) (pe_callTy call_str_int rfl TX.b_str (by decide +kernel) (pa_cons (pv 7) pa_nil))) pa_nil)))) pss_nil)))
      (pss_cons (ps_for PassesOwn.never rfl (pi_list (pe_op op_cat (pv 5) (pe_lst (pa_cons pe_str pa_nil)))) (pg_name (i := 8) nd rfl (by first | exact Or.inl rfl | exact Or.inr rfl)) (pss_one (ps_expr (pe_gotL (t := fun E => tMeth C "say" (sp_say K mg C) [] E (tVar 3) (tCons (tVar 8) tNil)) G Kn KF hB (hr.mono (by decide)) rfl (lamS_by (by rfl)) rfl (fun _ _ _ _ _ => rfl) (fun A outer s H E f c' hr2 tk2 => pe_mt Y.cls M_say hr2 (L2.passes_call tk2 (fun _ _ _ _ h => h)) (pv 3) (pa_cons (pv 8) pa_nil))))))
      (pss_one (ps_ret (pe_tup (pa_cons (pv 3) (pa_cons (pv 4) pa_nil)))))))))))), ?_⟩
  obtain ⟨p, v2, sz, n, rfl, hp, h2, hm, hn8, hT, k⟩ := h
  have ok := menu_ok hm
  have hlo := ok.lo
  have hhi := ok.hi
  -- the desk
  refine q_asgQ (ev_desk fun a l H1 e1 na nl hd1 => ?_)
  have hp1 := hp.ex e1
  have hpl : p ≠ l := fun z => by obtain ⟨c, f, m, d, h1, _⟩ := hp; rw [z, nl] at h1; cases h1
  obtain ⟨cp, fp, mp, dp, hpc, hpd⟩ := hp1
  have x2 := dpx e1 h2
  -- the drawn hues
  refine q_asgQ (cbQ (lc_wiQ (ei_r1 (K := K) (eda_cons (ed_var (.int (n : Int))) eda_nil) (by omega) H1 (Ex.refl H1) _ fun H2 e2 => ?_)))
  have hp2 : PenAt H2 p := ⟨cp, fp, mp, dp, e2 _ _ hpc, hpd⟩
  refine lc_draw (p := p) (n := ((n : Int)).toNat) (m := 1 + 2 * sz.length) hp2 (by omega) (fun _ => rfl) (fun x H3 pa3 k3 Q' hQ' => ?_) (fun D H3 xs k3 pa3 nD hD hlen hxs => ?_)
  · exact drawQ (m := 1 + 2 * sz.length) rfl (ed_add ed_int (ed_mul ed_int (ed_lenN (ed_var (dpk (e2 _ _ hpc) k3 (flat_nT sz) (dpx e2 x2)))) ⟨by decide, by decide⟩ rfl) (by omega)) pa3 (by omega) (by omega) fun r H4 k4 pa4 hr => ⟨(r : Int), 1, rfl, rfl, hQ' r H4 k4 pa4 hr⟩
  rw [Int.toNat_natCast] at hlen
  refine ⟨D, _, rfl, .inl ⟨sq_of hD, fun t ht => ?_⟩⟩
  have KP3 : Keep p H H3 := (Keep.of (e1.trans e2)).trans k3
  have e4 : Ex H3 (upd H3 t (.tup (xs.map V.int))) := Ex.new ht
  have dX : Dp K (upd H3 t (.tup (xs.map V.int))) (.ref t) (iT xs) := .tup upd_same (dpa_int xs)
  have KP4 := KP3.trans (Keep.of (p := p) e4)
  have pa4 := pa3.ex e4
  have x24 : Dp K (upd H3 t (.tup (xs.map V.int))) v2 (nT sz) := dpx e4 (dpk (e2 _ _ hpc) k3 (flat_nT sz) (dpx e2 x2))
  generalize upd H3 t (.tup (xs.map V.int)) = H4 at e4 dX KP4 pa4 x24
  obtain ⟨dr, hdr⟩ : ∃ dr : List Int, dr = xs.map fun i => if i < (sz.length : Int) then i else -1 := ⟨_, rfl⟩
  have hdl : dr.length = n := by rw [hdr, List.length_map, hlen]
  have od : DrOk sz dr := ⟨by omega, fun h hh => by
    rw [hdr] at hh
    obtain ⟨i, hi, rfl⟩ := List.mem_map.mp hh
    have := hxs i hi
    split <;> omega⟩
  refine r_asg (K := K) (d := iT dr) (ed_tuple ((en_lcI (fun i => .int (if i < (sz.length : Int) then i else -1)) (ed_var dX) (by omega) (fun _ => rfl) (fun i hi H5 e5 => ed_if (b := decide (i < (sz.length : Int))) (et_test (ed_op (ed_var (.int i)) (ed_lenN (ed_var (dpx e5 x24))) rv_lt)) (fun hb => ?_) (fun hb => ?_)) (fun _ _ => rfl)).eq ?_)) fun w4 H5 e5 d4 => ?_
  · rw [if_pos (of_decide_eq_true hb)]
    exact ed_var (.int i)
  · rw [if_neg (of_decide_eq_false hb)]
    exact ed_m1
  · rw [hdr, List.map_map]
    rfl
  -- the rows
  have hne : sz ≠ [] := fun z => by rw [z] at hlo; simp at hlo
  have hn80 := ntxt_len (l := sz) (by omega)
  have e6 : (("sizes " : Str)).length = 6 := by decide +kernel
  refine r_asgN (K := K) (ds := [.str (rowT (.setS sz))]) (en_lst (eda_cons (ed_cat2 ed_str (ed_glue (sz_nu ok) hne (ed_var (dpx e5 x24)) (fun _ => rfl) (fun _ => rfl)) (by omega) (by omega) rfl) eda_nil)) fun q H6 hq6 e6' hql => ?_
  obtain ⟨qs, hqs, hqa⟩ := hql
  have hqz : qs = [V.str (rowT (.setS sz))] := dpa_strs (ns := [rowT (.setS sz)]) hqa
  subst hqz
  have e46 := e5.trans e6'
  have KP6 := KP4.trans (Keep.of (p := p) e46)
  have pa6 := pa4.ex e46
  obtain ⟨c6, f6, m6, d6', hp6c, _⟩ := pa6
  have hqp : q ≠ p := fun z => by rw [z, hp6c] at hqs; cases hqs
  have nq : H q = none := by
    cases hHq : H q with
    | none => rfl
    | some o =>
      have := (KP4.trans (Keep.of (p := p) e5)) _ _ hqp hHq
      rw [hq6] at this
      cases this
  have hd6 : DeskAt K C H6 a l st0 := ((hd1.ex e2).other (e2 _ _ hpc) hpl.symm k3).ex (e4.trans e46)
  have T6 : Tabs T H6 := (tabs_keep ((hT.ext e1).ext e2) (e2 _ _ hpc) k3).ext (fun c o hc => e46 c o (e4 c o hc))
  have hql : q ≠ l := fun z => by
    obtain ⟨us, hus⟩ := hd1.lst
    have := k3 _ _ hpl.symm (e2 _ _ hus)
    have h5 := e5 _ _ (e4 _ _ this)
    rw [z, h5] at hq6
    cases hq6
  have d4' := dpx e6' d4
  refine q_whenJ (fun H' => Keep q H6 H' ∧ H' q = some (.lst (((headRows sz n).map rowT).map V.str))) (b := decide ((0 : Int) < (n : Int))) (et_test (K := K) (ed_op (ed_var (.int _)) ed_int rv_gt)) (fun hb H7 e7 N hN => ?_) (fun hb H7 e7 => ?_) fun H7 hJ7 => ?_
  · have hn0 : 0 < n := by have := of_decide_eq_true hb; omega
    have l5 : (("more " : Str)).length = 5 := by decide +kernel
    refine s_appS (K := K) (D := { rt := _, nx := N }) (zs := [rowT (.setS sz)]) (z := rowT (.act (.more n))) (e7 _ _ hqs) rfl (ed_cat2 ed_str (ed_fig (ed_var (.int _)) (by omega)) (by omega) (by rw [fig_len]; omega) (row_more n (by omega))) (by simp) fun H8 e8 => hN _ ⟨(Keep.of (e7.trans e8)).trans Keep.upd, ?_⟩
    rw [upd_same]
    unfold headRows
    rw [if_pos hn0]
    rfl
  · have hn0 : ¬ 0 < n := by have := of_decide_eq_false hb; omega
    refine ⟨Keep.of e7, ?_⟩
    rw [e7 _ _ hqs]
    unfold headRows
    rw [if_neg hn0]
    rfl
  obtain ⟨kq7, hq7⟩ := hJ7
  have d47 : Dp K H7 w4 (iT dr) := dpk hqs kq7 (flat_iT dr) d4'
  have hhl : (headRows sz n).length ≤ 2 := by
    unfold headRows
    split <;> simp
  refine r_forEk (T := T) (K := K) (C := C) (a := a) (l := q) (es := dr.map PyData.int) d47 rfl (tabs_keep T6 hqs kq7) ⟨_, hq7⟩ (fun i σ' H' => ∃ v6 v7, σ' = [some (.ref p), some v2, some (.int (n : Int)), some (.ref a), some w4, some (.ref q), v6, v7, none, none] ∧ Keep q H7 H' ∧ H' q = some (.lst (((headRows sz n ++ putsUp dr i).map rowT).map V.str))) ?_ (fun i σ' H' ⟨_, _, _, z, _⟩ => Kt.keep z) ?_ ?_
  · exact ⟨none, none, rfl, Keep.of (Ex.refl _), by rw [show putsUp dr 0 = [] from rfl, List.append_nil]; exact hq7⟩
  · rintro i x y σ' H' H8 hei dy ⟨v6, v7, rfl, kq, hqi⟩ e8
    rw [List.getElem?_map] at hei
    obtain ⟨xi, hxi, rfl⟩ := Option.map_eq_some_iff.mp hei
    obtain ⟨hi, _⟩ := List.getElem?_eq_some_iff.mp hxi
    have hxd : dr.getD i 0 = xi := by rw [List.getD_eq_getElem?_getD, hxi]; rfl
    rw [dp_int dy]
    have hxo := od.all xi (List.mem_of_getElem? hxi)
    have eup : putsUp dr (i + 1) = putsUp dr i ++ putRow dr i := by
      unfold putsUp
      rw [range_snoc, List.flatMap_append]
      simp
    have hpl8 : (putsUp dr i).length ≤ i := by
      unfold putsUp
      have := flatMap_le (putRow dr) 1 (List.range i) fun a _ => by unfold putRow; split <;> simp
      rw [List.length_range, Nat.mul_one] at this
      exact this
    refine s_when (b := decide (0 ≤ xi)) (et_test (K := K) (ed_op (ed_var (.int _)) ed_int rv_ge)) (fun hb H9 e9 => ?_) (fun hb H9 e9 => ?_)
    · have hge := of_decide_eq_true hb
      have hc : ((xi.toNat : Nat) : Int) = xi := by omega
      refine s_appS (K := K) (zs := (headRows sz n ++ putsUp dr i).map rowT) (z := rowT (.act (.put i xi.toNat))) (e9 _ _ (e8 _ _ hqi)) rfl (ed_rowPut (ed_var (.int _)) (ed_fig (ed_var (by rw [hc]; exact .int _)) (by omega)) (by omega) (by omega)) (by rw [List.length_map, List.length_append]; omega) fun H10 e10 => ⟨_, _, rfl, (kq.trans (Keep.of ((e8.trans e9).trans e10))).trans Keep.upd, ?_⟩
      rw [upd_same, eup]
      unfold putRow
      rw [hxd, if_pos hge, ← List.append_assoc]
      simp only [List.map_append, List.map_cons, List.map_nil]
    · have hlt := of_decide_eq_false hb
      refine ⟨_, _, rfl, kq.trans (Keep.of (e8.trans e9)), ?_⟩
      rw [eup]
      unfold putRow
      rw [hxd, if_neg hlt, List.append_nil]
      exact e9 _ _ (e8 _ _ hqi)
  rintro σ' H8 ⟨v6, v7, rfl, kq8, hq8⟩
  rw [List.length_map] at hq8
  have kq68 := kq7.trans kq8
  have d48 : Dp K H8 w4 (iT dr) := dpk hqs kq68 (flat_iT dr) d4'
  have hd8 : DeskAt K C H8 a l st0 := hd6.other hqs hql.symm kq68
  have T8 : Tabs T H8 := tabs_keep T6 hqs kq68
  have KP8 : Keep p H H8 := KP6.fresh nq kq68
  have pa8 : PenAt H8 p := (Kt.keep kq68).penAt hqp.symm ⟨c6, f6, m6, d6', hp6c, by assumption⟩
  -- the rows are said
  have hnp : (putsUp dr dr.length).length ≤ dr.length := by
    unfold putsUp
    have := flatMap_le (putRow dr) 1 (List.range dr.length) fun a _ => by unfold putRow; split <;> simp
    rw [List.length_range, Nat.mul_one] at this
    exact this
  refine q_forQ (iL_Q (en_cat (K := K) (H := H8) (σ := [some (.ref p), some v2, some (.int (n : Int)), some (.ref a), some w4, some (.ref q), v6, v7, none, none]) (es := ((headRows sz n ++ putsUp dr dr.length).map rowT).map PyData.str) (ds := [.str (rowT (.act (.more 1)))]) (ed_var (.lst hq8 (dpa_str _))) (en_lst (eda_cons (ed_str.eq (congrArg PyData.str row_one)) eda_nil)).toD (by rw [List.length_map, List.length_map, List.length_append]; show _ + 1 ≤ 100000; omega) H8 (Ex.refl H8) _ fun v H9 e9 nv => ?_))
  obtain ⟨r, rs, rfl, hr, hrl, hra⟩ := nv
  have erow : ((headRows sz n ++ putsUp dr dr.length).map rowT).map PyData.str ++ [PyData.str (rowT (.act (.more 1)))] = ((begRows sz dr).map rowT).map PyData.str := by
    unfold begRows
    rw [hdl]
    simp only [List.map_append, List.map_cons, List.map_nil]
  rw [erow] at hra
  have hrs := dpa_strs hra
  subst hrs
  obtain ⟨bN, rN, gN, lN, btN⟩ := beg_run hm od (by omega)
  have hd9 := hd8.ex e9
  obtain ⟨us9, hus9⟩ := hd8.lst
  have hrl2 : r ≠ l := fun z => by rw [z, hus9] at hr; cases hr
  refine ⟨r, rfl, ⟨_, sq_of hrl⟩, for_it (walk_list (xs := ((begRows sz dr).map rowT).map V.str)) (fun i σ' H' => ∃ v8 st, σ' = [some (.ref p), some v2, some (.int (n : Int)), some (.ref a), some w4, some (.ref q), v6, v7, v8, none] ∧ Kt l H9 H' ∧ Tabs T H' ∧ DeskAt K C H' a l st ∧ RunTo st ((begRows sz dr).drop i) (bN ++ [(sz, dr ++ [-1])])) ?_ (fun i σ' H' _ ⟨_, _, _, z, _⟩ => sq_of (z _ _ hrl2 noT_lst hrl)) ?_ ?_⟩
  · exact ⟨none, st0, rfl, Kt.refl, T8.ext e9, hd9, rN⟩
  · rintro i x σ' H' H10 hi ⟨v8, st, rfl, kt, Tt, hda, run⟩ y
    obtain ⟨rfl, hx⟩ := y
    rw [List.length_map, List.length_map] at hi
    rw [List.getElem?_map, List.getElem?_map, List.getElem?_eq_getElem hi] at hx
    have hx : x = .str (rowT ((begRows sz dr)[i]'hi)) := (Option.some.inj hx).symm
    subst hx
    rw [List.drop_eq_getElem_cons hi] at run
    cases run with
    | @cons b9 sz9 dr9 rw9 rws9 st9 g9 ok9 run9 =>
      refine s_dropQ (ev_got Kn Tt hda g9 ok9 rfl (fun H11 => ed_var (K := K) (.str _)) fun H11 k11 T11 d11 => ?_)
      exact ⟨_, _, rfl, kt.trans k11, T11, d11, run9⟩
  · rintro σ' H' ⟨v8, st, rfl, kt, Tt, hda, run⟩
    rw [List.length_map, List.length_map, List.drop_length] at run
    cases run
    have kp9 : Kt p H H' := ((Kt.keep KP8).trans (Kt.ex e9)).fresh nl kt
    refine ⟨_, rfl, _, rfl, sz_of (by simp), fun t ht => ?_⟩
    have en := Ex.new (o := .tup [.ref a, w4]) ht
    have d4f : Dp K H' w4 (iT dr) := dpt (e9 _ _ hus9) kt (flat_iT dr) (dpx e9 d48)
    exact k t w4 _ dr a l bN (kp9.trans (Kt.ex en)) (Tt.ext (fun c o hc => en c o hc)) ((kt.penAt hpl (pa8.ex e9)).ex en) od hdl (hda.ex en) gN lN btN na nl upd_same (dpx en d4f)
end
end EH

set_option Elab.async false
set_option linter.all false
set_option maxRecDepth 100000
set_option maxHeartbeats 4000000
namespace EH
open PySem PySem.Spec PyProof.Rows L2 Evl LamX
/-! ### the answers' strings can be laid -/
theorem far_small (sz : List Nat) : farN sz ≤ 20 := by
  unfold farN
  repeat' split
  all_goals omega
theorem fill_leW (sz : List Nat) (dr : List Int) : (fillM sz dr).length ≤ waysM sz dr ∨ (fillM sz dr).length = 0 := by
  unfold fillM
  split
  · exact .inr rfl
  · exact .inl (fillUp_len sz dr (blanksM dr))
theorem ansT_ok {sz : List Nat} {dr : List Int} {rw : Rw} (ok : SzOk sz) (od : DrOk sz dr) (h : AskRw rw) : PyData.strOk (ansT sz dr rw) = true := by
  have hu := dr_hu ok od
  have hk : ∀ x, PyData.strOk (kindT x) = true := fun x => by
    unfold kindT
    repeat' split
    all_goals decide +kernel
  cases rw with
  | setS _ => exact h.elim
  | act _ => exact h.elim
  | run => exact h.elim
  | back => exact h.elim
  | opn p =>
    simp only [ansT, gotR, sayR]
    by_cases hb : blankAt dr p = true
    · simp only [if_pos hb]
      exact sOk_ntxt fun n hn => by have := open_mem hn; have := ok.hi; omega
    · simp only [if_neg hb]
      exact hk _
  | ask q =>
    simp only [ansT, gotR, sayR]
    cases q with
    | draft => exact sOk_dtxt hu
    | sizes => exact sOk_ntxt (sz_nu ok).2
    | clean =>
      show PyData.strOk (if wrong sz dr then ("no" : Str) else ("yes" : Str)) = true
      split <;> decide +kernel
    | stuck =>
      show PyData.strOk (match (runM sz dr).2 with | none => noneT | some p => Str.ofString (toString ((p : Nat) : Int))) = true
      have hr := (runF_ok sz ((blanksM dr).length + 1) dr od).2.2
      cases hs : (runM sz dr).2 with
      | none => show PyData.strOk noneT = true; decide +kernel
      | some p =>
        have := hr p hs
        have := od.len
        exact sOk_int ⟨by omega, by omega⟩
    | fillings =>
      simp only [ansM]
      by_cases hw : waysM sz dr ≤ 512
      · simp only [if_pos hw]
        have a1 : (fillM sz dr).length ≤ 512 := by have := fill_leW sz dr; omega
        exact sOk_int ⟨by omega, by omega⟩
      · simp only [if_neg hw]
        exact hk _
    | first =>
      simp only [ansM]
      by_cases hw : waysM sz dr ≤ 512
      · simp only [if_pos hw]
        show PyData.strOk (match fillM sz dr with | [] => ("no" : Str) | a :: _ => dtxt a) = true
        cases hf : fillM sz dr with
        | nil => show PyData.strOk ("no" : Str) = true; decide +kernel
        | cons a r =>
          have hfl := fill_full od (s := a) (by rw [hf]; exact List.mem_cons_self)
          exact sOk_dtxt ⟨by rw [hfl.1]; exact od.len, fun x hx => by have := hfl.2 x hx; have := ok.hi; omega⟩
      · simp only [if_neg hw]
        exact hk _
    | far =>
      simp only [ansM]
      by_cases hw : prodM sz ≤ 12
      · simp only [if_pos hw]
        have := far_small sz
        exact sOk_int ⟨by omega, by omega⟩
      · simp only [if_neg hw]
        exact hk _
theorem ansL_ok {sz : List Nat} {dr : List Int} {m : Nat} (ok : SzOk sz) (od : DrOk sz dr) (hm : m ≤ 8) : ∀ z ∈ ansL sz dr m, PyData.strOk z = true := fun z hz => by
  obtain ⟨rw, h, rfl⟩ := List.mem_map.mp hz
  exact ansT_ok ok od (ans_ask hm rw h)
theorem eqv_ints : ∀ l : List Int, PyData.eqv (iT l) (iT l) = true := by
  have h : ∀ l : List Int, PyData.eqvAll (l.map PyData.int) (l.map PyData.int) = true := by
    intro l
    induction l with
    | nil => rfl
    | cons a r ih =>
      show (PyData.eqv (.int a) (.int a) && PyData.eqvAll (r.map PyData.int) (r.map PyData.int)) = true
      rw [ih]
      simp [PyData.eqv]
  exact fun l => h l
theorem dtxt_deed {d : List Int} (h : HuOk d) : (dtxt d) ≠ ("! deed" : Str) := fun e => by
  cases d with
  | nil =>
    have : (noneT == ("! deed" : Str)) = false := by decide +kernel
    rw [show dtxt [] = noneT from rfl] at e
    rw [e] at this
    simp at this
  | cons x r =>
    have hs := sg_big (h.2 x List.mem_cons_self)
    unfold dtxt at e
    rw [if_neg (by simp)] at e
    have e2 : (sT ((x :: r).map sg)).cps.toList.head? = (("! deed" : Str)).cps.toList.head? := by rw [e]
    have e3 : (("! deed" : Str)).cps.toList.head? = some 33 := by decide +kernel
    rw [e3] at e2
    have e4 : some (sg x) = some 33 := e2
    exact hs.2 (Option.some.inj e4)
end EH

set_option Elab.async false
set_option linter.all false
set_option maxRecDepth 100000
set_option maxHeartbeats 4000000
namespace EH
open PySem PySem.Spec PyProof.Rows L2 Evl LamX
/-! ### a turn of the law: what stands -/
def KN (H0 H : Hp) : Prop := ∀ b o, NoT o → H0 b = some o → H b = some o
def Fr (H0 : Hp) (l : Addr) : Prop := ∀ o, NoT o → H0 l ≠ some o
theorem KN.fr {H0 H : Hp} {l : Addr} (k : KN H0 H) (n : H l = none) : Fr H0 l := fun o ho h => by rw [k _ _ ho h] at n; cases n
theorem KN.kt {H0 H H' : Hp} {l : Addr} (k : KN H0 H) (f : Fr H0 l) (e : Kt l H H') : KN H0 H' := fun b o ho h => e b o (fun z => f o ho (by rw [← z]; exact h)) ho (k b o ho h)
theorem KN.ex {H0 H H' : Hp} (k : KN H0 H) (e : Ex H H') : KN H0 H' := fun b o ho h => e b o (k b o ho h)
theorem sqL_kn {K : PySem.W.Frag} {H0 H : Hp} {s : Addr} {xs : List V} (k : KN H0 H) (h : SqL K H0 s xs) : SqL K H s xs := by
  rcases h with (q | ⟨o, q⟩) | q
  · exact .inl (.inl (k _ _ noT_lst q))
  · exact .inl (.inr ⟨o, k _ _ (fun _ z => by cases z) q⟩)
  · exact .inr q
structure Wd (K : PySem.W.Frag) (C : Addr) (T : List (Addr × Str)) (H0 : Hp) (a1 l1 a2 l2 D : Addr) (v3 v7 : V) (sz : List Nat) (d : List Int) (fs : List Str) (H : Hp) (st1 st2 : List St2) : Prop where
  kn : KN H0 H
  tabs : Tabs T H
  d3 : Dp K H v3 (nT sz)
  d7 : Dp K H v7 (iT d)
  k1 : DeskAt K C H a1 l1 st1
  k2 : DeskAt K C H a2 l2 st2
  hD : H D = some (.lst (fs.map V.str))
  n12 : l1 ≠ l2
  nD1 : D ≠ l1
  nD2 : D ≠ l2
  f1 : Fr H0 l1
  f2 : Fr H0 l2
section
variable {P : Program} {w : World} {K : PySem.W.Frag} {mg : Str → Option Value} {base : Heap} {C pP dS : Addr} {T : List (Addr × Str)}
variable {H0 : Hp} {a1 l1 a2 l2 D : Addr} {v3 v7 : V} {sz : List Nat} {d : List Int} {fs : List Str} {H : Hp} {st1 st2 st' : List St2}
theorem Wd.ex {H' : Hp} (W : Wd K C T H0 a1 l1 a2 l2 D v3 v7 sz d fs H st1 st2) (e : Ex H H') : Wd K C T H0 a1 l1 a2 l2 D v3 v7 sz d fs H' st1 st2 :=
  ⟨W.kn.ex e, W.tabs.ext (fun c o hc => e c o hc), dpx e W.d3, dpx e W.d7, W.k1.ex e, W.k2.ex e, e _ _ W.hD, W.n12, W.nD1, W.nD2, W.f1, W.f2⟩
theorem Wd.one {H' : Hp} (W : Wd K C T H0 a1 l1 a2 l2 D v3 v7 sz d fs H st1 st2) (k : Kt l1 H H') (t : Tabs T H') (h : DeskAt K C H' a1 l1 st') : Wd K C T H0 a1 l1 a2 l2 D v3 v7 sz d fs H' st' st2 := by
  obtain ⟨xs, hx⟩ := W.k1.lst
  exact ⟨W.kn.kt W.f1 k, t, dpt hx k (flat_nT sz) W.d3, dpt hx k (flat_iT d) W.d7, h, W.k2.kt hx W.n12.symm k, k _ _ W.nD1 noT_lst W.hD, W.n12, W.nD1, W.nD2, W.f1, W.f2⟩
theorem Wd.two {H' : Hp} (W : Wd K C T H0 a1 l1 a2 l2 D v3 v7 sz d fs H st1 st2) (k : Kt l2 H H') (t : Tabs T H') (h : DeskAt K C H' a2 l2 st') : Wd K C T H0 a1 l1 a2 l2 D v3 v7 sz d fs H' st1 st' := by
  obtain ⟨xs, hx⟩ := W.k2.lst
  exact ⟨W.kn.kt W.f2 k, t, dpt hx k (flat_nT sz) W.d3, dpt hx k (flat_iT d) W.d7, W.k1.kt hx W.n12 k, h, k _ _ W.nD2 noT_lst W.hD, W.n12, W.nD1, W.nD2, W.f1, W.f2⟩
/-! ### tests that answer no -/
def No (c : TT) (σ : L2.St) (H : Hp) (J : Hp → Prop) : Prop := ∀ Q : Bool → Hp → Prop, (∀ H', J H' → Q false H') → c σ H Q
theorem No.or {c u : TT} {σ : L2.St} {H : Hp} {J J2 : Hp → Prop} (h1 : No c σ H J) (h2 : ∀ H', J H' → No u σ H' J2) : No (tOr c u) σ H J2 := fun Q k => h1 _ fun H' j => by
  show (if (false : Bool) = true then Q true H' else u σ H' Q)
  rw [if_neg (by decide)]
  exact h2 H' j Q k
theorem No.ev {c : TT} {σ : L2.St} {H : Hp} {J : Hp → Prop} (h : EvT c σ H false) (k : ∀ H', Ex H H' → J H') : No c σ H J := fun Q q => h H (Ex.refl H) _ fun H' e => q H' (k H' e)
theorem q_no {c : TT} {tu tz : TS} {σ : L2.St} {H : Hp} {D : Ends} {J : Hp → Prop} (h : No c σ H J) (k : ∀ H', J H' → tz D σ H') : tSeq (tIfS c tu tNext) tz D σ H := h _ fun H' j => by
  show (if (false : Bool) = true then tu { D with nx := tz D } σ H' else tz D σ H')
  rw [if_neg (by decide)]
  exact k H' j
theorem s_no {c : TT} {tu : TS} {σ : L2.St} {H : Hp} {D : Ends} {J : Hp → Prop} (h : No c σ H J) (k : ∀ H', J H' → D.nx σ H') : tIfS c tu tNext D σ H := h _ fun H' j => by
  show (if (false : Bool) = true then tu D σ H' else D.nx σ H')
  rw [if_neg (by decide)]
  exact k H' j
theorem no_ne {ta tb : TE} {σ : L2.St} {H : Hp} {J : Hp → Prop} (h : ∀ Q : VK, (∀ x y H', x = y → scal x y = true → J H' → Q (.bl (!decide (x = y))) H') → tOp rNe ta tb σ H Q) : No (tTest (tOp rNe ta tb)) σ H J := fun Q q => h _ fun x y H' e _ j => ⟨_, rfl, by
  rw [decide_eq_true e]
  exact q H' j⟩
/-- the answers of the one desk are told again -/
theorem no_ans1 {σ : L2.St} {b : List St2} {m i : Nat} (W : Wd K C T H0 a1 l1 a2 l2 D v3 v7 sz d fs H (b ++ [(sz, d)]) st2) (g : StG (b ++ [(sz, d)])) (hm : m ≤ 8) (hi : σ[i]? = some (some (.ref a1))) (h4 : σ[4]? = some (some (.int (m : Int)))) (h9 : σ[9]? = some (some (.ref D))) (hf : fs = ansL sz d m) :
    No (tTest (tOp (rNeD K) (tCall (sp_law_answers K mg C T) [] E0 (tCons (tVar i) (tCons (tVar 4) tNil))) (tVar 9))) σ H (fun H' => Wd K C T H0 a1 l1 a2 l2 D v3 v7 sz d fs H' (b ++ [(sz, d)]) st2) := fun Q q => by
  obtain ⟨hm', od, _⟩ := st_last g
  have so := shaped_strs (ansL_ok (menu_ok hm') od hm)
  refine ⟨_, hi, _, h4, a1, l1, b, sz, d, m, rfl, hm, W.tabs, W.k1, g, fun D2 H' kt t dsk _ hD2 => ?_⟩
  have W2 := W.one kt t dsk
  have x2 : Dp K H' (.ref D2) (.list ((ansL sz d m).map PyData.str)) := .lst hD2 (dpa_str _)
  have x9 : Dp K H' (.ref D) (.list ((ansL sz d m).map PyData.str)) := .lst (by rw [W2.hD, hf]) (dpa_str _)
  refine ⟨_, h9, _, _, x2.old, x9.old, so, so, _, rfl, ?_⟩
  rw [eqv_lstrs]
  exact q H' W2
theorem no_ans2 {σ : L2.St} {b : List St2} {m i : Nat} (W : Wd K C T H0 a1 l1 a2 l2 D v3 v7 sz d fs H st1 (b ++ [(sz, d)])) (g : StG (b ++ [(sz, d)])) (hm : m ≤ 8) (hi : σ[i]? = some (some (.ref a2))) (h4 : σ[4]? = some (some (.int (m : Int)))) (h9 : σ[9]? = some (some (.ref D))) (hf : fs = ansL sz d m) :
    No (tTest (tOp (rNeD K) (tCall (sp_law_answers K mg C T) [] E0 (tCons (tVar i) (tCons (tVar 4) tNil))) (tVar 9))) σ H (fun H' => Wd K C T H0 a1 l1 a2 l2 D v3 v7 sz d fs H' st1 (b ++ [(sz, d)])) := fun Q q => by
  obtain ⟨hm', od, _⟩ := st_last g
  have so := shaped_strs (ansL_ok (menu_ok hm') od hm)
  refine ⟨_, hi, _, h4, a2, l2, b, sz, d, m, rfl, hm, W.tabs, W.k2, g, fun D2 H' kt t dsk _ hD2 => ?_⟩
  have W2 := W.two kt t dsk
  have x2 : Dp K H' (.ref D2) (.list ((ansL sz d m).map PyData.str)) := .lst hD2 (dpa_str _)
  have x9 : Dp K H' (.ref D) (.list ((ansL sz d m).map PyData.str)) := .lst (by rw [W2.hD, hf]) (dpa_str _)
  refine ⟨_, h9, _, _, x2.old, x9.old, so, so, _, rfl, ?_⟩
  rw [eqv_lstrs]
  exact q H' W2
theorem q_parQ {ta : TA} {D : Ends} {tz : TS} {σ : L2.St} {H : Hp} {i j : Nat} (h : ta σ H fun vs H1 => ∃ v w, vs = [v, w] ∧ tz D ((σ.set i (some v)).set j (some w)) H1) : tSeq (tPar i j ta) tz D σ H := h
theorem q_asgG {te : TE} {g : TG} {D : Ends} {tz : TS} {σ : L2.St} {H : Hp} (h : te σ H fun v H1 => g v σ H1 fun σ2 H2 => tz D σ2 H2) : tSeq (tAsg te g) tz D σ H := h
theorem drawQj {σ : L2.St} {H : Hp} {p : Addr} {m j : Nat} {tb : TE} {Q : VK} (h0 : σ[j]? = some (some (.ref p))) (hb : EvD K tb σ H (.int (m : Int))) (hp : PenAt H p) (h1 : 1 ≤ m) (h2 : m ≤ 100) (k : ∀ (r : Nat) H', Keep p H H' → PenAt H' p → r < m → Q (.int (r : Int)) H') : tCall (sp_law_draw K) [] E0 (tCons (tVar j) (tCons tb tNil)) σ H Q :=
  ⟨_, h0, hb H (Ex.refl H) _ fun v H1 e dv => ⟨p, m, by rw [dp_int dv]; rfl, hp.ex e, h1, h2, fun r H' kp pa hr => k r H' ((Keep.of e).trans kp) pa hr⟩⟩
/-- back to the beginning -/
theorem back_all {σ : L2.St} {Dn : Ends} {tz : TS} {a l : Addr} {st : List St2} (Kn : KindK K mg) (J : Hp → List St2 → Prop) (jd : ∀ H st, J H st → Tabs T H ∧ DeskAt K C H a l st) (js : ∀ H st H' st', J H st → Kt l H H' → Tabs T H' → DeskAt K C H' a l st' → J H' st') (h13 : σ[13]? = some (some (.ref a))) (hlen : σ.length = 15)
    (h : J H st) (g : StG st) (bot : Bot st) (k : ∀ H', J H' st0 → tz Dn (σ.set 14 (some (.str "! deed"))) H') :
    tSeq (tWhile (tTest (tOp rNe (tVar 14) (tC (.str "! deed")))) (tAsg (tLam T (TTgot mg) fun E => tMeth C "say" (sp_say K mg C) [] E (tVar 13) (tCons (tC (.str "back")) tNil)) (gName 14))) tz Dn (σ.set 14 (some (.str "draft"))) H := by
  have h14 : ∀ x : V, (σ.set 14 (some x))[14]? = some (some x) := fun x => List.getElem?_set_self (by omega)
  have h13' : ∀ x : V, (σ.set 14 (some x))[13]? = some (some (.ref a)) := fun x => by rw [List.getElem?_set_ne (by decide)]; exact h13
  refine ⟨fun m σ' H' => ∃ (z : Str) (st : List St2), σ' = σ.set 14 (some (.str z)) ∧ J H' st ∧ ((z = "! deed" ∧ st = st0) ∨ (z ≠ "! deed" ∧ StG st ∧ Bot st ∧ m = st.length)), ⟨st.length, "draft", st, rfl, h, .inr ⟨by decide +kernel, g, bot, rfl⟩⟩, ?_⟩
  rintro m σ' H' ⟨z, st, rfl, hJ, hz⟩
  refine ⟨_, h14 _, rfl, _, rfl, ?_⟩
  rcases hz with ⟨rfl, rfl⟩ | ⟨hz, g, bot, rfl⟩
  · rw [decide_eq_true rfl]
    exact k H' hJ
  · rw [decide_eq_false (fun e => hz (by injection e))]
    refine ⟨fun σ2 H2 => ∃ m', m' < st.length ∧ ∃ (z : Str) (st : List St2), σ2 = σ.set 14 (some (.str z)) ∧ J H2 st ∧ ((z = "! deed" ∧ st = st0) ∨ (z ≠ "! deed" ∧ StG st ∧ Bot st ∧ m' = st.length)), fun _ _ q => q, ?_⟩
    obtain ⟨tb, db⟩ := jd _ _ hJ
    obtain ⟨r, hr⟩ := bot
    have hne : st ≠ [] := fun z => by rw [z] at hr; cases hr
    obtain ⟨b, ⟨sz, dr⟩, hb⟩ : ∃ b x, st = b ++ [x] := ⟨st.dropLast, st.getLast hne, (List.dropLast_concat_getLast hne).symm⟩
    subst hb
    refine s_asgQ (ev_got (b := b) (sz := sz) (dr := dr) (rw := .back) Kn tb db g True.intro (h13' _) (fun H1 => ed_str (K := K)) fun H2 k2 t2 d2 => ?_)
    show ∃ m', m' < (b ++ [(sz, dr)]).length ∧ _
    cases hbl : b.getLast? with
    | none =>
      have hbn : b = [] := List.getLast?_eq_none_iff.mp hbl
      subst hbn
      have hst : [(sz, dr)] = st0 := by
        have : ([] ++ [(sz, dr)] : List St2) = [([3, 3], [])] ++ r := hr
        have hr' : r = [] := by cases r with | nil => rfl | cons x y => simp at this
        rw [hr'] at this
        simpa [st0] using this
      have e : gotR [] sz dr .back = (("! deed" : Str), st0) := by
        simp only [gotR, sayR, List.getLast?_nil, List.nil_append]
        rw [hst]
        exact Prod.ext (by show kindT "NoDeed" = ("! deed" : Str); decide +kernel) rfl
      rw [e] at d2 ⊢
      exact ⟨0, by simp, _, st0, List.set_set .., js _ _ _ _ hJ k2 t2 d2, .inl ⟨rfl, rfl⟩⟩
    | some x =>
      have e : gotR b sz dr .back = (dtxt x.2, b) := by
        simp only [gotR, sayR, hbl]
      rw [e] at d2 ⊢
      have hx : x ∈ b := List.mem_of_getLast? hbl
      obtain ⟨gm, go, _⟩ := g.all x (List.mem_append.mpr (.inl hx))
      have hbne : b ≠ [] := fun z => by rw [z] at hx; cases hx
      refine ⟨b.length, by simp, _, b, List.set_set .., js _ _ _ _ hJ k2 t2 d2, .inr ⟨dtxt_deed (dr_hu (menu_ok gm) go), ⟨?_, fun p hp => g.all p (List.mem_append.mpr (.inl hp))⟩, ?_, rfl⟩⟩
      · have := g.len
        rw [List.length_append] at this
        omega
      · cases b with
        | nil => exact (hbne rfl).elim
        | cons y s =>
          have : y :: (s ++ [(sz, dr)]) = ([3, 3], []) :: r := hr
          injection this with e1 e2
          exact ⟨s, by rw [e1]; rfl⟩
theorem no_shown {σ : L2.St} {a l : Addr} (J : Hp → List St2 → Prop) (jd : ∀ H st, J H st → Tabs T H ∧ DeskAt K C H a l st) (js : ∀ H st H' st', J H st → Kt l H H' → Tabs T H' → DeskAt K C H' a l st' → J H' st') (h13 : σ[13]? = some (some (.ref a))) (h : J H st0) :
    No (tTest (tOp (rNeD K) (tCall (sp_law_shown K mg C T) [] E0 (tCons (tVar 13) tNil)) (tLst (tCons (tC (.str "none")) (tCons (tC (.str "3,3")) tNil))))) σ H (fun H' => J H' st0) := fun Q q => by
  obtain ⟨tb, db⟩ := jd _ _ h
  refine ⟨_, h13, a, l, [], [3, 3], [], rfl, tb, db, stG0, fun v H' k2 t2 d2 dv => ?_⟩
  have j2 := js _ _ _ _ h k2 t2 d2
  refine (en_lst (K := K) (σ := σ) (ds := ([("none" : Str), ("3,3" : Str)]).map PyData.str) (eda_cons ed_str (eda_cons ed_str eda_nil))) H' (Ex.refl H') _ fun u H3 e3 du => ?_
  have so : SeqAt.shaped (.list (([("none" : Str), ("3,3" : Str)]).map PyData.str)) = true := shaped_strs (by decide +kernel)
  have en : ntxt [3, 3] = ("3,3" : Str) := by decide +kernel
  rw [en] at dv
  have dv : Dp K H' v (.list (([("none" : Str), ("3,3" : Str)]).map PyData.str)) := dv
  obtain ⟨t3, d3⟩ := jd _ _ j2
  refine ⟨_, _, (dpx e3 dv).old, du.dp.old, so, so, _, rfl, ?_⟩
  rw [eqv_lstrs]
  exact q H3 (js _ _ _ _ j2 (Kt.ex e3) (t3.ext (fun c o hc => e3 c o hc)) (d3.ex e3))
theorem ne_left {ta tb : TE} {σ : L2.St} {H : Hp} {Q : Bool → Hp → Prop} (h : ta σ H fun x H1 => tb σ H1 fun y H2 => rNe x y H2 fun u H3 => ∃ k, u = .bl k ∧ Q k H3) : tTest (tOp rNe ta tb) σ H Q := h
theorem ne_lc {te tb tr : TE} {g : TG} {tt : TT} {vs : List Nat} {σ : L2.St} {H : Hp} {i : V} {Q : Bool → Hp → Prop} (h : tLc (iList K te) g tt tb vs σ H fun x H1 => rIxL K x i H1 fun y H2 => tr σ H2 fun z H3 => rNe y z H3 fun u H4 => ∃ k, u = .bl k ∧ Q k H4) : tTest (tOp rNe (tOp (rIxL K) (tLc (iList K te) g tt tb vs) (tC i)) tr) σ H Q := h
theorem and_no {t u : TT} {σ : L2.St} {H : Hp} {b : Bool} {J : Hp → Prop} (h : EvT t σ H b) (h1 : b = true → ∀ H', Ex H H' → No u σ H' J) (h2 : b = false → ∀ H', Ex H H' → J H') : No (tAnd t u) σ H J := fun Q q => h H (Ex.refl H) _ fun H' e => by
  show (if b = true then u σ H' Q else Q false H')
  cases b with
  | true => rw [if_pos rfl]; exact h1 rfl H' e Q q
  | false => rw [if_neg (by decide)]; exact q H' (h2 rfl H' e)
theorem ed_max2 {ta tb : TE} {σ : L2.St} {H : Hp} {i j : Int} (h1 : EvD K ta σ H (.int i)) (h2 : EvD K tb σ H (.int j)) : EvD K (tCB (fun xs H Q => ∃ i j, xs = [V.int i, V.int j] ∧ Q (V.int (if j > i then j else i)) H) (tCons ta (tCons tb tNil))) σ H (.int (if j > i then j else i)) := fun H1 e Q q =>
  h1 H1 e _ fun v H2 e2 dv => h2 H2 (e.trans e2) _ fun w H3 e3 dw => ⟨i, j, by rw [dp_int dv, dp_int dw], q _ H3 (e2.trans e3) (.int _)⟩
theorem ed_min2 {ta tb : TE} {σ : L2.St} {H : Hp} {i j : Int} (h1 : EvD K ta σ H (.int i)) (h2 : EvD K tb σ H (.int j)) : EvD K (tCB (fun xs H Q => ∃ i j, xs = [V.int i, V.int j] ∧ Q (V.int (if j < i then j else i)) H) (tCons ta (tCons tb tNil))) σ H (.int (if j < i then j else i)) := fun H1 e Q q =>
  h1 H1 e _ fun v H2 e2 dv => h2 H2 (e.trans e2) _ fun w H3 e3 dw => ⟨i, j, by rw [dp_int dv, dp_int dw], q _ H3 (e2.trans e3) (.int _)⟩
theorem lcS {J : It} {n : Nat} {G : Hp → Prop} {xs : List V} (wk : Walk J n G (YAt xs)) {te : TE} {vs : List Nat} {σ : L2.St} {H1 : Hp} {Q : VK} {j a l : Addr} {st : Nat → List St2} (f : Nat → Str) (hn : n ≤ 1000) (hw : ∀ x, wipe ((wipe σ vs).set j (some x)) vs = wipe σ vs)
    (hT : Tabs T H1) (hd : DeskAt K C H1 a l (st 0)) (hG : ∀ H', Kt l H1 H' → G H')
    (hb : ∀ (i : Nat) x H', xs[i]? = some x → i < n → Kt l H1 H' → Tabs T H' → DeskAt K C H' a l (st i) → ∀ Q' : VK, (∀ H'', Kt l H' H'' → Tabs T H'' → DeskAt K C H'' a l (st (i + 1)) → Q' (.str (f i)) H'') → te ((wipe σ vs).set j (some x)) H' Q')
    (hq : ∀ D H', Kt l H1 H' → Tabs T H' → DeskAt K C H' a l (st n) → H1 D = none → H' D = some (.lst ((List.range n).map fun i => V.str (f i))) → Q (.ref D) H') : LcW J (gName j) tYes te vs σ H1 Q := fun D hD => by
  obtain ⟨us, hus⟩ := hd.lst
  have hDl : D ≠ l := fun z => by rw [z, hus] at hD; cases hD
  have put : ∀ (H' : Hp) (ys zs : List V) (s : List St2), Kt l H1 H' → Tabs T H' → DeskAt K C H' a l s → H' D = some (.lst ys) → Kt l H1 (upd H' D (.lst zs)) ∧ Tabs T (upd H' D (.lst zs)) ∧ DeskAt K C (upd H' D (.lst zs)) a l s := fun H' ys zs s k t d h =>
    ⟨fun b o hb ho h1 => by
      rw [upd_ne (fun z => by rw [z, hD] at h1; cases h1)]
      exact k b o hb ho h1, tabs_keep t h Keep.upd, d.other h hDl.symm Keep.upd⟩
  refine lc_it wk (fun i H' => Kt l H1 H' ∧ Tabs T H' ∧ DeskAt K C H' a l (st i) ∧ H' D = some (.lst ((List.range i).map fun i => V.str (f i)))) ?_ (fun i H' _ p => hG H' p.1) (fun i x H' H2 hi p y => ?_) (fun H' p => hq D H' p.1 p.2.1 p.2.2.1 hD p.2.2.2)
  · exact ⟨Kt.ex (Ex.new hD), hT.ext (fun c o hc => Ex.new hD c o hc), hd.ex (Ex.new hD), upd_same⟩
  · obtain ⟨rfl, hx⟩ := y
    obtain ⟨k, t, d, hacc⟩ := p
    refine ⟨hw x, ?_⟩
    show te _ _ _
    refine hb i x H2 hx hi k t d _ fun H3 k3 t3 d3 => ?_
    have h3 := k3 D _ hDl noT_lst hacc
    obtain ⟨q1, q2, q3⟩ := put H3 _ ((List.range i).map (fun i => V.str (f i)) ++ [.str (f i)]) _ (k.trans k3) t3 d3 h3
    refine ⟨_, h3, sz_lt (by rw [List.length_map, List.length_range]; omega), q1, q2, q3, ?_⟩
    rw [upd_same, List.range_succ, List.map_append]
    rfl
end
/-- the law's own function object -/
structure LamF (K : PySem.W.Frag) (base : Heap) (mg : Str → Option Value) (T : List (Addr × Str)) (x : Str) (st : Stmt) (f : Addr) (fd : FuncData) : Prop where
  ex : ∃ (oc : Value) (od : Option Addr) (kV doc pm : Value) (an : Option Addr) (c P : Addr) (ct : Value) (osl : Array (Option Value)),
    fd = PySem.W.fnOf x x (defArgs st) (defBody st) (defScope st) .none kV doc pm an (.ref c) ct ∧ K.lookup f = some ⟨oc, od, .func fd, osl⟩ ∧ PySem.W.codeIn K (.ref c) x = true ∧ PySem.W.keepIn K (.ref f) = true ∧ mg x = some (.ref f) ∧ TabB base mg c P ∧ (P, lamQ x) ∈ T ∧ ∀ p ∈ T, p.1 = P → p.2 = lamQ x
theorem LamF.lam {K : PySem.W.Frag} {base : Heap} {mg : Str → Option Value} {T : List (Addr × Str)} {x : Str} {st : Stmt} {f : Addr} {fd : FuncData} (F : LamF K base mg T x st f fd) : LamD K base mg T x st := by
  obtain ⟨oc, od, kV, doc, pm, an, c, P, ct, osl, rfl, lk, h⟩ := F.ex
  exact ⟨⟨f, oc, od, kV, doc, pm, an, c, P, ct, osl, lk, h⟩⟩
theorem fn_mkL {P : Program} {w : World} {K : PySem.W.Frag} {mg : Str → Option Value} {base : Heap} {T : List (Addr × Str)} {x : Str} {st : Stmt} {N ps : List Str} {k : Nat} {sp : Sp} {f : Addr} {fd : FuncData} (F : LamF K base mg T x st f fd) (S : FnScope N ps (defScope st))
    (len : ∀ vs H Q E, sp vs H Q E → vs.length = ps.length)
    (hbody : ∀ (f : Addr) (cdv : Value) (A : Around) (outer : List Env) (s : Shared) (H : Hp) (vs : List V) (Q : VK) (E : XK), Room k (A.deeper (envOfC x (defScope st) s.heap.objs.size f cdv)) → TabH (cxOf CX0 P w K mg base N x (defScope st) f cdv A outer s H E).nox T → sp vs H Q E →
      ∃ t, PSs (cxOf CX0 P w K mg base N x (defScope st) f cdv A outer s H E).nox (defBody st) t ∧ t { nx := fun _ H' => Q .non H', rt := Q } (start N vs) H) : FnOk P w K mg base CX0 (k + 1) f fd ps sp := by
  obtain ⟨oc, od, kV, doc, pm, an, c, Pt, ct, osl, rfl, lk, hcd, hk, hm, TB, h1, h2⟩ := F.ex
  refine fn_of lk hcd S len fun A outer s H vs Q E hr h => ?_
  obtain ⟨t, g1, g2⟩ := hbody f (.ref c) A outer s H vs Q E hr ⟨c, Pt, TB, rfl, h1, h2⟩ h
  exact ⟨t, g1.nox, g2⟩
end EH

set_option Elab.async false
set_option linter.all false
set_option maxRecDepth 100000
set_option maxHeartbeats 4000000
namespace EH
open PySem PySem.Spec PyProof.Rows L2 Evl LamX
section
variable {P : Program} {w : World} {K : PySem.W.Frag} {mg : Str → Option Value} {base : Heap} {C pP dS : Addr} {T : List (Addr × Str)}
def sp_law (K : PySem.W.Frag) (T : List (Addr × Str)) : Sp := fun vs H Q _ => ∃ (s : Addr) (ns : List Int), vs = [.ref s] ∧ SqL K H s (ns.map V.int) ∧ Tabs T H ∧ ∀ H', Q (.bl true) H'
theorem ln_law : ∀ vs H Q E, sp_law K T vs H Q E → vs.length = 1 := fun vs H Q E ⟨_, _, e, _⟩ => by rw [e]; rfl
theorem sc_law : FnScope ["_law_script", "_law_k", "_law_pen_here", "_law_sizes_here", "_law_many", "_law_at", "_law_desk", "_law_draft", "_law_other", "_law_first", "_law_word", "_law_row", "_law_once", "_law_one", "_law_said"] ["_law_script"] (defScope (top 106)) := ⟨rfl, rfl, rfl, by decide +kernel, rfl, by decide +kernel, by decide +kernel⟩
theorem df_law (TX : Txt K mg) (Kn : KindK K mg) (Y : DeskK w K mg C pP dS) {f0 : Addr} {fd0 : FuncData} (F : LamF K base mg T "law" (top 106) f0 fd0)  (D__law_pen : Df P w K mg base "_law_pen" 1 ["_law_cell"] (sp_law_pen K)) (D__law_cell_at : Df P w K mg base "_law_cell_at" 1 ["_law_script", "_law_k"] (sp_law_cell_at K)) (D__law_draw : Df P w K mg base "_law_draw" 1 ["_law_pen_here", "_law_bound"] (sp_law_draw K)) (D__law_sizes : Df P w K mg base "_law_sizes" 2 ["_law_pen_here"] (sp_law_sizes K)) (D__law_begun : Df P w K mg base "_law_begun" 14 ["_law_pen_here", "_law_sizes_here", "_law_many"] (sp_law_begun K C T)) (D__law_another : Df P w K mg base "_law_another" 13 ["_law_desk"] (sp_law_another K C T)) (D__law_answers : Df P w K mg base "_law_answers" 14 ["_law_desk", "_law_many"] (sp_law_answers K mg C T)) (D__law_numbers_text : Df P w K mg base "_law_numbers_text" 1 ["_law_some"] (sp_law_numbers_text K)) (D__law_hues_text : Df P w K mg base "_law_hues_text" 1 ["_law_some"] (sp_law_hues_text K)) (D_draft_read : Df P w K mg base "draft_read" 2 ["text"] (sp_draft_read K)) (D_sizes_read : Df P w K mg base "sizes_read" 4 ["text"] (sp_sizes_read K)) (D__law_filled : Df P w K mg base "_law_filled" 14 ["_law_desk", "_law_draft"] (sp_law_filled K mg C T)) (D__law_shown : Df P w K mg base "_law_shown" 14 ["_law_desk"] (sp_law_shown K mg C T)) (M_say : Mt P w K mg base (L2.CX P w) C "say" 11 ["self", "row"] (sp_say K mg C)) (G : GotD K mg) (KF : KindF P w K mg base) : FnOk P w K mg base CX0 15 f0 fd0 ["_law_script"] (sp_law K T) := by
  have nd := sc_law.nd
  refine fn_mkL (k := 14) F sc_law (ln_law) (fun f cdv A outer s H vs Q E hr hB h => ?_)
  refine ⟨_, (pss_cons (ps_for PassesOwn.never rfl (pi_range1 rfl TX.b_range (pa_cons (pe_callB (call_max2 rfl) rfl TX.b_max (by decide +kernel) (pa_cons pe_int (pa_cons (pe_callB (call_min2 rfl) rfl TX.b_min (by decide +kernel) (pa_cons (pe_callB (r := rLn K) call_len rfl TX.b_len (by decide +kernel) (pa_cons (pv 0) pa_nil)) (pa_cons pe_int pa_nil))) pa_nil))) pa_nil)) (pg_name (i := 1) nd rfl (by first | exact Or.inl rfl | exact Or.inr rfl)) (pss_cons (ps_set (i := 2) nd rfl (by first | exact Or.inl rfl | exact Or.inr rfl) (pe_d D__law_pen (hr.mono (by decide)) rfl (pa_cons (pe_d D__law_cell_at (hr.mono (by decide)) rfl (pa_cons (pv 0) (pa_cons (pv 1) pa_nil))) pa_nil)))
      (pss_cons (ps_par (i := 3) (j := 4) rfl nd rfl rfl (by decide) rfl rfl (pa_cons (pe_d D__law_sizes (hr.mono (by decide)) rfl (pa_cons (pv 2) pa_nil)) (pa_cons (pe_d D__law_draw (hr.mono (by decide)) rfl (pa_cons (pv 2) (pa_cons pe_int pa_nil))) pa_nil)) rfl)
      (pss_cons (ps_set (i := 5) nd rfl (by first | exact Or.inl rfl | exact Or.inr rfl) (pe_d D__law_draw (hr.mono (by decide)) rfl (pa_cons (pv 2) (pa_cons (pe_op op_add (pv 4) pe_int) pa_nil))))
      (pss_cons (ps_asg (pe_d D__law_begun (hr.mono (by decide)) rfl (pa_cons (pv 2) (pa_cons (pv 3) (pa_cons (pv 4) pa_nil)))) (pg_tup rfl (pgs_cons (pg_name (i := 6) nd rfl (by first | exact Or.inl rfl | exact Or.inr rfl)) (pgs_cons (pg_name (i := 7) nd rfl (by first | exact Or.inl rfl | exact Or.inr rfl)) pgs_nil))))
      (pss_cons (ps_set (i := 7) nd rfl (by first | exact Or.inl rfl | exact Or.inr rfl) (pe_op (r := rCatA K) op_catA (pv 7) (pe_tup (pa_cons (pe_un un_neg pe_int) pa_nil))))
      (pss_cons (ps_set (i := 8) nd rfl (by first | exact Or.inl rfl | exact Or.inr rfl) (pe_d D__law_another (hr.mono (by decide)) rfl (pa_cons (pv 6) pa_nil)))
      (pss_cons (ps_set (i := 9) nd rfl (by first | exact Or.inl rfl | exact Or.inr rfl) (pe_d D__law_answers (hr.mono (by decide)) rfl (pa_cons (pv 6) (pa_cons (pv 4) pa_nil))))
      (pss_cons (ps_if (PW.pt (pw_or (pt_cmpR (r := rNeD K) (op_neD hr.units) (pe_d D__law_answers (hr.mono (by decide)) rfl (pa_cons (pv 8) (pa_cons (pv 4) pa_nil))) (pv 9) (nomark _)) (pw_or1 (pt_cmpR (r := rNeD K) (op_neD hr.units) (pe_slice (r := rSlL K) sl_list (pv 9) po_none (po_some pe_int)) (pe_lst (pa_cons (pe_d D__law_hues_text (hr.mono (by decide)) rfl (pa_cons (pv 7) pa_nil)) (pa_cons (pe_d D__law_numbers_text (hr.mono (by decide)) rfl (pa_cons (pv 3) pa_nil)) pa_nil))) (nomark _))))) (pss_one (ps_ret pe_bl)) pss_nil)
      (pss_cons (ps_if (PW.pt (pw_or (pt_cmpR (r := rNeD K) (op_neD hr.units) (pe_d D_sizes_read (hr.mono (by decide)) rfl (pa_cons (pe_ix (r := rIxL K) ix_list (pv 9) pe_int (fun _ _ => rfl)) pa_nil)) (pv 3) (nomark _)) (pw_or1 (pt_cmpR (r := rNeD K) (op_neD hr.units) (pe_d D_draft_read (hr.mono (by decide)) rfl (pa_cons (pe_ix (r := rIxL K) ix_list (pv 9) pe_int (fun _ _ => rfl)) pa_nil)) (pv 7) (nomark _))))) (pss_one (ps_ret pe_bl)) pss_nil)
      (pss_cons (ps_set (i := 10) nd rfl (by first | exact Or.inl rfl | exact Or.inr rfl) (pe_lst (pa_cons (pe_op op_add_str (pe_op op_add_str pe_str (pe_callTy call_str_int rfl TX.b_str (by decide +kernel) (pa_cons (pv 5) pa_nil))) pe_str) (pa_cons (pe_op op_add_str pe_str (pe_callTy call_str_int rfl TX.b_str (by decide +kernel) (pa_cons (pv 5) pa_nil))) pa_nil))))
      (pss_cons (ps_if (PW.pt (pw_and (pt_cmpR op_eq (pe_ix (r := rIxT K) ix_tup (pv 7) (pv 5) (fun _ _ => rfl)) (pe_un un_neg pe_int) (nomark _)) (pw_and1 (pt_cmpR op_ne (pe_ix (r := rIxL K) ix_list (pe_lc (own := [("_law_row", 11)]) (g := gName 11) (tt := tYes) rfl nd (pi_list (pv 10)) (blkOk_by (N := ["_law_script", "_law_k", "_law_pen_here", "_law_sizes_here", "_law_many", "_law_at", "_law_desk", "_law_draft", "_law_other", "_law_first", "_law_word", "_law_row", "_law_once", "_law_one", "_law_said"]) (sc := defScope (top 106)) (by decide +kernel)) (fun _ _ _ _ _ => (pg_name (i := 11) nd rfl (by first | exact Or.inl rfl | exact Or.inr rfl))) (fun _ _ _ _ _ => pts_nil) (fun _ _ _ _ _ => (by refine pe_gotM (T := T) (t := fun E => tMeth C "say" (sp_say K mg C) [] E (tVar 6) (tCons (tVar 11) tNil)) mg ?_ ?_ ?_ ?_ ?_ ?_ ?_ ?_ ?_ ?_ ?_; rfl; exact G; exact Kn; exact KF; exact hB.blk; exact hr.mono (by decide); rfl; exact lamS_by (by rfl); rfl; exact (fun _ _ _ _ _ => rfl); exact (fun A outer s H E f c' hr2 tk2 => pe_mt Y.cls M_say hr2 (L2.passes_call tk2 (fun _ _ _ _ h => h)) (pv 6) (pa_cons (pv 11) pa_nil))))) pe_int (fun _ _ => rfl)) (pe_ix (r := rIxL K) ix_list (pv 9) pe_int (fun _ _ => rfl)) (nomark _))))) (pss_one (ps_ret pe_bl)) pss_nil)
      (pss_cons (ps_if (pt_cmpR (r := rNeD K) (op_neD hr.units) (pe_d D__law_answers (hr.mono (by decide)) rfl (pa_cons (pv 6) (pa_cons (pv 4) pa_nil))) (pv 9) (nomark _)) (pss_one (ps_ret pe_bl)) pss_nil)
      (pss_cons (ps_set (i := 12) nd rfl (by first | exact Or.inl rfl | exact Or.inr rfl) (pe_mt Y.cls M_say (hr.mono (by decide)) passN (pv 6) (pa_cons pe_str pa_nil)))
      (pss_cons (ps_if (PW.pt (pw_or (pt_cmpR op_ne (pe_mt Y.cls M_say (hr.mono (by decide)) passN (pv 6) (pa_cons pe_str pa_nil)) (pv 12) (nomark _)) (pw_or1 (pt_cmpR op_ne (pe_mt Y.cls M_say (hr.mono (by decide)) passN (pv 6) (pa_cons pe_str pa_nil)) (pe_ix (r := rIxL K) ix_list (pv 9) pe_int (fun _ _ => rfl)) (nomark _))))) (pss_one (ps_ret pe_bl)) pss_nil)
      (pss_cons (ps_if (pt_not (pt_val (pe_d D__law_filled (hr.mono (by decide)) rfl (pa_cons (pv 8) (pa_cons (pv 7) pa_nil))))) (pss_one (ps_ret pe_bl)) pss_nil)
      (pss_one (ps_for PassesOwn.never rfl (pi_tup (pe_tup (pa_cons (pv 6) (pa_cons (pv 8) pa_nil)))) (pg_name (i := 13) nd rfl (by first | exact Or.inl rfl | exact Or.inr rfl)) (pss_cons (ps_set (i := 14) nd rfl (by first | exact Or.inl rfl | exact Or.inr rfl) pe_str)
      (pss_cons (ps_while PassesOwn.never (pt_cmpR op_ne (pv 14) pe_str (nomark _)) (pss_one (ps_set (i := 14) nd rfl (by first | exact Or.inl rfl | exact Or.inr rfl) (pe_gotL (t := fun E => tMeth C "say" (sp_say K mg C) [] E (tVar 13) (tCons (tC (.str "back")) tNil)) G Kn KF hB (hr.mono (by decide)) rfl (lamS_by (by rfl)) rfl (fun _ _ _ _ _ => rfl) (fun A outer s H E f c' hr2 tk2 => pe_mt Y.cls M_say hr2 (L2.passes_call tk2 (fun _ _ _ _ h => h)) (pv 13) (pa_cons pe_str pa_nil))))))
      (pss_one (ps_if (pt_cmpR (r := rNeD K) (op_neD hr.units) (pe_d D__law_shown (hr.mono (by decide)) rfl (pa_cons (pv 13) pa_nil)) (pe_lst (pa_cons pe_str (pa_cons pe_str pa_nil))) (nomark _)) (pss_one (ps_ret pe_bl)) pss_nil))))))))))))))))))))))
      (pss_one (ps_ret pe_bl))), ?_⟩
  obtain ⟨s, ns, rfl, hs, hT, k⟩ := h
  have kk : ∀ (σ' : L2.St) (H' : Hp), tRet (tC (.bl true)) { nx := fun _ H' => Q .non H', rt := Q } σ' H' := fun σ' H' => k H'
  have hnn : ∃ n : Nat, (if ((if (3 : Int) < ((ns.map V.int).length : Int) then (3 : Int) else ((ns.map V.int).length : Int))) > 1 then (if (3 : Int) < ((ns.map V.int).length : Int) then (3 : Int) else ((ns.map V.int).length : Int)) else 1) = (n : Int) ∧ n ≤ 3 := by
    refine ⟨_, Int.toNat_of_nonneg ?_ |>.symm, ?_⟩ <;> (repeat' split) <;> omega
  obtain ⟨n, hn, hn3⟩ := hnn
  refine r_forR (lo := 0) (n := n) (fun H1 e1 R hR => ?_) (fun i σ' H' => (∃ x1 x2 x3 x4 x5 x6 x7 x8 x9 x10 x11 x12 x13 x14, σ' = [some (.ref s), x1, x2, x3, x4, x5, x6, x7, x8, x9, x10, x11, x12, x13, x14]) ∧ SqL K H' s (ns.map V.int) ∧ Tabs T H') (fun H1 e1 => ?_) (fun i σ' H0 hi p => ?_) (fun σ' H' _ => kk σ' H')
  · exact ei_r1 (K := K) (eda_cons ((ed_max2 ed_int (ed_min2 (ed_lenSq hs) ed_int)).eq (congrArg PyData.int hn)) eda_nil) (by omega) H1 e1 R hR
  · exact ⟨⟨_, _, _, _, _, _, _, _, _, _, _, _, _, _, rfl⟩, ex_l e1 hs, hT.ext (fun c o hc => e1 c o hc)⟩
  obtain ⟨⟨x1, x2, x3, x4, x5, x6, x7, x8, x9, x10, x11, x12, x13, x14, rfl⟩, hs0, T0⟩ := p
  rw [Int.zero_add]
  clear hT hs
  -- the pen
  refine q_asgQ ⟨_, rfl, _, rfl, s, ns, i, rfl, hs0, fun H1 e1 => ⟨[.int (ns.getD i 0)], _, .cons (.int _) .nil, ⟨_, rfl, rfl⟩, fun v H2 e2 nv => ?_⟩⟩
  obtain ⟨p, ps, rfl, np, hp, dp⟩ := nv
  have pa2 := pen_new hp dp
  have e02 := e1.trans e2
  have np0 : H0 p = none := by
    cases hh : H0 p with
    | none => rfl
    | some o => rw [e1 _ _ hh] at np; cases np
  -- sizes, many
  refine q_parQ ⟨_, rfl, p, rfl, pa2, fun sz v3 H3 hm k3 pa3 d3 => ⟨_, rfl, p, 9, rfl, pa3, by decide, by decide, fun n H4 k4 pa4 hn9 => ⟨_, _, rfl, ?_⟩⟩⟩
  have ok := menu_ok hm
  obtain ⟨c3, f3, m3, g3, hp3, _⟩ := pa3
  have d34 : Dp K H4 v3 (nT sz) := dpk hp3 k4 (flat_nT sz) d3
  -- at
  refine q_asgQ (drawQj (m := n + 1) rfl ((ed_add (ed_var (.int (n : Int))) ed_int rfl).eq (by rfl)) pa4 (by omega) (by omega) fun at_ H5 k5 pa5 hat => ?_)
  obtain ⟨c4, f4, m4, g4, hp4, _⟩ := pa4
  have d35 : Dp K H5 v3 (nT sz) := dpk hp4 k5 (flat_nT sz) d34
  have F5 : ∀ b o, H0 b = some o → H5 b = some o := fun b o h => by
    have nb : b ≠ p := fun z => by rw [z, np0] at h; cases h
    exact k5 b o nb (k4 b o nb (k3 b o nb (e02 b o h)))
  have T5 : Tabs T H5 := T0.ext F5
  have kn5 : KN H0 H5 := fun b o _ h => F5 b o h
  have frp : Fr H0 p := fun o _ h => by rw [np0] at h; cases h
  -- begun
  refine q_asgG ⟨_, rfl, _, rfl, _, rfl, p, v3, sz, n, rfl, pa5, d35, hm, by omega, T5, fun t w7 H6 dr a1 l1 b1 kt6 T6 pa6 od hdl hk1 g1 hb1 bot1 na1 nl1 ht dw => ?_⟩
  refine ⟨t, _, rfl, st_of ht, rfl, _, _, rfl, _, _, rfl, rfl, ?_⟩
  obtain ⟨c5, f5, m5, g5, hp5, _⟩ := pa5
  have kn6 : KN H0 H6 := kn5.kt frp kt6
  have fr1 : Fr H0 l1 := kn5.fr nl1
  have d36 : Dp K H6 v3 (nT sz) := dpt hp5 kt6 (flat_nT sz) d35
  -- draft + (-1,)
  refine r_asg (K := K) (d := iT (dr ++ [-1])) ((ed_op (ed_var dw) (en_tup (eda_cons ed_m1 eda_nil)) (rv_catT (by rw [List.length_map]; simp; omega))).eq ?_) fun v7 H7 e7 d7 => ?_
  · show PyData.tuple _ = PyData.tuple _
    rw [List.map_append]
    rfl
  obtain ⟨dd, hdd⟩ : ∃ dd, dd = dr ++ [(-1 : Int)] := ⟨_, rfl⟩
  rw [← hdd] at hk1 g1 d7
  have hddl : dd.length = n + 1 := by rw [hdd, List.length_append, hdl]; rfl
  have od2 : DrOk sz dd := (st_last g1).2.1
  have hu := dr_hu ok od2
  have T7 := T6.ext (fun c o hc => e7 c o hc)
  have kn7 := kn6.ex e7
  have hk17 := hk1.ex e7
  obtain ⟨us1, hus1⟩ := hk17.lst
  -- another
  refine q_asgQ ⟨_, rfl, a1, l1, b1, sz, dd, rfl, T7, hk17, g1, by omega, fun a2 l2 b2 H8 kt8 T8 hk18 hk28 g2 hb2 bot2 nl2 na2 => ?_⟩
  have fr2 : Fr H0 l2 := kn7.fr nl2
  have kn8 := kn7.kt fr1 kt8
  have n12 : l1 ≠ l2 := fun z => by rw [z, nl2] at hus1; cases hus1
  have d38 : Dp K H8 v3 (nT sz) := dpt hus1 kt8 (flat_nT sz) (dpx e7 d36)
  have d78 : Dp K H8 v7 (iT dd) := dpt hus1 kt8 (flat_iT dd) d7
  obtain ⟨us18, hus18⟩ := hk18.lst
  obtain ⟨us28, hus28⟩ := hk28.lst
  -- the answers
  refine q_asgQ ⟨_, rfl, _, rfl, a1, l1, b1, sz, dd, n, rfl, by omega, T8, hk18, g1, fun D H9 kt9 T9 hk19 nD hD => ?_⟩
  have W9 : Wd K C T H0 a1 l1 a2 l2 D v3 v7 sz dd (ansL sz dd n) H9 (b1 ++ [(sz, dd)]) (b2 ++ [(sz, dd)]) :=
    ⟨kn8.kt fr1 kt9, T9, dpt hus18 kt9 (flat_nT sz) d38, dpt hus18 kt9 (flat_iT dd) d78, hk19, hk28.kt hus18 n12.symm kt9, hD, n12, (fun z => by rw [z, hus18] at nD; cases nD), (fun z => by rw [z, hus28] at nD; cases nD), fr1, fr2⟩
  have hal : (ansL sz dd n).length = 7 + (n + 1) := by
    unfold ansL ansRows
    rw [List.length_map, List.length_append, List.length_map, List.length_range]
    rfl
  clear hk18 hk28 hk19 d38 d78 d7 d34 d35 d36 dw
  -- other's answers; first[:2]
  refine q_no (J := fun H' => Wd K C T H0 a1 l1 a2 l2 D v3 v7 sz dd (ansL sz dd n) H' (b1 ++ [(sz, dd)]) (b2 ++ [(sz, dd)])) (No.or (no_ans2 W9 g2 (by omega) rfl rfl rfl rfl) fun H10 W10 => ?_) fun H10 W10 => ?_
  · have x9 : Dp K H10 (.ref D) (.list ((ansL sz dd n).map PyData.str)) := .lst W10.hD (dpa_str _)
    have hc : cutD ((ansL sz dd n).map PyData.str) none (some 2) = ([dtxt dd, ntxt sz]).map PyData.str := by
      have h := cut_to (p := 2) (l := (ansL sz dd n).map PyData.str) (by rw [List.length_map, hal]; omega)
      exact h.trans rfl
    have so : SeqAt.shaped (.list (([dtxt dd, ntxt sz]).map PyData.str)) = true := shaped_strs fun z hz => by
      simp only [List.mem_cons, List.mem_nil_iff, or_false] at hz
      rcases hz with rfl | rfl
      · exact sOk_dtxt hu
      · exact sOk_ntxt (sz_nu ok).2
    refine No.ev (et_test (K := K) ((ed_op ((en_slL (ed_var x9) eo_no (eo_at (K := K) ed_int)).toD.eq (congrArg PyData.list hc)) (en_lst (ds := ([dtxt dd, ntxt sz]).map PyData.str) (eda_cons (en_call (eda_cons (ed_var W10.d7) eda_nil) ⟨dd, rfl, hu, rfl⟩).toD (eda_cons (en_call (eda_cons (ed_var W10.d3) eda_nil) ⟨sz, rfl, sz_nu ok, rfl⟩).toD eda_nil))).toD (rv_neD so so)).eq ?_)) fun H' e => W10.ex e
    rw [eqv_lstrs]
    rfl
  -- what is read
  refine q_no (J := fun H' => Wd K C T H0 a1 l1 a2 l2 D v3 v7 sz dd (ansL sz dd n) H' (b1 ++ [(sz, dd)]) (b2 ++ [(sz, dd)])) (No.or (No.ev ?_ fun H' e => W10.ex e) fun H11 W11 => No.ev ?_ fun H' e => W11.ex e) fun H11 W11 => ?_
  · have x9 : Dp K H10 (.ref D) (.list ((ansL sz dd n).map PyData.str)) := .lst W10.hD (dpa_str _)
    refine et_test (K := K) ((ed_op (en_call (eda_cons (ed_op (ed_var x9) ed_int (rv_ixL (d := .str (ntxt sz)) (atI_nat (j := 1) rfl))) eda_nil) ⟨sz, rfl, ok, rfl⟩).toD (ed_var W10.d3) (rv_neD (shaped_nT sz) (shaped_nT sz))).eq ?_)
    rw [show PyData.eqv (nT sz) (nT sz) = true from eqv_ints (toI sz)]
    rfl
  · have x9 : Dp K H11 (.ref D) (.list ((ansL sz dd n).map PyData.str)) := .lst W11.hD (dpa_str _)
    refine et_test (K := K) ((ed_op (en_call (eda_cons (ed_op (ed_var x9) ed_int (rv_ixL (d := .str (dtxt dd)) (atI_nat (j := 0) rfl))) eda_nil) ⟨dd, rfl, hu, rfl⟩).toD (ed_var W11.d7) (rv_neD (shaped_iT dd) (shaped_iT dd))).eq ?_)
    rw [eqv_ints]
    rfl
  -- the two rows
  have p4 : (("put " : Str)).length = 4 := by decide +kernel
  have p2 : ((" 0" : Str)).length = 2 := by decide +kernel
  have p6 : (("clear " : Str)).length = 6 := by decide +kernel
  refine r_asgN (K := K) (ds := ([rowT (.act (.put at_ 0)), rowT (.act (.clear at_))]).map PyData.str) (en_lst (eda_cons ?_ (eda_cons ?_ eda_nil))) fun q H12 hq e12 hql => ?_
  · exact ed_cat2 (ed_cat2 ed_str (ed_fig (ed_var (.int _)) (by omega)) (by omega) (by rw [fig_len]; omega) rfl) ed_str (by rw [str_app_len, fig_len]; omega) (by omega) (row_put0 at_ (by omega))
  · exact ed_cat2 ed_str (ed_fig (ed_var (.int _)) (by omega)) (by omega) (by rw [fig_len]; omega) (row_clear at_ (by omega))
  obtain ⟨qs, hqs, hqa⟩ := hql
  have hqz := dpa_strs hqa
  subst hqz
  have W12 := W11.ex e12
  refine q_no (J := fun H' => ∃ b, b.length ≤ 60 ∧ Bot b ∧ StG (b ++ [(sz, dd)]) ∧ Wd K C T H0 a1 l1 a2 l2 D v3 v7 sz dd (ansL sz dd n) H' (b ++ [(sz, dd)]) (b2 ++ [(sz, dd)])) ?_ fun H13 ⟨b13, l13, bt13, g13, W13⟩ => ?_
  · have hix : (dd.map PyData.int)[at_]? = some (.int (dd.getD at_ 0)) := by
      rw [List.getElem?_map, List.getElem?_eq_getElem (by omega), List.getD_eq_getElem?_getD, List.getElem?_eq_getElem (by omega)]
      rfl
    refine and_no (b := decide (dd.getD at_ 0 = -1)) (et_test (K := K) (ed_op (ed_op (ed_var W12.d7) (ed_var (.int _)) (rv_ixT (atI_nat (j := at_) hix))) ed_m1 rv_eqI)) (fun hb H' e => ?_) (fun hb H' e => ⟨b1, by omega, bot1, g1, W12.ex e⟩)
    have hbl := of_decide_eq_true hb
    have W13 := W12.ex e
    have hqs2 := e _ _ hqs
    obtain ⟨us, hus⟩ := hk17.lst
    have hql : q ≠ l1 := fun z => by
      obtain ⟨ys, hys⟩ := W11.k1.lst
      rw [z, hys] at hq
      cases hq
    have oset := dr_set od2 at_ (x := 0) ⟨by omega, by have := ok.lo; omega⟩
    have hl2 : (b1 ++ [(sz, dd)]).length ≤ 499 := by rw [List.length_append]; show b1.length + 1 ≤ 499; omega
    have g1' : StG ((b1 ++ [(sz, dd)]) ++ [(sz, dd.set at_ 0)]) := g1.snoc hl2 hm oset (by rw [List.length_set]; omega)
    have hl3 : ((b1 ++ [(sz, dd)]) ++ [(sz, dd.set at_ 0)]).length ≤ 499 := by rw [List.length_append, List.length_append]; show b1.length + 1 + 1 ≤ 499; omega
    have g1'' : StG (((b1 ++ [(sz, dd)]) ++ [(sz, dd.set at_ 0)]) ++ [(sz, dd)]) := g1'.snoc hl3 hm od2 (by omega)
    intro Q qq
    refine ne_lc (lc_listQ ⟨_, rfl, _, rfl, ⟨_, sq_of hqs2⟩, lcS (T := T) (C := C) (K := K) (a := a1) (l := l1) (n := 2) (st := fun i => if i = 0 then b1 ++ [(sz, dd)] else if i = 1 then (b1 ++ [(sz, dd)]) ++ [(sz, dd.set at_ 0)] else ((b1 ++ [(sz, dd)]) ++ [(sz, dd.set at_ 0)]) ++ [(sz, dd)]) (show Walk (Itl K q) 2 (fun H => SqL K H q [V.str (rowT (.act (.put at_ 0))), V.str (rowT (.act (.clear at_)))]) (YAt [V.str (rowT (.act (.put at_ 0))), V.str (rowT (.act (.clear at_)))]) from walk_list (xs := [V.str (rowT (.act (.put at_ 0))), V.str (rowT (.act (.clear at_)))])) (fun i => if i = 0 then dtxt (dd.set at_ 0) else dtxt dd) (by decide) (fun _ => rfl) W13.tabs W13.k1 (fun H'' k'' => sq_of (k'' _ _ hql noT_lst hqs2)) (fun i x H'' hx hi k'' t'' d'' Q' hQ' => ?_) (fun D2 H'' k'' t'' d'' nD2 hD2 => ?_)⟩)
    · match i, hi with
      | 0, _ =>
        have hx : x = .str (rowT (.act (.put at_ 0))) := (Option.some.inj hx).symm
        subst hx
        refine ev_got (b := b1) (sz := sz) (dr := dd) (rw := .act (.put at_ 0)) Kn t'' d'' g1 ⟨by omega, hbl, by have := ok.lo; omega⟩ rfl (fun H3 => ed_var (K := K) (.str _)) fun H3 k3 t3 d3 => ?_
        exact hQ' H3 k3 t3 d3
      | 1, _ =>
        have hx : x = .str (rowT (.act (.clear at_))) := (Option.some.inj hx).symm
        subst hx
        have hpc : (dd.set at_ 0).set at_ (-1) = dd := put_clear hbl (by omega)
        have hg : gotR (b1 ++ [(sz, dd)]) sz (dd.set at_ 0) (.act (.clear at_)) = (dtxt dd, ((b1 ++ [(sz, dd)]) ++ [(sz, dd.set at_ 0)]) ++ [(sz, dd)]) := by
          show (dtxt ((dd.set at_ 0).set at_ (-1)), ((b1 ++ [(sz, dd)]) ++ [(sz, dd.set at_ 0)]) ++ [(sz, (dd.set at_ 0).set at_ (-1))]) = _
          rw [hpc]
        refine ev_got (b := b1 ++ [(sz, dd)]) (sz := sz) (dr := dd.set at_ 0) (rw := .act (.clear at_)) Kn t'' d'' g1' ⟨by rw [List.length_set]; omega, by rw [set_same (by omega)]; decide⟩ rfl (fun H3 => ed_var (K := K) (.str _)) fun H3 k3 t3 d3 => ?_
        rw [hg] at d3 ⊢
        exact hQ' H3 k3 t3 d3
    · have W14 := W13.one k'' t'' d''
      exact ⟨D2, _, 1, _, rfl, rfl, sq_of hD2, rfl, _, rfl, D, (ansL sz dd n).map V.str, 0, .str (ansT sz dd (.ask .draft)), rfl, rfl, sq_of W14.hD, atI_nat (j := 0) rfl, rfl, false, (congrArg V.bl (by show (!decide (V.str (dtxt dd) = V.str (ansT sz dd (.ask .draft)))) = false; rw [decide_eq_true (show V.str (dtxt dd) = V.str (ansT sz dd (.ask .draft)) from rfl)]; rfl)), qq H'' ⟨_, by rw [List.length_append, List.length_append]; show b1.length + 1 + 1 ≤ 60; omega, bot1.app.app, g1'', W14⟩⟩
  -- answers again
  refine q_no (no_ans1 W13 g13 (by omega) rfl rfl rfl rfl) fun H14 W14 => ?_
  -- run
  refine q_asgQ (ev_say (b := b13) (sz := sz) (dr := dd) (rw := .run) W14.tabs W14.k1 g13 True.intro rfl (ed_str (K := K)) rfl fun H15 k15 T15 hk15 => ?_)
  have W15 := W14.one (Kt.keep k15) T15 hk15
  have hr := runF_ok sz ((blanksM dd).length + 1) dd od2
  have ra := run_again sz dd
  obtain ⟨rr, hrr⟩ : ∃ rr, rr = (runM sz dd).1 := ⟨_, rfl⟩
  rw [← hrr] at W15
  have ra' : runM sz rr = runM sz dd := by rw [hrr]; exact ra
  have ora : DrOk sz rr := by rw [hrr]; exact hr.1
  have lra : rr.length = dd.length := by rw [hrr]; exact hr.2.1
  have g15 : StG ((b13 ++ [(sz, dd)]) ++ [(sz, rr)]) := g13.snoc (by rw [List.length_append]; show b13.length + 1 ≤ 499; omega) hm ora (by omega)
  have g16 : StG (((b13 ++ [(sz, dd)]) ++ [(sz, rr)]) ++ [(sz, rr)]) := g15.snoc (by rw [List.length_append, List.length_append]; show b13.length + 1 + 1 ≤ 499; omega) hm ora (by omega)
  rw [← hrr]
  refine q_no (J := fun H' => Wd K C T H0 a1 l1 a2 l2 D v3 v7 sz dd (ansL sz dd n) H' (((b13 ++ [(sz, dd)]) ++ [(sz, rr)]) ++ [(sz, rr)]) (b2 ++ [(sz, dd)])) (No.or (J := fun H' => Wd K C T H0 a1 l1 a2 l2 D v3 v7 sz dd (ansL sz dd n) H' (((b13 ++ [(sz, dd)]) ++ [(sz, rr)]) ++ [(sz, rr)]) (b2 ++ [(sz, dd)])) (fun Q q => ?_) (fun H16 W16 Q q => ?_)) (fun H17 W17 => ?_)
  · refine ne_left (ev_say (b := b13 ++ [(sz, dd)]) (sz := sz) (dr := rr) (rw := .run) W15.tabs W15.k1 g15 True.intro rfl (ed_str (K := K)) rfl fun H16 k16 T16 hk16 => ?_)
    have e1r : (runM sz rr).1 = rr := by rw [ra', ← hrr]
    rw [e1r] at hk16 ⊢
    exact ⟨_, rfl, rfl, false, (congrArg V.bl (by rw [decide_eq_true rfl]; rfl)), q H16 (W15.one (Kt.keep k16) T16 hk16)⟩
  · refine ne_left (ev_say (b := (b13 ++ [(sz, dd)]) ++ [(sz, rr)]) (sz := sz) (dr := rr) (rw := .ask .stuck) W16.tabs W16.k1 g16 True.intro rfl (ed_str (K := K)) rfl fun H17 k17 T17 hk17 => ?_)
    have W17 := W16.one (Kt.keep k17) T17 hk17
    refine ⟨_, rfl, D, (ansL sz dd n).map V.str, 3, .str (ansT sz dd (.ask .stuck)), rfl, rfl, sq_of W17.hD, atI_nat (j := 3) rfl, rfl, false, (congrArg V.bl ?_), q H17 W17⟩
    rw [decide_eq_true]
    · rfl
    · show V.str (match (runM sz rr).2 with | none => noneT | some p => Str.ofString (toString ((p : Nat) : Int))) = V.str (match (runM sz dd).2 with | none => noneT | some p => Str.ofString (toString ((p : Nat) : Int)))
      rw [ra']
  -- filled
  refine q_no (J := fun H' => ∃ s2, StG s2 ∧ Bot s2 ∧ Wd K C T H0 a1 l1 a2 l2 D v3 v7 sz dd (ansL sz dd n) H' (((b13 ++ [(sz, dd)]) ++ [(sz, rr)]) ++ [(sz, rr)]) s2) (fun Q q => ?_) (fun H18 ⟨s2, gs2, bs2, W18⟩ => ?_)
  · exact ⟨_, rfl, _, rfl, a2, l2, b2, sz, dd, v7, rfl, W17.tabs, W17.k2, g2, by omega, bot2.app, W17.d7, by omega, fun st H' kt t dsk gst bst => ⟨true, rfl, q H' ⟨st, gst, bst, W17.two kt t dsk⟩⟩⟩
  -- back
  refine ⟨_, rfl, _, rfl, sz_of (by simp), fun tp htp => ⟨tp, rfl, ⟨_, st_of upd_same⟩, for_tup (xs := [.ref a1, .ref a2]) (fun j σ' H' => (∃ x13 x14, σ' = [some (.ref s), some (.int (i : Int)), some (.ref p), some v3, some (.int (n : Int)), some (.int (at_ : Int)), some (.ref a1), some v7, some (.ref a2), some (.ref D), some (.ref q), x11, some (.str (dtxt rr)), x13, x14]) ∧ H' tp = some (.tup [.ref a1, .ref a2]) ∧ ∃ s1 s2, StG s1 ∧ Bot s1 ∧ StG s2 ∧ Bot s2 ∧ Wd K C T H0 a1 l1 a2 l2 D v3 v7 sz dd (ansL sz dd n) H' s1 s2) ?_ (fun j σ' H' _ h => st_of h.2.1) (fun j x σ' H' hx h => ?_) (fun σ' H' h => ?_)⟩⟩
  · exact ⟨⟨_, _, rfl⟩, upd_same, _, s2, g16, bt13.app.app.app, gs2, bs2, W18.ex (Ex.new htp)⟩
  · obtain ⟨⟨x13', x14', rfl⟩, htp', s1, s2', gs1, bs1, gs2', bs2', Wj⟩ := h
    have notl : ∀ (l : Addr) (H : Hp) xs, H tp = some (.tup [.ref a1, .ref a2]) → H l = some (.lst xs) → tp ≠ l := fun l H xs h1 h2 z => by rw [z, h2] at h1; cases h1
    match j, hx with
    | 0, hx =>
      obtain rfl := Option.some.inj hx
      refine q_asgQ (back_all (σ := [some (.ref s), some (.int (i : Int)), some (.ref p), some v3, some (.int (n : Int)), some (.int (at_ : Int)), some (.ref a1), some v7, some (.ref a2), some (.ref D), some (.ref q), x11, some (.str (dtxt rr)), some (.ref a1), x14']) (a := a1) (l := l1) (st := s1) (C := C) (T := T) (K := K) (mg := mg) Kn (fun H st => H tp = some (.tup [.ref a1, .ref a2]) ∧ Wd K C T H0 a1 l1 a2 l2 D v3 v7 sz dd (ansL sz dd n) H st s2') (fun H st h => ⟨h.2.tabs, h.2.k1⟩) (fun H st H' st' h k t d => ⟨?_, h.2.one k t d⟩) rfl rfl ⟨htp', Wj⟩ gs1 bs1 fun H2 j2 => s_no (no_shown (a := a1) (l := l1) (fun H st => H tp = some (.tup [.ref a1, .ref a2]) ∧ Wd K C T H0 a1 l1 a2 l2 D v3 v7 sz dd (ansL sz dd n) H st s2') (fun H st h => ⟨h.2.tabs, h.2.k1⟩) (fun H st H' st' h k t d => ⟨?_, h.2.one k t d⟩) rfl j2) fun H3 j3 => ⟨⟨_, _, rfl⟩, j3.1, _, s2', stG0, ⟨[], rfl⟩, gs2', bs2', j3.2⟩)
      · obtain ⟨ys, hys⟩ := h.2.k1.lst
        exact k _ _ (notl l1 _ _ h.1 hys) noT_tup h.1
      · obtain ⟨ys, hys⟩ := h.2.k1.lst
        exact k _ _ (notl l1 _ _ h.1 hys) noT_tup h.1
    | 1, hx =>
      obtain rfl := Option.some.inj hx
      refine q_asgQ (back_all (σ := [some (.ref s), some (.int (i : Int)), some (.ref p), some v3, some (.int (n : Int)), some (.int (at_ : Int)), some (.ref a1), some v7, some (.ref a2), some (.ref D), some (.ref q), x11, some (.str (dtxt rr)), some (.ref a2), x14']) (a := a2) (l := l2) (st := s2') (C := C) (T := T) (K := K) (mg := mg) Kn (fun H st => H tp = some (.tup [.ref a1, .ref a2]) ∧ Wd K C T H0 a1 l1 a2 l2 D v3 v7 sz dd (ansL sz dd n) H s1 st) (fun H st h => ⟨h.2.tabs, h.2.k2⟩) (fun H st H' st' h k t d => ⟨?_, h.2.two k t d⟩) rfl rfl ⟨htp', Wj⟩ gs2' bs2' fun H2 j2 => s_no (no_shown (a := a2) (l := l2) (fun H st => H tp = some (.tup [.ref a1, .ref a2]) ∧ Wd K C T H0 a1 l1 a2 l2 D v3 v7 sz dd (ansL sz dd n) H s1 st) (fun H st h => ⟨h.2.tabs, h.2.k2⟩) (fun H st H' st' h k t d => ⟨?_, h.2.two k t d⟩) rfl j2) fun H3 j3 => ⟨⟨_, _, rfl⟩, j3.1, s1, _, gs1, bs1, stG0, ⟨[], rfl⟩, j3.2⟩)
      · obtain ⟨ys, hys⟩ := h.2.k2.lst
        exact k _ _ (notl l2 _ _ h.1 hys) noT_tup h.1
      · obtain ⟨ys, hys⟩ := h.2.k2.lst
        exact k _ _ (notl l2 _ _ h.1 hys) noT_tup h.1
    | j + 2, hx => cases hx
  · obtain ⟨⟨x13', x14', rfl⟩, _, s1, s2', _, _, _, _, Wj⟩ := h
    exact ⟨⟨_, _, _, _, _, _, _, _, _, _, _, _, _, _, rfl⟩, sqL_kn Wj.kn hs0, Wj.tabs⟩
end
end EH

set_option Elab.async false
set_option linter.all false
set_option maxRecDepth 100000
set_option maxHeartbeats 4000000
namespace EH
open PySem PySem.Spec PyProof.Rows L2 Evl LamX
abbrev tabL (K : PySem.W.Frag) : List (Addr × Str) := tf.map fun p => ((He.cT K p).2, lamQ p.1)
section
variable {P : Program} {w : World} {K : PySem.W.Frag} {mg : Str → Option Value} {base h : Heap}
theorem oex_of {C : Addr} (q : oexB K C = true) : ∃ nm q N bs bm sn sub ab col dd k0 k1 k2 k3 k5, K.lookup C = some (excClassObj nm q C N bs bm true sn sub ab col dd k0 k1 k2 k3 k5 "ValueError.__new__") ∧ PySem.HandSPX.refsVE bm = true := by
  unfold oexB at q
  split at q
  · rename_i t dd cd sl hlk
    have et := of_decide_eq_true (He.ba q).1
    subst et
    have q' := (He.ba q).2
    clear q
    split at q'
    · rename_i C' bm k0 k1 k2 k3 n k5 hmro hslots
      have q := q'
      obtain ⟨q1, q⟩ := He.ba q
      obtain ⟨q2, q⟩ := He.ba q
      obtain ⟨q3, q⟩ := He.ba q
      obtain ⟨q4, q5⟩ := He.ba q
      have e1 : C' = C := beq_iff_eq.mp q1
      have e2 : n = "ValueError.__new__" := beq_iff_eq.mp q2
      have e3 : cd.hasDel = false := by simpa using q3
      subst e1 e2
      obtain ⟨nm, bs, mro, ns, qn, hasD, sn, sub, ab, col, hdel⟩ := cd
      have e3 : hdel = false := e3
      have e4 : hasD = true := q4
      have e5 : mro = .ref C' :: bm := hmro
      subst e3 e4 e5
      obtain ⟨sll⟩ := sl
      have e6 : sll = [k0, k1, k2, k3, some (.builtin "ValueError.__new__"), k5] := hslots
      subst e6
      exact ⟨nm, qn, ns, bs, bm, sn, sub, ab, col, dd, k0, k1, k2, k3, k5, hlk, q5⟩
    · cases q'
  · cases q
theorem hue_of (hm : mg "HueError" = some (.ref (He.ga K "HueError"))) (q : hueB K = true) : HueT K mg := by
  obtain ⟨q1, q⟩ := He.ba q
  obtain ⟨q2, q3⟩ := He.ba q
  refine ⟨⟨_, hm, of_decide_eq_true q1, q2, ?_⟩⟩
  split at q3
  · rename_i s hs
    rw [hs, of_decide_eq_true q3]
  · cases q3
theorem great_of {fd : FuncData} (hm : mg "TooGreat" = some (.ref (He.ga K "TooGreat"))) (F : FunD K "__init__" "TooGreat.__init__" (defArgs (inClass (top 17) 0)) (defBody (inClass (top 17) 0)) (defScope (inClass (top 17) 0)) [] [] (He.fAd K ("TooGreat", some "__init__")) fd) (n1 : NoAttr K (He.ga K "TooGreat") "many") (n2 : NoAttr K (He.ga K "TooGreat") "most") (q : greatB K = true) : GreatC K mg := by
  obtain ⟨q1, q⟩ := He.ba q
  obtain ⟨q2, q⟩ := He.ba q
  obtain ⟨q3, q⟩ := He.ba q
  obtain ⟨q4, q⟩ := He.ba q
  obtain ⟨q5, q⟩ := He.ba q
  obtain ⟨q6, q7⟩ := He.ba q
  exact ⟨⟨_, _, fd, hm, ⟨oex_of q1, of_decide_eq_true q2, of_decide_eq_true q3, of_decide_eq_true q4, q5⟩, of_decide_eq_true q6, of_decide_eq_true q7, F, n1, n2⟩⟩
theorem erb_of {C : Addr} (q : errB K C = true) : ErB K C := by
  obtain ⟨q1, q⟩ := He.ba q
  obtain ⟨q2, q⟩ := He.ba q
  obtain ⟨q3, q⟩ := He.ba q
  obtain ⟨q4, q⟩ := He.ba q
  obtain ⟨q5, q⟩ := He.ba q
  obtain ⟨q6, q⟩ := He.ba q
  obtain ⟨q7, q8⟩ := He.ba q
  exact ⟨q1, of_decide_eq_true q2, Option.isSome_iff_exists.mp q3, of_decide_eq_true q4, of_decide_eq_true q5, of_decide_eq_true q6, of_decide_eq_true q7, of_decide_eq_true q8⟩
theorem lamF_of {x : Str} {st : Stmt} {fd : FuncData} {T : List (Addr × Str)} (F : FunD K x x (defArgs st) (defBody st) (defScope st) [] [] (He.ga K x) fd) (hm : mg x = some (.ref (He.ga K x))) (TB : TabB base mg (He.cT K (x, none)).1 (He.cT K (x, none)).2) (h1 : ((He.cT K (x, none)).2, lamQ x) ∈ T) (h2 : ∀ p ∈ T, p.1 = (He.cT K (x, none)).2 → p.2 = lamQ x) : LamF K base mg T x st (He.ga K x) fd := by
  obtain ⟨oc, od, dV, kV, doc, pm, an, cdv, ct, osl, e, lk, hcd, hD, _⟩ := F.ex
  obtain ⟨cc, hcc⟩ := He.codeIn_ref hcd
  subst hcc
  have hdV : dV = .none := by
    rcases hD with ⟨_, z⟩ | ⟨z, _⟩
    · exact z
    · exact (z rfl).elim
  subst hdV
  have hc1 : (He.cT K (x, none)).1 = cc := He.codeOf_eq (p := (x, none)) lk (by rw [e])
  rw [hc1] at TB
  exact ⟨⟨oc, od, kV, doc, pm, an, cc, _, ct, osl, e, lk, hcd, F.kp, hm, TB, h1, h2⟩⟩
theorem cad_of {x : Str} {C : Addr} (e : mg x = some (.ref C)) : cAd mg x = C := by
  unfold cAd
  rw [e]
theorem ex_all (q : ex K = true) : He.tupB K "PLAIN" (plainW.map He.Dv.str) = true ∧ He.valsB K (He.ga K "SORTS") sortW = true ∧ (∀ z ∈ noneW, PySem.W.nsIn K (He.ga K "SORTS") z = some none) ∧ hueB K = true ∧ greatB K = true ∧ (∀ nm ∈ errs, kitY K nm = true) ∧ ∀ p ∈ tf, ∀ r ∈ tf, (He.cT K p).2 = (He.cT K r).2 → p.1 = r.1 := by
  obtain ⟨qa, qb⟩ := He.ba q
  obtain ⟨q1, qa⟩ := He.ba qa
  obtain ⟨q2, qa⟩ := He.ba qa
  obtain ⟨q3, q7⟩ := He.ba qa
  obtain ⟨q4, qb⟩ := He.ba qb
  obtain ⟨q5, q6⟩ := He.ba qb
  refine ⟨q1, q2, fun z hz => He.eqO_ok (List.all_eq_true.mp q3 z hz), q4, q5, fun nm hn => List.all_eq_true.mp q6 nm hn, fun p hp r hr e => ?_⟩
  have z := List.all_eq_true.mp (List.all_eq_true.mp q7 p hp) r hr
  rw [e, beq_self_eq_true] at z
  exact beq_iff_eq.mp (by simpa using z)
theorem glK (X : K.In h) (G0 : h.Ns mainGlobals mg) (c : He.SaysX fa fn tsD tf ex w h K) : ∀ x ∈ kinds, mg x = some (.ref (He.ga K x)) := fun x hx => by
  have hx : x = "NoStrip" ∨ x = "NoSizes" ∨ x = "NoNumber" ∨ x = "NoPlace" ∨ x = "NoHue" ∨ x = "NoDraft" ∨ x = "NoPaper" ∨ x = "NoFit" ∨ x = "TooGreat" ∨ x = "NoLot" ∨ x = "NoRing" ∨ x = "NoRound" ∨ x = "NoStand" ∨ x = "NoText" ∨ x = "NoDeed" ∨ x = "NoLine" := by simpa [kinds] using hx
  rcases hx with rfl | rfl | rfl | rfl | rfl | rfl | rfl | rfl | rfl | rfl | rfl | rfl | rfl | rfl | rfl | rfl
  · exact He.glo_ok X G0 (c.t.d.fact 88 (f := .glo "NoStrip") rfl)
  · exact He.glo_ok X G0 (c.t.d.fact 89 (f := .glo "NoSizes") rfl)
  · exact He.glo_ok X G0 (c.t.d.fact 90 (f := .glo "NoNumber") rfl)
  · exact He.glo_ok X G0 (c.t.d.fact 91 (f := .glo "NoPlace") rfl)
  · exact He.glo_ok X G0 (c.t.d.fact 92 (f := .glo "NoHue") rfl)
  · exact He.glo_ok X G0 (c.t.d.fact 93 (f := .glo "NoDraft") rfl)
  · exact He.glo_ok X G0 (c.t.d.fact 94 (f := .glo "NoPaper") rfl)
  · exact He.glo_ok X G0 (c.t.d.fact 95 (f := .glo "NoFit") rfl)
  · exact He.glo_ok X G0 (c.t.d.fact 96 (f := .glo "TooGreat") rfl)
  · exact He.glo_ok X G0 (c.t.d.fact 97 (f := .glo "NoLot") rfl)
  · exact He.glo_ok X G0 (c.t.d.fact 98 (f := .glo "NoRing") rfl)
  · exact He.glo_ok X G0 (c.t.d.fact 99 (f := .glo "NoRound") rfl)
  · exact He.glo_ok X G0 (c.t.d.fact 100 (f := .glo "NoStand") rfl)
  · exact He.glo_ok X G0 (c.t.d.fact 101 (f := .glo "NoText") rfl)
  · exact He.glo_ok X G0 (c.t.d.fact 102 (f := .glo "NoDeed") rfl)
  · exact He.glo_ok X G0 (c.t.d.fact 103 (f := .glo "NoLine") rfl)
theorem kindK_of (X : K.In h) (G0 : h.Ns mainGlobals mg) (c : He.SaysX fa fn tsD tf ex w h K) : KindK K mg := by
  have g := glK X G0 c
  have gh := He.glo_ok X G0 (c.t.d.fact 104 (f := .glo "HueError") rfl)
  have eh := cad_of gh
  obtain ⟨_, _, _, _, _, hk, _⟩ := ex_all c.more
  refine ⟨He.free_ok X G0 (c.t.d.fact 13 (f := .free "ValueError") rfl), fun x hx => by rw [cad_of (g x hx)]; exact g x hx, by rw [eh]; exact gh, fun nm hn => ?_⟩
  have hnk : nm ∈ kinds := by
    have z : ∀ y ∈ errs, y ∈ kinds := by decide +kernel
    exact z nm hn
  obtain ⟨k1, k2⟩ := He.ba (hk nm hn)
  obtain ⟨k2, k3⟩ := He.ba k2
  rw [cad_of (g nm hnk), eh]
  refine ⟨erb_of k1, fun x hx => by rw [cad_of (g x hx)]; exact of_decide_eq_true (List.all_eq_true.mp k2 x hx), of_decide_eq_true k3, ?_⟩
  have hc : nm = "NoPlace" ∨ nm = "NoDeed" ∨ nm = "TooGreat" := by simpa [errs] using hn
  rcases hc with rfl | rfl | rfl
  · exact He.exm_ok (c.t.d.fact 121 (f := .exm "NoPlace" "HueError" true) rfl)
  · exact He.exm_ok (c.t.d.fact 122 (f := .exm "NoDeed" "HueError" true) rfl)
  · exact He.exm_ok (c.t.d.fact 123 (f := .exm "TooGreat" "HueError" true) rfl)
theorem txt_of (X : K.In h) (G0 : h.Ns mainGlobals mg) (c : He.SaysX fa fn tsD tf ex w h K) : Txt K mg := ⟨He.free_ok X G0 (c.t.d.fact 0 (f := .free "int") rfl), He.free_ok X G0 (c.t.d.fact 1 (f := .free "bool") rfl), He.free_ok X G0 (c.t.d.fact 2 (f := .free "tuple") rfl), He.free_ok X G0 (c.t.d.fact 3 (f := .free "str") rfl), He.free_ok X G0 (c.t.d.fact 4 (f := .free "len") rfl), He.free_ok X G0 (c.t.d.fact 5 (f := .free "range") rfl), He.free_ok X G0 (c.t.d.fact 6 (f := .free "all") rfl), He.free_ok X G0 (c.t.d.fact 7 (f := .free "isinstance") rfl), He.free_ok X G0 (c.t.d.fact 8 (f := .free "sorted") rfl), He.free_ok X G0 (c.t.d.fact 9 (f := .free "enumerate") rfl), He.free_ok X G0 (c.t.d.fact 10 (f := .free "max") rfl), He.free_ok X G0 (c.t.d.fact 11 (f := .free "min") rfl), He.free_ok X G0 (c.t.d.fact 12 (f := .free "zip") rfl), He.int_ok X G0 (c.t.d.fact 14 (f := .int "MOST_PLACES" (40)) rfl), He.int_ok X G0 (c.t.d.fact 15 (f := .int "HUES" (4)) rfl), He.int_ok X G0 (c.t.d.fact 16 (f := .int "LEAST_SIZE" (2)) rfl), He.int_ok X G0 (c.t.d.fact 17 (f := .int "MOST_SIZE" (8)) rfl), He.int_ok X G0 (c.t.d.fact 18 (f := .int "BLANK" (-1)) rfl), He.int_ok X G0 (c.t.d.fact 19 (f := .int "MOST_PRODUCT" (12)) rfl), He.int_ok X G0 (c.t.d.fact 20 (f := .int "MOST_WAYS" (512)) rfl), He.int_ok X G0 (c.t.d.fact 21 (f := .int "MOST_PLACE" (39)) rfl), He.int_ok X G0 (c.t.d.fact 22 (f := .int "MOST_FIGURES" (30)) rfl), He.str_ok X G0 (c.t.d.fact 23 (f := .str "FIGURES" "0123456789") rfl), He.str_ok X G0 (c.t.d.fact 24 (f := .str "SIGNS" "0123.") rfl), He.str_ok X G0 (c.t.d.fact 25 (f := .str "EMPTY" "none") rfl)⟩
theorem ec_of {x : Str} (hm : mg x = some (.ref (He.ga K x))) (q : (He.Fa.exc x).ok K = true) : EcT K mg x := by
  obtain ⟨q1, q2, q3, q4⟩ := He.exc_ok q
  exact ⟨⟨_, He.veBase, hm, q2, q1, PySem.F.excBase_ValueError, q3, q4⟩⟩
theorem deskK_of (X : K.In h) (G0 : h.Ns mainGlobals mg) (c : He.SaysX fa fn tsD tf ex w h K) : DeskK w K mg (He.ga K "Desk") (He.ga K "PLAIN") (He.ga K "SORTS") := by
  obtain ⟨e1, e2, e3, _⟩ := ex_all c.more
  have v : ∀ q ∈ sortW, ∃ u, PySem.W.nsIn K (He.ga K "SORTS") q.1 = some (some u) ∧ RelV (q.2.v K) u := fun q hq => He.valsB_ok e2 hq
  refine ⟨He.cls_ok (c.t.d.fact 108 (f := .cls "Desk") rfl), He.noat_ok (c.t.d.fact 109 (f := .noat "Desk" "kept") rfl), He.glo_ok X G0 (c.t.d.fact 105 (f := .glo "Desk") rfl), He.glo_ok X G0 (c.t.d.fact 106 (f := .glo "PLAIN") rfl), ?_, He.glo_ok X G0 (c.t.d.fact 107 (f := .glo "SORTS") rfl), c.t.tab 0 rfl, fun z hz => ?_, ?_, fun z hz => e3 z hz⟩
  · have hT := He.tupB_ok e1 (fun _ => none)
    rcases hT with (z | ⟨o, z⟩) | z
    · cases z
    · cases z
    · exact z
  · simp only [List.mem_cons, List.mem_nil_iff, or_false] at hz
    rcases hz with rfl | rfl | rfl
    · obtain ⟨u, hu, r⟩ := v ("more", .int 1) (by simp [sortW])
      obtain ⟨t, rfl⟩ := r
      exact ⟨t, hu⟩
    · obtain ⟨u, hu, r⟩ := v ("clear", .int 1) (by simp [sortW])
      obtain ⟨t, rfl⟩ := r
      exact ⟨t, hu⟩
    · obtain ⟨u, hu, r⟩ := v ("open", .int 1) (by simp [sortW])
      obtain ⟨t, rfl⟩ := r
      exact ⟨t, hu⟩
  · obtain ⟨u, hu, r⟩ := v ("put", .int 2) (by simp [sortW])
    obtain ⟨t, rfl⟩ := r
    exact ⟨t, hu⟩
theorem facts (X : K.In h) (G0 : h.Ns mainGlobals mg) (c : He.SaysX fa fn tsD tf ex w h K) : ∃ fd : FuncData, (∀ (s : Shared) (u : Value), BindsTo s fd ⟨[u], []⟩ [("_law_script", u)]) ∧ ∀ base : Heap, K.In base → base.Ns mainGlobals mg → (∀ p ∈ tf.map (He.cT K), TabB base mg p.1 p.2) → FnOk P w K mg base CX0 15 (He.ga K "law") fd ["_law_script"] (sp_law K (tabL K)) := by
  obtain ⟨fdL, FL⟩ := c.t.d.def_ 61 (d := d_law) rfl
  have bL := FunD.bindsA (ps := ["_law_script"]) FL fun _ _ _ _ _ _ us hl => match us, hl with | [_], _ => rfl
  refine ⟨fdL, fun s u => bL s [u] rfl, fun base XB GB TB => ?_⟩
  obtain ⟨_, _, _, ehue, egr, _, edis⟩ := ex_all c.more
  have TX := txt_of X G0 c
  have Kn := kindK_of X G0 c
  have Y := deskK_of X G0 c
  have tb : ∀ x : Str, (x, (none : Option Str)) ∈ tf → TabB base mg (He.cT K (x, none)).1 (He.cT K (x, none)).2 := fun x hx => TB _ (List.mem_map.mpr ⟨_, hx, rfl⟩)
  have t1 : ∀ x : Str, (x, (none : Option Str)) ∈ tf → ((He.cT K (x, none)).2, lamQ x) ∈ tabL K := fun x hx => List.mem_map.mpr ⟨_, hx, rfl⟩
  have t2 : ∀ x : Str, (x, (none : Option Str)) ∈ tf → ∀ p ∈ tabL K, p.1 = (He.cT K (x, none)).2 → p.2 = lamQ x := fun x hx p hp e => by
    obtain ⟨q, hq, rfl⟩ := List.mem_map.mp hp
    exact congrArg lamQ (edis q hq _ hx e)
  obtain ⟨fdG, FG⟩ := c.t.d.def_ 68 (d := m_great) rfl
  have HU := hue_of (He.glo_ok X G0 (c.t.d.fact 104 (f := .glo "HueError") rfl)) ehue
  have GC := great_of (He.glo_ok X G0 (c.t.d.fact 96 (f := .glo "TooGreat") rfl)) FG (He.noat_ok (c.t.d.fact 111 (f := .noat "TooGreat" "many") rfl)) (He.noat_ok (c.t.d.fact 112 (f := .noat "TooGreat" "most") rfl)) egr
  have TXX : TxtX P w K mg base := { TX with e_NoPlace := ec_of (He.glo_ok X G0 (c.t.d.fact 91 (f := .glo "NoPlace") rfl)) (c.t.d.fact 113 (f := .exc "NoPlace") rfl), e_NoDeed := ec_of (He.glo_ok X G0 (c.t.d.fact 102 (f := .glo "NoDeed") rfl)) (c.t.d.fact 114 (f := .exc "NoDeed") rfl), great := great_ok HU GC }
  obtain ⟨fdK, FK⟩ := c.t.d.def_ 51 (d := d_law_kind) rfl
  have KF : KindF P w K mg base := ⟨⟨_, fdK, fc_law_kind TX Kn FK, He.glo_ok X G0 (c.t.d.fact 77 (f := .glo "_law_kind") rfl), FK.kp, FK.bindsN fun _ _ _ _ _ _ us hl => match us, hl with | [_], _ => rfl⟩⟩
  obtain ⟨fdQ, FQ⟩ := c.t.d.def_ 52 (d := d_law_got) rfl
  have G : GotD K mg := ⟨⟨_, fdQ, FQ, He.glo_ok X G0 (c.t.d.fact 78 (f := .glo "_law_got") rfl)⟩⟩
  have D_is_whole := df_is_whole (P := P) (w := w) (base := base) TX (by obtain ⟨fd, F⟩ := c.t.d.def_ 0 (d := d_is_whole) rfl; exact ⟨⟨_, fd, F, He.glo_ok X G0 (c.t.d.fact 26 (f := .glo "is_whole") rfl)⟩⟩)
  have D_is_between := df_is_between (P := P) (w := w) (base := base) TX (by obtain ⟨fd, F⟩ := c.t.d.def_ 1 (d := d_is_between) rfl; exact ⟨⟨_, fd, F, He.glo_ok X G0 (c.t.d.fact 27 (f := .glo "is_between") rfl)⟩⟩) D_is_whole
  have D_is_strip := df_is_strip (P := P) (w := w) (base := base) TX (by obtain ⟨fd, F⟩ := c.t.d.def_ 2 (d := d_is_strip) rfl; exact ⟨⟨_, fd, F, He.glo_ok X G0 (c.t.d.fact 28 (f := .glo "is_strip") rfl)⟩⟩) D_is_between
  have D_need_strip := df_need_strip (P := P) (w := w) (base := base) TX (by obtain ⟨fd, F⟩ := c.t.d.def_ 3 (d := d_need_strip) rfl; exact ⟨⟨_, fd, F, He.glo_ok X G0 (c.t.d.fact 29 (f := .glo "need_strip") rfl)⟩⟩) D_is_strip
  have D_row_places := df_row_places (P := P) (w := w) (base := base) TX (by obtain ⟨fd, F⟩ := c.t.d.def_ 4 (d := d_row_places) rfl; exact ⟨⟨_, fd, F, He.glo_ok X G0 (c.t.d.fact 30 (f := .glo "row_places") rfl)⟩⟩)
  have D_lying_rows := df_lying_rows (P := P) (w := w) (base := base) TX (by obtain ⟨fd, F⟩ := c.t.d.def_ 5 (d := d_lying_rows) rfl; exact ⟨⟨_, fd, F, He.glo_ok X G0 (c.t.d.fact 31 (f := .glo "lying_rows") rfl)⟩⟩)
  have D_rows_through := df_rows_through (P := P) (w := w) (base := base) TX (by obtain ⟨fd, F⟩ := c.t.d.def_ 6 (d := d_rows_through) rfl; exact ⟨⟨_, fd, F, He.glo_ok X G0 (c.t.d.fact 32 (f := .glo "rows_through") rfl)⟩⟩)
  have D_are_sizes := df_are_sizes (P := P) (w := w) (base := base) TX (by obtain ⟨fd, F⟩ := c.t.d.def_ 7 (d := d_are_sizes) rfl; exact ⟨⟨_, fd, F, He.glo_ok X G0 (c.t.d.fact 33 (f := .glo "are_sizes") rfl)⟩⟩) D_is_between
  have D_need_sizes := df_need_sizes (P := P) (w := w) (base := base) TX (by obtain ⟨fd, F⟩ := c.t.d.def_ 8 (d := d_need_sizes) rfl; exact ⟨⟨_, fd, F, He.glo_ok X G0 (c.t.d.fact 34 (f := .glo "need_sizes") rfl)⟩⟩) D_are_sizes
  have D_has_hue := df_has_hue (P := P) (w := w) (base := base) TX (by obtain ⟨fd, F⟩ := c.t.d.def_ 9 (d := d_has_hue) rfl; exact ⟨⟨_, fd, F, He.glo_ok X G0 (c.t.d.fact 35 (f := .glo "has_hue") rfl)⟩⟩) D_row_places
  have D_wrong_rows := df_wrong_rows (P := P) (w := w) (base := base) TX (by obtain ⟨fd, F⟩ := c.t.d.def_ 10 (d := d_wrong_rows) rfl; exact ⟨⟨_, fd, F, He.glo_ok X G0 (c.t.d.fact 36 (f := .glo "wrong_rows") rfl)⟩⟩) D_has_hue D_lying_rows
  have D_good_draft := df_good_draft (P := P) (w := w) (base := base) TX (by obtain ⟨fd, F⟩ := c.t.d.def_ 11 (d := d_good_draft) rfl; exact ⟨⟨_, fd, F, He.glo_ok X G0 (c.t.d.fact 37 (f := .glo "good_draft") rfl)⟩⟩) D_is_between
  have D_need_draft := df_need_draft (P := P) (w := w) (base := base) TX (by obtain ⟨fd, F⟩ := c.t.d.def_ 12 (d := d_need_draft) rfl; exact ⟨⟨_, fd, F, He.glo_ok X G0 (c.t.d.fact 38 (f := .glo "need_draft") rfl)⟩⟩) D_need_sizes D_good_draft
  have D_clean := df_clean (P := P) (w := w) (base := base) TX (by obtain ⟨fd, F⟩ := c.t.d.def_ 13 (d := d_clean) rfl; exact ⟨⟨_, fd, F, He.glo_ok X G0 (c.t.d.fact 39 (f := .glo "clean") rfl)⟩⟩) D_need_draft D_wrong_rows
  have D_blanks := df_blanks (P := P) (w := w) (base := base) TX (by obtain ⟨fd, F⟩ := c.t.d.def_ 14 (d := d_blanks) rfl; exact ⟨⟨_, fd, F, He.glo_ok X G0 (c.t.d.fact 40 (f := .glo "blanks") rfl)⟩⟩)
  have D_with_hue := df_with_hue (P := P) (w := w) (base := base) TX (by obtain ⟨fd, F⟩ := c.t.d.def_ 15 (d := d_with_hue) rfl; exact ⟨⟨_, fd, F, He.glo_ok X G0 (c.t.d.fact 41 (f := .glo "with_hue") rfl)⟩⟩)
  have D_bars_at := df_bars_at (P := P) (w := w) (base := base) TX (by obtain ⟨fd, F⟩ := c.t.d.def_ 16 (d := d_bars_at) rfl; exact ⟨⟨_, fd, F, He.glo_ok X G0 (c.t.d.fact 42 (f := .glo "bars_at") rfl)⟩⟩) D_with_hue D_rows_through D_row_places
  have D_open_at := df_open_at (P := P) (w := w) (base := base) TX (by obtain ⟨fd, F⟩ := c.t.d.def_ 17 (d := d_open_at) rfl; exact ⟨⟨_, fd, F, He.glo_ok X G0 (c.t.d.fact 43 (f := .glo "open_at") rfl)⟩⟩) D_bars_at
  have D_is_blank := df_is_blank (P := P) (w := w) (base := base) TX (by obtain ⟨fd, F⟩ := c.t.d.def_ 18 (d := d_is_blank) rfl; exact ⟨⟨_, fd, F, He.glo_ok X G0 (c.t.d.fact 44 (f := .glo "is_blank") rfl)⟩⟩) D_is_between
  have D_product_of := df_product_of (P := P) (w := w) (base := base) TX (by obtain ⟨fd, F⟩ := c.t.d.def_ 21 (d := d_product_of) rfl; exact ⟨⟨_, fd, F, He.glo_ok X G0 (c.t.d.fact 47 (f := .glo "product_of") rfl)⟩⟩)
  have D_may_follow := df_may_follow (P := P) (w := w) (base := base) TX (by obtain ⟨fd, F⟩ := c.t.d.def_ 23 (d := d_may_follow) rfl; exact ⟨⟨_, fd, F, He.glo_ok X G0 (c.t.d.fact 49 (f := .glo "may_follow") rfl)⟩⟩)
  have D_longer_ones := df_longer_ones (P := P) (w := w) (base := base) TX (by obtain ⟨fd, F⟩ := c.t.d.def_ 24 (d := d_longer_ones) rfl; exact ⟨⟨_, fd, F, He.glo_ok X G0 (c.t.d.fact 50 (f := .glo "longer_ones") rfl)⟩⟩) D_may_follow
  have D_layers := df_layers (P := P) (w := w) (base := base) TX (by obtain ⟨fd, F⟩ := c.t.d.def_ 25 (d := d_layers) rfl; exact ⟨⟨_, fd, F, He.glo_ok X G0 (c.t.d.fact 51 (f := .glo "layers") rfl)⟩⟩) D_longer_ones
  have D_ways_to_put := df_ways_to_put (P := P) (w := w) (base := base) TX (by obtain ⟨fd, F⟩ := c.t.d.def_ 27 (d := d_ways_to_put) rfl; exact ⟨⟨_, fd, F, He.glo_ok X G0 (c.t.d.fact 53 (f := .glo "ways_to_put") rfl)⟩⟩) D_blanks
  have D_fillings_of := df_fillings_of (P := P) (w := w) (base := base) TX (by obtain ⟨fd, F⟩ := c.t.d.def_ 29 (d := d_fillings_of) rfl; exact ⟨⟨_, fd, F, He.glo_ok X G0 (c.t.d.fact 55 (f := .glo "fillings_of") rfl)⟩⟩) D_wrong_rows D_blanks D_open_at D_with_hue
  have D_first_narrow := df_first_narrow (P := P) (w := w) (base := base) TX (by obtain ⟨fd, F⟩ := c.t.d.def_ 33 (d := d_first_narrow) rfl; exact ⟨⟨_, fd, F, He.glo_ok X G0 (c.t.d.fact 59 (f := .glo "first_narrow") rfl)⟩⟩) D_blanks D_open_at
  have D_run_of := df_run_of (P := P) (w := w) (base := base) TX (by obtain ⟨fd, F⟩ := c.t.d.def_ 34 (d := d_run_of) rfl; exact ⟨⟨_, fd, F, He.glo_ok X G0 (c.t.d.fact 60 (f := .glo "run_of") rfl)⟩⟩) D_first_narrow D_with_hue
  have D_run := df_run (P := P) (w := w) (base := base) TX (by obtain ⟨fd, F⟩ := c.t.d.def_ 35 (d := d_run) rfl; exact ⟨⟨_, fd, F, He.glo_ok X G0 (c.t.d.fact 61 (f := .glo "run") rfl)⟩⟩) D_need_draft D_run_of
  have D_need_blank := dx_need_blank (P := P) (w := w) (base := base) TXX (by obtain ⟨fd, F⟩ := c.t.d.def_ 19 (d := d_need_blank) rfl; exact ⟨⟨_, fd, F, He.glo_ok X G0 (c.t.d.fact 45 (f := .glo "need_blank") rfl)⟩⟩) D_need_draft D_is_blank
  have D_open_hues := dx_open_hues (P := P) (w := w) (base := base) TXX (by obtain ⟨fd, F⟩ := c.t.d.def_ 20 (d := d_open_hues) rfl; exact ⟨⟨_, fd, F, He.glo_ok X G0 (c.t.d.fact 46 (f := .glo "open_hues") rfl)⟩⟩) D_need_blank D_open_at
  have D_need_small := dx_need_small (P := P) (w := w) (base := base) TXX (by obtain ⟨fd, F⟩ := c.t.d.def_ 22 (d := d_need_small) rfl; exact ⟨⟨_, fd, F, He.glo_ok X G0 (c.t.d.fact 48 (f := .glo "need_small") rfl)⟩⟩) D_need_sizes D_product_of
  have D_farthest := dx_farthest (P := P) (w := w) (base := base) TXX (by obtain ⟨fd, F⟩ := c.t.d.def_ 26 (d := d_farthest) rfl; exact ⟨⟨_, fd, F, He.glo_ok X G0 (c.t.d.fact 52 (f := .glo "farthest") rfl)⟩⟩) D_need_small D_layers
  have D_need_few := dx_need_few (P := P) (w := w) (base := base) TXX (by obtain ⟨fd, F⟩ := c.t.d.def_ 28 (d := d_need_few) rfl; exact ⟨⟨_, fd, F, He.glo_ok X G0 (c.t.d.fact 54 (f := .glo "need_few") rfl)⟩⟩) D_need_draft D_ways_to_put
  have D_all_fillings := dx_all_fillings (P := P) (w := w) (base := base) TXX (by obtain ⟨fd, F⟩ := c.t.d.def_ 30 (d := d_all_fillings) rfl; exact ⟨⟨_, fd, F, He.glo_ok X G0 (c.t.d.fact 56 (f := .glo "all_fillings") rfl)⟩⟩) D_need_few D_fillings_of
  have D_fillings_many := dx_fillings_many (P := P) (w := w) (base := base) TXX (by obtain ⟨fd, F⟩ := c.t.d.def_ 31 (d := d_fillings_many) rfl; exact ⟨⟨_, fd, F, He.glo_ok X G0 (c.t.d.fact 57 (f := .glo "fillings_many") rfl)⟩⟩) D_all_fillings
  have D_first_filling := dx_first_filling (P := P) (w := w) (base := base) TXX (by obtain ⟨fd, F⟩ := c.t.d.def_ 32 (d := d_first_filling) rfl; exact ⟨⟨_, fd, F, He.glo_ok X G0 (c.t.d.fact 58 (f := .glo "first_filling") rfl)⟩⟩) D_all_fillings
  have D_strip_text := df_strip_text (P := P) (w := w) (base := base) TX (by obtain ⟨fd, F⟩ := c.t.d.def_ 38 (d := d_strip_text) rfl; exact ⟨⟨_, fd, F, He.glo_ok X G0 (c.t.d.fact 64 (f := .glo "strip_text") rfl)⟩⟩) D_need_strip
  have D_draft_text := df_draft_text (P := P) (w := w) (base := base) TX (by obtain ⟨fd, F⟩ := c.t.d.def_ 39 (d := d_draft_text) rfl; exact ⟨⟨_, fd, F, He.glo_ok X G0 (c.t.d.fact 65 (f := .glo "draft_text") rfl)⟩⟩) D_is_between
  have D_numbers_text := df_numbers_text (P := P) (w := w) (base := base) TX (by obtain ⟨fd, F⟩ := c.t.d.def_ 40 (d := d_numbers_text) rfl; exact ⟨⟨_, fd, F, He.glo_ok X G0 (c.t.d.fact 66 (f := .glo "numbers_text") rfl)⟩⟩)
  have D_sizes_text := df_sizes_text (P := P) (w := w) (base := base) TX (by obtain ⟨fd, F⟩ := c.t.d.def_ 41 (d := d_sizes_text) rfl; exact ⟨⟨_, fd, F, He.glo_ok X G0 (c.t.d.fact 67 (f := .glo "sizes_text") rfl)⟩⟩) D_need_sizes D_numbers_text
  have D_is_lot := df_is_lot (P := P) (w := w) (base := base) TX (by obtain ⟨fd, F⟩ := c.t.d.def_ 36 (d := d_is_lot) rfl; exact ⟨⟨_, fd, F, He.glo_ok X G0 (c.t.d.fact 62 (f := .glo "is_lot") rfl)⟩⟩) D_is_between
  have D_need_lot := df_need_lot (P := P) (w := w) (base := base) TX (by obtain ⟨fd, F⟩ := c.t.d.def_ 37 (d := d_need_lot) rfl; exact ⟨⟨_, fd, F, He.glo_ok X G0 (c.t.d.fact 63 (f := .glo "need_lot") rfl)⟩⟩) D_is_lot
  have D_lot_text := df_lot_text (P := P) (w := w) (base := base) TX (by obtain ⟨fd, F⟩ := c.t.d.def_ 42 (d := d_lot_text) rfl; exact ⟨⟨_, fd, F, He.glo_ok X G0 (c.t.d.fact 68 (f := .glo "lot_text") rfl)⟩⟩) D_need_lot D_numbers_text
  have D_hues_in := df_hues_in (P := P) (w := w) (base := base) TX (by obtain ⟨fd, F⟩ := c.t.d.def_ 43 (d := d_hues_in) rfl; exact ⟨⟨_, fd, F, He.glo_ok X G0 (c.t.d.fact 69 (f := .glo "hues_in") rfl)⟩⟩)
  have D_draft_read := df_draft_read (P := P) (w := w) (base := base) TX (by obtain ⟨fd, F⟩ := c.t.d.def_ 44 (d := d_draft_read) rfl; exact ⟨⟨_, fd, F, He.glo_ok X G0 (c.t.d.fact 70 (f := .glo "draft_read") rfl)⟩⟩) D_hues_in
  have D_number_in := df_number_in (P := P) (w := w) (base := base) TX (by obtain ⟨fd, F⟩ := c.t.d.def_ 45 (d := d_number_in) rfl; exact ⟨⟨_, fd, F, He.glo_ok X G0 (c.t.d.fact 71 (f := .glo "number_in") rfl)⟩⟩)
  have D_numbers_in := df_numbers_in (P := P) (w := w) (base := base) TX (by obtain ⟨fd, F⟩ := c.t.d.def_ 46 (d := d_numbers_in) rfl; exact ⟨⟨_, fd, F, He.glo_ok X G0 (c.t.d.fact 72 (f := .glo "numbers_in") rfl)⟩⟩) D_number_in
  have D_sizes_read := df_sizes_read (P := P) (w := w) (base := base) TX (by obtain ⟨fd, F⟩ := c.t.d.def_ 47 (d := d_sizes_read) rfl; exact ⟨⟨_, fd, F, He.glo_ok X G0 (c.t.d.fact 73 (f := .glo "sizes_read") rfl)⟩⟩) D_numbers_in D_are_sizes
  have M_put := mt_put (P := P) (w := w) (base := base) TX Y (by obtain ⟨fd, F⟩ := c.t.d.def_ 64 (d := m_put) rfl; exact ⟨⟨_, fd, He.meth_ok (c.t.d.fact 117 (f := .meth "Desk" "put") rfl), F⟩⟩) D_draft_text
  have M_deed := mt_deed (P := P) (w := w) (base := base) TX Y (by obtain ⟨fd, F⟩ := c.t.d.def_ 65 (d := m_deed) rfl; exact ⟨⟨_, fd, He.meth_ok (c.t.d.fact 118 (f := .meth "Desk" "deed") rfl), F⟩⟩) M_put D_is_blank D_with_hue
  have M_asked := mt_asked (P := P) (w := w) (base := base) TXX Y (by obtain ⟨fd, F⟩ := c.t.d.def_ 67 (d := m_asked) rfl; exact ⟨⟨_, fd, He.meth_ok (c.t.d.fact 120 (f := .meth "Desk" "asked") rfl), F⟩⟩) D_draft_text D_sizes_text D_clean D_fillings_many D_farthest D_run D_first_filling D_strip_text
  have M_plain := mt_plain (P := P) (w := w) (base := base) TXX Y (by obtain ⟨fd, F⟩ := c.t.d.def_ 66 (d := m_plain) rfl; exact ⟨⟨_, fd, He.meth_ok (c.t.d.fact 119 (f := .meth "Desk" "plain") rfl), F⟩⟩) D_draft_text M_put D_run M_asked
  have M_say := mt_say (P := P) (w := w) (base := base) TXX Y (by obtain ⟨fd, F⟩ := c.t.d.def_ 63 (d := m_say) rfl; exact ⟨⟨_, fd, He.meth_ok (c.t.d.fact 116 (f := .meth "Desk" "say") rfl), F⟩⟩) M_put D_sizes_read D_number_in M_plain D_lot_text D_open_hues M_deed
  have D__law_cell_at := df_law_cell_at (P := P) (w := w) (base := base) TX (by obtain ⟨fd, F⟩ := c.t.d.def_ 48 (d := d_law_cell_at) rfl; exact ⟨⟨_, fd, F, He.glo_ok X G0 (c.t.d.fact 74 (f := .glo "_law_cell_at") rfl)⟩⟩)
  have D__law_pen := df_law_pen (P := P) (w := w) (base := base) TX (by obtain ⟨fd, F⟩ := c.t.d.def_ 49 (d := d_law_pen) rfl; exact ⟨⟨_, fd, F, He.glo_ok X G0 (c.t.d.fact 75 (f := .glo "_law_pen") rfl)⟩⟩)
  have D__law_draw := df_law_draw (P := P) (w := w) (base := base) TX (by obtain ⟨fd, F⟩ := c.t.d.def_ 50 (d := d_law_draw) rfl; exact ⟨⟨_, fd, F, He.glo_ok X G0 (c.t.d.fact 76 (f := .glo "_law_draw") rfl)⟩⟩)
  have D__law_hues_text := df_law_hues_text (P := P) (w := w) (base := base) TX (by obtain ⟨fd, F⟩ := c.t.d.def_ 53 (d := d_law_hues_text) rfl; exact ⟨⟨_, fd, F, He.glo_ok X G0 (c.t.d.fact 79 (f := .glo "_law_hues_text") rfl)⟩⟩)
  have D__law_numbers_text := df_law_numbers_text (P := P) (w := w) (base := base) TX (by obtain ⟨fd, F⟩ := c.t.d.def_ 54 (d := d_law_numbers_text) rfl; exact ⟨⟨_, fd, F, He.glo_ok X G0 (c.t.d.fact 80 (f := .glo "_law_numbers_text") rfl)⟩⟩)
  have D__law_sizes := df_law_sizes (P := P) (w := w) (base := base) TX (by obtain ⟨fd, F⟩ := c.t.d.def_ 55 (d := d_law_sizes) rfl; exact ⟨⟨_, fd, F, He.glo_ok X G0 (c.t.d.fact 81 (f := .glo "_law_sizes") rfl)⟩⟩) D__law_draw
  have M_init := mt_init (P := P) (w := w) (base := base) TX Y (by obtain ⟨fd, F⟩ := c.t.d.def_ 62 (d := m_init) rfl; exact ⟨⟨_, fd, He.meth_ok (c.t.d.fact 115 (f := .meth "Desk" "__init__") rfl), F⟩⟩)
  have MD : MkD P w K mg base (He.ga K "Desk") := mkd_of M_init (He.mkr_ok (c.t.d.fact 110 (f := .mkr "Desk") rfl)).makes (He.mkr_ok (c.t.d.fact 110 (f := .mkr "Desk") rfl)).kp
  have D__law_shown := df_law_shown (P := P) (w := w) (base := base) (T := tabL K) TX Kn Y (by obtain ⟨fd, F⟩ := c.t.d.def_ 56 (d := d_law_shown) rfl; exact (lamF_of F (He.glo_ok X G0 (c.t.d.fact 82 (f := .glo "_law_shown") rfl)) (tb "_law_shown" (by simp [tf])) (t1 "_law_shown" (by simp [tf])) (t2 "_law_shown" (by simp [tf]))).lam) M_say G KF
  have D__law_another := df_law_another (P := P) (w := w) (base := base) (T := tabL K) TX Kn Y (by obtain ⟨fd, F⟩ := c.t.d.def_ 59 (d := d_law_another) rfl; exact ⟨⟨_, fd, F, He.glo_ok X G0 (c.t.d.fact 85 (f := .glo "_law_another") rfl)⟩⟩) D_draft_read M_say MD
  have D__law_filled := df_law_filled (P := P) (w := w) (base := base) (T := tabL K) TX Kn Y (by obtain ⟨fd, F⟩ := c.t.d.def_ 60 (d := d_law_filled) rfl; exact (lamF_of F (He.glo_ok X G0 (c.t.d.fact 86 (f := .glo "_law_filled") rfl)) (tb "_law_filled" (by simp [tf])) (t1 "_law_filled" (by simp [tf])) (t2 "_law_filled" (by simp [tf]))).lam) M_say G KF
  have D__law_answers := df_law_answers (P := P) (w := w) (base := base) (T := tabL K) TX Kn Y (by obtain ⟨fd, F⟩ := c.t.d.def_ 58 (d := d_law_answers) rfl; exact (lamF_of F (He.glo_ok X G0 (c.t.d.fact 84 (f := .glo "_law_answers") rfl)) (tb "_law_answers" (by simp [tf])) (t1 "_law_answers" (by simp [tf])) (t2 "_law_answers" (by simp [tf]))).lam) M_say G KF
  have D__law_begun := df_law_begun (P := P) (w := w) (base := base) (T := tabL K) TX Kn Y (by obtain ⟨fd, F⟩ := c.t.d.def_ 57 (d := d_law_begun) rfl; exact (lamF_of F (He.glo_ok X G0 (c.t.d.fact 83 (f := .glo "_law_begun") rfl)) (tb "_law_begun" (by simp [tf])) (t1 "_law_begun" (by simp [tf])) (t2 "_law_begun" (by simp [tf]))).lam) D__law_draw M_say MD G KF
  exact df_law (P := P) (w := w) (C := He.ga K "Desk") (pP := He.ga K "PLAIN") (dS := He.ga K "SORTS") TX Kn Y (lamF_of FL (He.glo_ok X G0 (c.t.d.fact 87 (f := .glo "law") rfl)) (tb "law" (by simp [tf])) (t1 "law" (by simp [tf])) (t2 "law" (by simp [tf]))) D__law_pen D__law_cell_at D__law_draw D__law_sizes D__law_begun D__law_another D__law_answers D__law_numbers_text D__law_hues_text D_draft_read D_sizes_read D__law_filled D__law_shown M_say G KF
theorem glo_law (X : K.In h) (G0 : h.Ns mainGlobals mg) (c : He.SaysX fa fn tsD tf ex w h K) : mg "law" = some (.ref (He.ga K "law")) := He.glo_ok X G0 (c.t.d.fact 87 (f := .glo "law") rfl)
end
end EH

set_option Elab.async false
set_option linter.all false
set_option maxRecDepth 100000
set_option maxHeartbeats 0
open PySem PySem.W PySem.Calls PyProof.Rows
theorem PySem.Challenge.cw_evenhues_k94_whole_desk_holds : PySem.Challenge.rw_evenhues_k94_whole_desk.Holds := by
  w_on; o_law
  refine HandSHeadRun.head_any (r := OpenLaw.row PySem.Challenge.rw_evenhues_k94_whole_desk) (q := EH.qv) (H := EH.hk) (ob := EH.ob) (M := 6200) (loose := EH.looseN) (d := HandSHeadRun.topDef (OpenLaw.row PySem.Challenge.rw_evenhues_k94_whole_desk).prog 106) (kwd := []) EH.ob_eq
    (by kernel_rfl) (fun s => by kernel_rfl) EH.run (by kernel_rfl) (by kernel_rfl) (by kernel_rfl) (by rfl) (by first | assumption | decide +kernel) (by decide +kernel) ⟨rfl, rfl, rfl, rfl, rfl, by decide +kernel⟩ ?hw ?hc
  case hw => w_witness2
  case hc =>
    refine LamX.walk_ofTsE (l := PySem.Challenge.rw_evenhues_k94_whole_desk) (n := 63) (k := 15) (x := "_law_script") (CX := fun _ => L2.CX0) rfl (by decide) (by kernel_rfl) ⟨rfl, by decide, by decide⟩ ?F (fun _ _ _ _ _ z => z)
    intro w mg fa h Y G hmg0
    obtain ⟨K, KX, c⟩ := Y
    have hmg : mg ("law" : PySem.Str) = some (.ref fa) := by
      have e : (HandSHeadRun.topDef (OpenLaw.row PySem.Challenge.rw_evenhues_k94_whole_desk).prog 106).name = ("law" : PySem.Str) := by kernel_rfl
      rw [← e]
      exact hmg0
    obtain ⟨fd, hb, hF⟩ := EH.facts (P := (PySem.Challenge.rw_evenhues_k94_whole_desk).prog) (w := w) KX G c
    have e := hmg.symm.trans (EH.glo_law KX G c)
    cases e
    exact ⟨K, KX, fd, EH.tf.map (He.cT K), EH.sp_law K (EH.tabL K), fun p hp => by obtain ⟨q, hq, rfl⟩ := List.mem_map.mp hp; exact c.empty q hq, fun p hp => by obtain ⟨q, hq, rfl⟩ := List.mem_map.mp hp; exact c.out q hq, fun p hp => by obtain ⟨q, hq, rfl⟩ := List.mem_map.mp hp; exact PySem.W.codeHd_of_K KX (c.hd q hq), hb,
      fun H a ns hl _ hT hS => ⟨a, ns, rfl, hS, fun p hp => by obtain ⟨q, hq, rfl⟩ := List.mem_map.mp hp; exact LamX.TabS.nil (hT _ (List.mem_map.mpr ⟨q, hq, rfl⟩)), fun _ => rfl⟩, hF⟩

