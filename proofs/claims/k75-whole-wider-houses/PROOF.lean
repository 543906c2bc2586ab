import PyProof.Rows.All
import Wide.All
import OpenK.AllK
import Wide.FinOn
import KE.KStateDown
import Lean
import HandS.Head0
import HandS.Head1
import HandS.Head2
import HandS.HeadEnd
import HandS.HeadHook1
import HandS.HeadHook2
import HandS.HeadHook3
import HandS.HeadHook4
import HandS.HeadWalk
import HandS.Words
import HandS.ForMost
import HandS.Zip
import HandS.TupAny
import HandS.TupMul
import HandS.IsInst
import HandS.Style
import HandS.Deep
import HandS.Walk
import HandS.Defaults
import HandS.Conv
import KE.DataEq
import KE.GoesMore
import KE.GoesEnum
import KE.KDictKeyed
import KE.SortData
import KE.KDictSum
import KE.KDictZip
import KE.KItemsList
import HandS.Keys
import HandS.TupSets
import HandS.SetKeys
import KE.KEqDict
import HandS.WideBits
import HandS.SetFor
import HandS.Strs
import HandS.Lambda
import HandS.EndTab
import HandS.NestedK
import PySem.Challenge.RW_wearkeys_k75_whole_wider_houses
set_option Elab.async false
set_option linter.all false
set_option maxRecDepth 100000
set_option maxHeartbeats 0
namespace WkHead
open PySem PySem.Spec PyProof.Rows L2
def top (i : Nat) : Stmt := PySem.Challenge.pw_wearkeys_k75_whole_wider_houses.main.body.getD i (.Pass ⟨0, 0, 0, 0⟩)

abbrev dd (x : Str) (i : Nat) : He.DefD := ⟨(x, none), x, x, defArgs (top i), defBody (top i), defScope (top i), [], []⟩
abbrev dm (m : Str) (j : Nat) : He.DefD := ⟨("Walker", some m), m, "Walker." ++ m, defArgs (inClass (top 97) j), defBody (inClass (top 97) j), defScope (inClass (top 97) j), [], []⟩
def fn : List He.DefD := [dd "is_whole" 28,
  dd "is_among" 29,
  dd "are_some" 30,
  dd "rises" 31,
  dd "is_height" 32,
  dd "is_key_by" 33,
  dd "is_gap" 34,
  dd "is_box_by" 35,
  dd "has_key" 37,
  dd "moved_end" 38,
  dd "filled_from" 39,
  dd "is_greatest" 40,
  dd "greatest_by" 41,
  dd "is_wear" 54,
  dd "is_door" 55,
  dd "are_doors" 56,
  dd "is_smith" 57,
  dd "are_benches" 58,
  dd "are_smiths" 59,
  dd "is_house" 60,
  dd "need_house" 61,
  dd "is_hall" 62,
  dd "is_stand" 63,
  dd "need_stand" 64,
  dd "is_deed" 65,
  dd "all_deeds" 67,
  dd "door_at" 68,
  dd "smith_at" 69,
  dd "is_away" 70,
  dd "hall_behind" 71,
  dd "wear_of" 72,
  dd "gap_of" 73,
  dd "bar_of" 74,
  dd "done_by" 75,
  dd "need_row" 77,
  dd "bar_at" 78,
  dd "behind_by" 79,
  dd "coins_by" 80,
  dd "is_goal" 84,
  dd "need_goal" 85,
  dd "need_wish" 86,
  dd "is_there" 87,
  dd "next_ones" 88,
  dd "spread_from" 89,
  dd "spread" 90,
  dd "row_to" 91,
  dd "lot_of" 92,
  dd "way" 93,
  dd "price_of" 94,
  dd "least_coins" 95,
  dd "_law_cell_at" 99,
  dd "_law_pen" 100,
  dd "_law_draw" 101,
  dd "_law_pick" 102,
  dd "_law_said" 105,
  dd "_law_key" 106,
  dd "_law_box" 107,
  dd "_law_house" 108,
  dd "_law_stand" 109,
  dd "_law_deeds" 110,
  dd "_law_door" 111,
  dd "_law_behind" 112,
  dd "_law_may" 113,
  dd "_law_row" 114,
  dd "_law_free" 115,
  dd "_law_wider_box" 116,
  dd "_law_wider" 117,
  dd "_law_goal_right" 118,
  dd "law" 119,
  dm "__init__" 0,
  dm "turn" 1,
  dm "play" 6,
  dm "stand" 8,
  dm "coins" 10,
  dm "may" 11]
def fa0 : List He.Fa := [.glo "is_whole", .glo "is_among", .glo "are_some", .glo "rises", .glo "is_height", .glo "is_key_by", .glo "is_gap", .glo "is_box_by", .glo "has_key", .glo "moved_end", .glo "filled_from", .glo "is_greatest", .glo "greatest_by", .glo "is_wear", .glo "is_door", .glo "are_doors", .glo "is_smith", .glo "are_benches", .glo "are_smiths", .glo "is_house"]
def fa1 : List He.Fa := [.glo "need_house", .glo "is_hall", .glo "is_stand", .glo "need_stand", .glo "is_deed", .glo "all_deeds", .glo "door_at", .glo "smith_at", .glo "is_away", .glo "hall_behind", .glo "wear_of", .glo "gap_of", .glo "bar_of", .glo "done_by", .glo "need_row", .glo "bar_at", .glo "behind_by", .glo "coins_by", .glo "is_goal", .glo "need_goal"]
def fa2 : List He.Fa := [.glo "need_wish", .glo "is_there", .glo "next_ones", .glo "spread_from", .glo "spread", .glo "row_to", .glo "lot_of", .glo "way", .glo "price_of", .glo "least_coins", .glo "_law_cell_at", .glo "_law_pen", .glo "_law_draw", .glo "_law_pick", .glo "_law_said", .glo "_law_key", .glo "_law_box", .glo "_law_house", .glo "_law_stand", .glo "_law_deeds"]
def fa3 : List He.Fa := [.glo "_law_door", .glo "_law_behind", .glo "_law_may", .glo "_law_row", .glo "_law_free", .glo "_law_wider_box", .glo "_law_wider", .glo "_law_goal_right", .glo "law", .glo "Walker", .glo "WearError", .cls "Walker", .mkr "Walker", .noat "Walker" "house", .noat "Walker" "begin", .noat "Walker" "here", .noat "Walker" "kept", .noat "Walker" "past", .meth "Walker" "turn", .meth "Walker" "play"]
def fa4 : List He.Fa := [.meth "Walker" "stand", .meth "Walker" "coins", .meth "Walker" "may", .int "MOST_HEIGHT" 6, .int "MOST_TEETH" 3, .int "MOST_HALLS" 6, .int "MOST_LETTERS" 6, .int "MOST_WEAR" 3, .int "MOST_DOORS" 10, .int "MOST_PRICE" 9, .str "GO" "go", .str "FILE" "file", .str "LIFT" "lift", .str "AWAY" "away", .str "LOW" "low", .str "HIGH" "high", .str "ROW" "row", .str "SHUT" "shut", .free "isinstance", .free "int"]
def fa5 : List He.Fa := [.free "bool", .free "tuple", .free "str", .free "all", .free "any", .free "zip", .free "len", .free "sorted", .free "range", .free "list", .free "dict", .free "enumerate", .free "min", .free "max", .free "set"]
def fa : List He.Fa := fa0 ++ (fa1 ++ (fa2 ++ (fa3 ++ (fa4 ++ (fa5)))))
def nm0 : List PySem.Str := ["_wall", "WearError", "NoTeeth", "NoKey", "NoBox", "NoBoxes", "NoKeys", "NoHouse", "NoStand", "NoDeed", "Barred", "NoRow", "NoHall", "NotLaid", "NotRound", "NoTimes", "NoGoal", "NoGoals", "NoCoins", "NotPlain"]
def nm1 : List PySem.Str := ["NoRecord", "NothingDone", "NoText", "NoLine", "MOST_HEIGHT", "MOST_TEETH", "is_whole", "is_among", "are_some", "rises", "is_height", "is_key_by", "is_gap", "is_box_by", "has_key", "moved_end", "filled_from", "is_greatest", "greatest_by", "MOST_HALLS"]
def nm2 : List PySem.Str := ["MOST_LETTERS", "MOST_WEAR", "MOST_DOORS", "MOST_PRICE", "GO", "FILE", "LIFT", "AWAY", "LOW", "HIGH", "is_wear", "is_door", "are_doors", "is_smith", "are_benches", "are_smiths", "is_house", "need_house", "is_hall", "is_stand"]
def nm3 : List PySem.Str := ["need_stand", "is_deed", "need_deed", "all_deeds", "door_at", "smith_at", "is_away", "hall_behind", "wear_of", "gap_of", "bar_of", "done_by", "need_row", "bar_at", "behind_by", "coins_by", "ROW", "SHUT", "is_goal", "need_goal"]
def nm4 : List PySem.Str := ["need_wish", "is_there", "next_ones", "spread_from", "spread", "row_to", "lot_of", "way", "price_of", "least_coins", "Walker", "_law_cell_at", "_law_pen", "_law_draw", "_law_pick", "_law_marks_of", "_law_word", "_law_said", "_law_key", "_law_box"]
def nm5 : List PySem.Str := ["_law_house", "_law_stand", "_law_deeds", "_law_door", "_law_behind", "_law_may", "_law_row", "_law_free", "_law_wider_box", "_law_wider", "_law_goal_right"]
def names : List PySem.Str := nm0 ++ (nm1 ++ (nm2 ++ (nm3 ++ (nm4 ++ (nm5)))))
def adr : List Addr := [3, 31, 735, 734, 733, 305, 312, 319, 324, 331, 336, 341, 346, 351, 358, 363, 370, 375, 380, 385] ++ ([390, 397, 402, 407, 412, 419, 426, 433, 440, 447, 454, 459, 466, 473, 480, 487, 494, 501, 508, 513] ++ ([518, 525, 532, 539, 546, 553, 560, 567, 572, 577, 584, 591, 596, 603, 610, 617, 746, 753, 760, 767] ++ ([774, 781, 788, 793, 800, 805, 812, 817, 822, 827, 832, 839, 844, 849, 854, 861, 866, 304, 311, 318] ++ ([323, 330, 335, 340, 345, 350, 357, 362, 369, 374, 379, 384, 389, 396, 401, 406, 411, 418, 425, 432] ++ ([439, 446, 453, 458, 465, 472, 479, 486, 493, 500, 507, 512, 517, 524, 531, 538, 545, 552, 559, 566] ++ ([571, 576, 583, 590, 595, 602, 609, 616, 745, 752, 759, 766, 773, 780, 787, 792, 799, 804, 811, 816] ++ ([821, 826, 831, 838, 843, 848, 853, 860, 865, 631, 638, 645, 652, 659, 666, 673, 680, 687, 694, 701] ++ ([706, 713, 720, 727, 732, 630, 637, 644, 651, 658, 665, 672, 679, 686, 693, 700, 705, 712, 719, 726] ++ ([731])))))))))
def tf : List He.Defn := [("law", none)]
abbrev R : PySem.W.OpenRow := PySem.W.OpenLaw.row PySem.Challenge.rw_wearkeys_k75_whole_wider_houses
/-! the facts, read off a written list of addresses -/
def obA (g : Addr → Option Obj) : He.AlX := (He.obsT fa fn [] (He.frT g adr), He.tabsB g tf (He.frT g adr))
theorem says_of {w : World} {h : Heap} (e : obA h.get? = He.valX fn [] w) : He.SaysX fa fn [] tf (fun _ => true) w h (He.frT h.get? adr) := by
  have e1 : He.obsT fa fn [] (He.frT h.get? adr) = He.valT fn [] w := congrArg (fun z : He.AlX => z.1) e
  have e2 : He.tabsB h.get? tf (He.frT h.get? adr) = true := congrArg (fun z : He.AlX => z.2) e
  have key : ∀ p ∈ tf, PySem.W.codeHdIn (He.frT h.get? adr) (He.cT (He.frT h.get? adr) p).1 (He.cT (He.frT h.get? adr) p).2 = true ∧ ∃ o, h.get? (He.cT (He.frT h.get? adr) p).2 = some o ∧ He.emptyTab o = true := by
    intro p hp
    have h3 := List.all_eq_true.mp e2 p hp
    rw [Bool.and_eq_true] at h3
    refine ⟨h3.1, ?_⟩
    have h4 := h3.2
    cases q : h.get? (He.cT (He.frT h.get? adr) p).2 with
    | none =>
      rw [q] at h4
      cases h4
    | some o =>
      rw [q] at h4
      exact ⟨o, rfl, h4⟩
  refine ⟨e1, rfl, fun p hp => (key p hp).1, fun p hp => ?_, fun p hp => ?_⟩
  · obtain ⟨_, o, q, z⟩ := key p hp
    exact He.frT_none q z
  · obtain ⟨_, o, q, z⟩ := key p hp
    rw [q, He.emptyTab_eq z]
def hk : PySem.W.Hook where
  α := He.AlX
  obs := fun s => obA s.heap.get?
  val := fun w => He.valX fn [] w
  says := fun w h => ∃ K : PySem.W.Frag, K.In h ∧ He.SaysX fa fn [] tf (fun _ => true) w h K
  of := fun _ _ e => ⟨_, He.frT_in, says_of e⟩
  keeps := fun _ _ _ ⟨K, hK, c⟩ k => ⟨K, PySem.W.Frag.In.keeps hK k, ⟨c.t, c.more, c.hd, c.out, fun p hp => k _ _ (c.empty p hp)⟩⟩
def ob (s : PySem.W.SharedT) : He.AlX := obA (HandSHeadRun.getT s)
theorem ob_eq (s : PySem.W.SharedT) : ob s = hk.obs s.abs := congrArg obA (funext (HandSHeadRun.getT_eq s))
theorem run (w : World) : HandSHeadRun.RunEq R (PySem.W.view R.prog [119]) hk ob 9000 names w := by
  intro os
  kernel_rfl
end WkHead

set_option maxHeartbeats 2000000
namespace Wk
open PySem L2
/-! ### data in the heap: immutable things (Im), a list of them (Rp) -/
mutual
inductive Im (K : PySem.W.Frag) (H : Hp) : V → PyData → Prop
  | non : Im K H .non .none
  | bl (b : Bool) : Im K H (.bl b) (.bool b)
  | int (i : Int) : Im K H (.int i) (.int i)
  | str (x : Str) : Im K H (.str x) (.str x)
  | tup {a : Addr} {xs : List V} {ds : List PyData} : H a = some (.tup xs) → ImAll K H xs ds → Im K H (.ref a) (.tuple ds)
inductive ImAll (K : PySem.W.Frag) (H : Hp) : List V → List PyData → Prop
  | nil : ImAll K H [] []
  | cons {v : V} {vs : List V} {d : PyData} {ds : List PyData} : Im K H v d → ImAll K H vs ds → ImAll K H (v :: vs) (d :: ds)
end
/-- the tuples stay -/
def TK (H H' : Hp) : Prop := ∀ a xs, H a = some (.tup xs) → H' a = some (.tup xs)
theorem TK.refl (H : Hp) : TK H H := fun _ _ h => h
theorem TK.trans {H H1 H2 : Hp} (a : TK H H1) (b : TK H1 H2) : TK H H2 := fun c xs h => b c xs (a c xs h)
theorem same_tk {H H' : Hp} (e : Same H H') : TK H H' := fun a xs h => e _ _ h
/-- an object is written that is no tuple -/
theorem TK.updO {H : Hp} {a : Addr} {o o' : HO} (h : H a = some o') (nt : ∀ xs, o' ≠ .tup xs) : TK H (upd H a o) := fun b xs q => by
  rw [upd_ne (ne_of q h (nt xs).symm)]
  exact q
theorem TK.updL {H : Hp} {a : Addr} {o : HO} {xs : List V} (h : H a = some (.lst xs)) : TK H (L2.upd H a o) := TK.updO h (fun _ => by intro z; cases z)
theorem TK.new {H : Hp} {a : Addr} {o : HO} (h : H a = none) : TK H (L2.upd H a o) := fun b xs q => by
  rw [upd_ne (ne_of_none q h)]
  exact q
theorem Same.new {H : Hp} {a : Addr} {o : HO} (h : H a = none) : Same H (upd H a o) := fun b u e => by
  rw [upd_ne (ne_of_none e h)]
  exact e
theorem Same.mut {H H' : Hp} {a : Addr} {o : HO} (e : Same H H') (h : H a = none) : Same H (upd H' a o) := fun b u q => by
  rw [upd_ne (ne_of_none q h)]
  exact e b u q
theorem Same.back {H H' : Hp} {p : Addr} (e : Same H H') (h : H' p = none) : H p = none := e.free h
mutual
theorem Im.tk {K : PySem.W.Frag} {H H' : Hp} (t : TK H H') : ∀ (d : PyData) (v : V), Im K H v d → Im K H' v d
  | .none, _, h => by cases h; exact .non
  | .bool b, _, h => by cases h; exact .bl b
  | .int i, _, h => by cases h; exact .int i
  | .str x, _, h => by cases h; exact .str x
  | .list _, _, h => by cases h
  | .tuple ds, _, h => by
    cases h with
    | tup hs ha => exact .tup (t _ _ hs) (ImAll.tk t ds _ ha)
  | .dict _, _, h => by cases h
theorem ImAll.tk {K : PySem.W.Frag} {H H' : Hp} (t : TK H H') : ∀ (ds : List PyData) (vs : List V), ImAll K H vs ds → ImAll K H' vs ds
  | [], _, h => by cases h; exact .nil
  | d :: ds, _, h => by
    cases h with
    | cons h1 h2 => exact .cons (Im.tk t d _ h1) (ImAll.tk t ds _ h2)
end
theorem Im.mono {K : PySem.W.Frag} {H H' : Hp} {v : V} {d : PyData} (t : TK H H') (h : Im K H v d) : Im K H' v d := Im.tk t d v h
theorem ImAll.mono {K : PySem.W.Frag} {H H' : Hp} {vs : List V} {ds : List PyData} (t : TK H H') (h : ImAll K H vs ds) : ImAll K H' vs ds := ImAll.tk t ds vs h
mutual
theorem Im.dp {K : PySem.W.Frag} {H : Hp} : ∀ (d : PyData) (v : V), Im K H v d → Dp K H v d
  | .none, _, h => by cases h; exact .non
  | .bool b, _, h => by cases h; exact .bl b
  | .int i, _, h => by cases h; exact .int i
  | .str x, _, h => by cases h; exact .str x
  | .list _, _, h => by cases h
  | .tuple ds, _, h => by
    cases h with
    | tup hs ha => exact .tup (SqT.of hs) (ImAll.dp ds _ ha)
  | .dict _, _, h => by cases h
theorem ImAll.dp {K : PySem.W.Frag} {H : Hp} : ∀ (ds : List PyData) (vs : List V), ImAll K H vs ds → DpAll K H vs ds
  | [], _, h => by cases h; exact .nil
  | d :: ds, _, h => by
    cases h with
    | cons h1 h2 => exact .cons (Im.dp d _ h1) (ImAll.dp ds _ h2)
end
section
variable {K : PySem.W.Frag} {H H' : Hp} {v : V} {vs ws : List V} {ds es : List PyData} {d : PyData}
theorem ImAll.length : ∀ {vs : List V} {ds : List PyData}, ImAll K H vs ds → vs.length = ds.length
  | _, _, .nil => rfl
  | _, _, .cons _ t => congrArg (· + 1) (ImAll.length t)
theorem ImAll.get : ∀ {vs : List V} {ds : List PyData} {i : Nat} {d : PyData}, ImAll K H vs ds → ds[i]? = some d → ∃ v, vs[i]? = some v ∧ Im K H v d
  | _, _, _, _, .nil, e => by simp at e
  | _, _, 0, _, .cons h _, e => by
    simp at e
    subst e
    exact ⟨_, rfl, h⟩
  | _, _, i + 1, d, .cons _ t, e => by
    obtain ⟨v, h1, h2⟩ := ImAll.get (i := i) (d := d) t (by simpa using e)
    exact ⟨v, by simpa using h1, h2⟩
theorem ImAll.get' : ∀ {vs : List V} {ds : List PyData} {i : Nat} {v : V}, ImAll K H vs ds → vs[i]? = some v → ∃ d, ds[i]? = some d ∧ Im K H v d
  | _, _, _, _, .nil, e => by simp at e
  | _, _, 0, _, .cons h _, e => by
    simp at e
    subst e
    exact ⟨_, rfl, h⟩
  | _, _, i + 1, v, .cons _ t, e => by
    obtain ⟨d, h1, h2⟩ := ImAll.get' (i := i) (v := v) t (by simpa using e)
    exact ⟨d, by simpa using h1, h2⟩
theorem ImAll.append : ∀ {vs ws : List V} {ds es : List PyData}, ImAll K H vs ds → ImAll K H ws es → ImAll K H (vs ++ ws) (ds ++ es)
  | _, _, _, _, .nil, s => s
  | _, _, _, _, .cons h t, s => .cons h (ImAll.append t s)
theorem ImAll.take : ∀ {vs : List V} {ds : List PyData} (n : Nat), ImAll K H vs ds → ImAll K H (vs.take n) (ds.take n)
  | _, _, 0, _ => .nil
  | _, _, _ + 1, .nil => .nil
  | _, _, n + 1, .cons h t => .cons h (ImAll.take n t)
theorem ImAll.drop : ∀ {vs : List V} {ds : List PyData} (n : Nat), ImAll K H vs ds → ImAll K H (vs.drop n) (ds.drop n)
  | _, _, 0, h => h
  | _, _, _ + 1, .nil => .nil
  | _, _, n + 1, .cons _ t => ImAll.drop n t
theorem ImAll.snoc (h : ImAll K H vs ds) (q : Im K H v d) : ImAll K H (vs ++ [v]) (ds ++ [d]) := h.append (.cons q .nil)
def Rp (K : PySem.W.Frag) (H : Hp) (v : V) (d : PyData) : Prop := Im K H v d ∨ ∃ a xs ds, v = .ref a ∧ d = .list ds ∧ H a = some (.lst xs) ∧ ImAll K H xs ds
def isL : PyData → Bool
  | .list _ => true
  | .dict _ => true
  | _ => false
theorem Rp.im (h : Rp K H v d) (n : isL d = false) : Im K H v d := by
  rcases h with h | ⟨a, xs, ds, _, rfl, _, _⟩
  · exact h
  · cases n
theorem Im.isL (h : Im K H v d) : isL d = false := by cases h <;> rfl
theorem Rp.mono (e : Same H H') (h : Rp K H v d) : Rp K H' v d := by
  rcases h with h | ⟨a, xs, ds, h1, h2, h3, h4⟩
  · exact .inl (h.mono (same_tk e))
  · exact .inr ⟨a, xs, ds, h1, h2, e _ _ h3, h4.mono (same_tk e)⟩
theorem Rp.int {i : Int} (h : Rp K H v (.int i)) : v = .int i := by
  have h2 := h.im rfl
  cases h2
  rfl
theorem Rp.bl {b : Bool} (h : Rp K H v (.bool b)) : v = .bl b := by
  have h2 := h.im rfl
  cases h2
  rfl
theorem Rp.str {x : Str} (h : Rp K H v (.str x)) : v = .str x := by
  have h2 := h.im rfl
  cases h2
  rfl
theorem Rp.non (h : Rp K H v .none) : v = .non := by
  have h2 := h.im rfl
  cases h2
  rfl
theorem Im.inT (h : Im K H v (.tuple ds)) : ∃ a xs, v = .ref a ∧ H a = some (.tup xs) ∧ ImAll K H xs ds := by
  cases h with
  | tup hs ha => exact ⟨_, _, rfl, hs, ha⟩
theorem Rp.tup (h : Rp K H v (.tuple ds)) : ∃ a xs, v = .ref a ∧ H a = some (.tup xs) ∧ ImAll K H xs ds := (h.im rfl).inT
theorem Rp.lst (h : Rp K H v (.list ds)) : ∃ a xs, v = .ref a ∧ H a = some (.lst xs) ∧ ImAll K H xs ds := by
  rcases h with h | ⟨a, xs, es, h1, h2, h3, h4⟩
  · cases h
  · cases h2
    exact ⟨a, xs, h1, h3, h4⟩
theorem Rp.dp (h : Rp K H v d) : Dp K H v d := by
  rcases h with h | ⟨a, xs, ds, rfl, rfl, h3, h4⟩
  · exact Im.dp d v h
  · exact .lst (SqL.of h3) (ImAll.dp _ _ h4)
abbrev RpA (K : PySem.W.Frag) (H : Hp) : List V → List PyData → Prop := Paired (Rp K H)
theorem RpA.mono (e : Same H H') : ∀ {vs : List V} {ds : List PyData}, RpA K H vs ds → RpA K H' vs ds
  | _, _, .nil => .nil
  | _, _, .cons h t => .cons (h.mono e) (RpA.mono e t)
theorem ImAll.of_rpA : ∀ {vs : List V} {ds : List PyData}, RpA K H vs ds → ds.any isL = false → ImAll K H vs ds
  | _, _, .nil, _ => .nil
  | _, _, .cons h t, n => by
    rw [List.any_cons, Bool.or_eq_false_iff] at n
    exact .cons (h.im n.1) (ImAll.of_rpA t n.2)
/-! ### environments -/
abbrev DE := List (Option PyData)
def RepS (K : PySem.W.Frag) (H : Hp) (σ : L2.St) (ρ : DE) : Prop := σ.length = ρ.length ∧ ∀ (i : Nat) (d : PyData), ρ[i]? = some (some d) → ∃ v, σ[i]? = some (some v) ∧ Rp K H v d
theorem RepS.mono {σ : L2.St} {ρ : DE} (e : Same H H') (h : RepS K H σ ρ) : RepS K H' σ ρ := ⟨h.1, fun i d q => by
  obtain ⟨v, h1, h2⟩ := h.2 i d q
  exact ⟨v, h1, h2.mono e⟩⟩
theorem RepS.set {σ : L2.St} {ρ : DE} {i : Nat} (h : RepS K H σ ρ) (r : Rp K H v d) : RepS K H (σ.set i (some v)) (ρ.set i (some d)) := by
  refine ⟨by rw [List.length_set, List.length_set]; exact h.1, fun j e q => ?_⟩
  by_cases hj : i = j
  · subst hj
    by_cases hl : i < ρ.length
    · rw [List.getElem?_set_self hl] at q
      obtain rfl : d = e := Option.some.inj (Option.some.inj q)
      exact ⟨v, List.getElem?_set_self (by rw [h.1]; exact hl), r⟩
    · rw [List.getElem?_eq_none (by rw [List.length_set]; omega)] at q
      cases q
  · rw [List.getElem?_set_ne hj] at q
    obtain ⟨w, h1, h2⟩ := h.2 j e q
    exact ⟨w, by rw [List.getElem?_set_ne hj]; exact h1, h2⟩
theorem RepS.unset {σ : L2.St} {ρ : DE} {i : Nat} (h : RepS K H σ ρ) : RepS K H (σ.set i none) (ρ.set i none) := by
  refine ⟨by rw [List.length_set, List.length_set]; exact h.1, fun j e q => ?_⟩
  by_cases hj : i = j
  · subst hj
    by_cases hl : i < ρ.length
    · rw [List.getElem?_set_self hl] at q
      cases q
    · rw [List.getElem?_eq_none (by rw [List.length_set]; omega)] at q
      cases q
  · rw [List.getElem?_set_ne hj] at q
    obtain ⟨w, h1, h2⟩ := h.2 j e q
    exact ⟨w, by rw [List.getElem?_set_ne hj]; exact h1, h2⟩
def wipeE (ρ : DE) : List Nat → DE
  | [] => ρ
  | v :: vs => (wipeE ρ vs).set v none
theorem RepS.wipe {σ : L2.St} {ρ : DE} (h : RepS K H σ ρ) : ∀ vs : List Nat, RepS K H (L2.wipe σ vs) (wipeE ρ vs)
  | [] => h
  | v :: vs => (RepS.wipe h vs).unset
theorem wipe_set_in {σ : L2.St} {i : Nat} {x : Option V} : ∀ {vs : List Nat}, i ∈ vs → L2.wipe (σ.set i x) vs = L2.wipe σ vs
  | v :: vs, h => by
    by_cases hv : i ∈ vs
    · show (L2.wipe (σ.set i x) vs).set v none = (L2.wipe σ vs).set v none
      rw [wipe_set_in hv]
    · have e : i = v := by
        rcases List.mem_cons.mp h with e | e
        · exact e
        · exact absurd e hv
      subst e
      show (L2.wipe (σ.set i x) vs).set i none = (L2.wipe σ vs).set i none
      have out : ∀ (vs : List Nat) (σ : L2.St), i ∉ vs → L2.wipe (σ.set i x) vs = (L2.wipe σ vs).set i x := by
        intro vs
        induction vs with
        | nil => intro σ _; rfl
        | cons w ws ih =>
          intro σ hn
          rw [List.mem_cons, not_or] at hn
          show (L2.wipe (σ.set i x) ws).set w none = ((L2.wipe σ ws).set w none).set i x
          rw [ih σ hn.2, List.set_comm _ _ hn.1]
      rw [out vs σ hv, List.set_set]
theorem wipe_wipe {σ : L2.St} (vs : List Nat) : L2.wipe (L2.wipe σ vs) vs = L2.wipe σ vs := by
  have key : ∀ (ws : List Nat) (σ : L2.St), (∀ i ∈ ws, i ∈ vs) → L2.wipe (L2.wipe σ ws) vs = L2.wipe σ vs := by
    intro ws
    induction ws with
    | nil => intro σ _; rfl
    | cons w ws ih =>
      intro σ h
      show L2.wipe ((L2.wipe σ ws).set w none) vs = _
      rw [wipe_set_in (h w List.mem_cons_self)]
      exact ih σ fun i hi => h i (List.mem_cons_of_mem _ hi)
  exact key vs σ fun _ h => h
end
end Wk

set_option maxHeartbeats 2000000
namespace Wk
open PySem L2
/-! ### judgements over data -/
abbrev Ev := DE → Option PyData
abbrev EvB := DE → Option Bool
abbrev EvL := DE → Option (List PyData)
def tD (K : PySem.W.Frag) (f : Ev) : TE := fun σ H Q => ∃ ρ d, RepS K H σ ρ ∧ f ρ = some d ∧ ∀ v H', Same H H' → Rp K H' v d → Q v H'
def tT (K : PySem.W.Frag) (f : EvB) : TT := fun σ H Q => ∃ ρ b, RepS K H σ ρ ∧ f ρ = some b ∧ ∀ H', Same H H' → Q b H'
def tA (K : PySem.W.Frag) (f : EvL) : TA := fun σ H Q => ∃ ρ ds, RepS K H σ ρ ∧ f ρ = some ds ∧ ∀ vs H', Same H H' → RpA K H' vs ds → Q vs H'
section
variable {X : Cx} {e : Expr} {es : List Expr}
theorem pe_w {t t' : TE} (h : PE X e t) (w : ∀ σ H Q, t' σ H Q → t σ H Q) : PE X e t' := ⟨fun pins s σ H Q I q => h.run pins s σ H Q I (w σ H Q q)⟩
theorem pt_w {t t' : TT} (h : PT X e t) (w : ∀ σ H Q, t' σ H Q → t σ H Q) : PT X e t' := ⟨fun pins s σ H Q I q => h.run pins s σ H Q I (w σ H Q q)⟩
theorem pw_w {t t' : TT} (h : PW X e t) (w : ∀ σ H Q, t' σ H Q → t σ H Q) : PW X e t' := ⟨fun wh pins s σ H Q I q => h.run wh pins s σ H Q I (w σ H Q q)⟩
theorem pa_w {t t' : TA} (h : PA X es t) (w : ∀ σ H Q, t' σ H Q → t σ H Q) : PA X es t' := ⟨fun pos pins s σ H Q I q => h.run pos pins s σ H Q I (w σ H Q q)⟩
theorem po_w {e : Option Expr} {t t' : TO} (h : PO X e t) (w : ∀ σ H Q, t' σ H Q → t σ H Q) : PO X e t' := ⟨fun pins s σ H Q I q => h.run pins s σ H Q I (w σ H Q q)⟩
theorem ps_w {st : Stmt} {t t' : TS} (h : PS X st t) (w : ∀ D σ H, t' D σ H → t D σ H) : PS X st t' := ⟨fun pins s σ H D I q => h.run pins s σ H D I (w D σ H q)⟩
theorem pss_w {st : List Stmt} {t t' : TS} (h : PSs X st t) (w : ∀ D σ H, t' D σ H → t D σ H) : PSs X st t' := ⟨fun pins s σ H D I q => h.run pins s σ H D I (w D σ H q)⟩
theorem pi_w {tg : Expr} {t t' : TI} (h : PI X tg e t) (w : ∀ σ H R, t' σ H R → t σ H R) : PI X tg e t' := ⟨fun pins s σ H R I q => h.run pins s σ H R I (w σ H R q)⟩
theorem pg_w {t t' : TG} (h : PG X e t) (w : ∀ v σ H Q, t' v σ H Q → t v σ H Q) : PG X e t' := ⟨fun pins s σ H v u Q I r q => h.run pins s σ H v u Q I r (w v σ H Q q)⟩
theorem pgs_w {t t' : TGs} (h : PGs X es t) (w : ∀ v σ H Q, t' v σ H Q → t v σ H Q) : PGs X es t' := ⟨fun pins s σ H v u Q I r q => h.run pins s σ H v u Q I r (w v σ H Q q)⟩
end
/-! ### names, constants -/
def vE (i : Nat) : Ev := fun ρ => (ρ[i]?).getD none
def cE (d : PyData) : Ev := fun _ => some d
def bE (f : EvB) : Ev := fun ρ => (f ρ).map .bool
def tE (f : Ev) : EvB := fun ρ => match f ρ with
  | some (.bool b) => some b
  | _ => none
section
variable {X : Cx} {K : PySem.W.Frag} {e a b c : Expr} {es : List Expr} {pos : Pos} {f fa fb fc : Ev} {g gb : EvB} {fs : EvL}
theorem getD_some {ρ : DE} {i : Nat} {d : PyData} (h : (ρ[i]?).getD none = some d) : ρ[i]? = some (some d) := by
  cases q : ρ[i]? with
  | none =>
    rw [q] at h
    cases h
  | some o =>
    rw [q] at h
    exact congrArg some h
theorem pd_var (i : Nat) {x : Str} (h : PE X (.Name x pos) (tVar i)) : PE X (.Name x pos) (tD K (vE i)) := pe_w h fun σ H Q ⟨ρ, d, r, q, k⟩ => by
  obtain ⟨v, h1, h2⟩ := r.2 i d (getD_some q)
  exact ⟨v, h1, k v H (Same.refl H) h2⟩
theorem pd_c {v : V} {d : PyData} (h : PE X e (tC v)) (r : ∀ H, Rp K H v d) : PE X e (tD K (cE d)) := pe_w h fun σ H Q ⟨ρ, d', _, q, k⟩ => by
  cases q
  exact k v H (Same.refl H) (r H)
theorem pd_int {i : Int} {j : Nat} : PE X (.Constant (.int i) j pos) (tD K (cE (.int i))) := pd_c pe_int fun _ => .inl (.int i)
theorem pd_bl {i : Bool} {j : Nat} : PE X (.Constant (.bool i) j pos) (tD K (cE (.bool i))) := pd_c pe_bl fun _ => .inl (.bl i)
theorem pd_non {j : Nat} : PE X (.Constant .none j pos) (tD K (cE .none)) := pd_c pe_non fun _ => .inl .non
theorem pd_str {x : Str} {j : Nat} : PE X (.Constant (.str x) j pos) (tD K (cE (.str x))) := pd_c pe_str fun _ => .inl (.str x)
theorem pd_gI {x : Str} {i : Int} (h : ∃ t, X.mg x = some (.int i t)) (hg : Gl X x := by rfl) (hd : (x == ("__debug__" : Str)) = false := by decide) : PE X (.Name x pos) (tD K (cE (.int i))) := by
  obtain ⟨t, h⟩ := h
  exact pd_c (v := .int i) (pe_glob hg h ⟨t, rfl⟩ hd) fun _ => .inl (.int i)
theorem pd_gS {x y : Str} (h : ∃ t, X.mg x = some (.str y t)) (hg : Gl X x := by rfl) (hd : (x == ("__debug__" : Str)) = false := by decide) : PE X (.Name x pos) (tD K (cE (.str y))) := by
  obtain ⟨t, h⟩ := h
  exact pd_c (v := .str y) (pe_glob hg h ⟨t, rfl⟩ hd) fun _ => .inl (.str y)
/-! ### arguments -/
def nilE : EvL := fun _ => some []
def consE (f : Ev) (fs : EvL) : EvL := fun ρ => (f ρ).bind fun x => (fs ρ).map (x :: ·)
theorem pd_nil : PA X [] (tA K nilE) := pa_w pa_nil fun σ H Q ⟨ρ, ds, _, q, k⟩ => by
  cases q
  exact k [] H (Same.refl H) .nil
theorem pd_cons (ha : PE X e (tD K f)) (hr : PA X es (tA K fs)) (hs : starEach (e :: es) X.env = (false, eval e X.env) :: starEach es X.env := by rfl) : PA X (e :: es) (tA K (consE f fs)) := pa_w (pa_cons ha hr hs) fun σ H Q ⟨ρ, ds, r, q, k⟩ => by
  unfold consE at q
  obtain ⟨x, h1, h2⟩ := Option.bind_eq_some_iff.mp q
  obtain ⟨xs, h3, rfl⟩ := Option.map_eq_some_iff.mp h2
  exact ⟨ρ, x, r, h1, fun v H1 e1 r1 => ⟨ρ, xs, r.mono e1, h3, fun vs H2 e2 r2 => k (v :: vs) H2 (e1.trans e2) (.cons (r1.mono e2) r2)⟩⟩
/-! ### binary operations by values -/
def OpD (K : PySem.W.Frag) (r : R2) (g : PyData → PyData → Option PyData) : Prop := ∀ x y H Q a b d, Rp K H x a → Rp K H y b → g a b = some d → (∀ v H', Same H H' → Rp K H' v d → Q v H') → r x y H Q
def CmpD (K : PySem.W.Frag) (r : R2) (g : PyData → PyData → Option Bool) : Prop := ∀ x y H Q a b k, Rp K H x a → Rp K H y b → g a b = some k → Q (.bl k) H → r x y H Q
def op2 (g : PyData → PyData → Option PyData) (fa fb : Ev) : Ev := fun ρ => (fa ρ).bind fun x => (fb ρ).bind fun y => g x y
def cmp2 (g : PyData → PyData → Option Bool) (fa fb : Ev) : EvB := fun ρ => (fa ρ).bind fun x => (fb ρ).bind fun y => g x y
theorem op2_in {g : PyData → PyData → Option PyData} {ρ : DE} {d : PyData} (h : op2 g fa fb ρ = some d) : ∃ x y, fa ρ = some x ∧ fb ρ = some y ∧ g x y = some d := by
  unfold op2 at h
  obtain ⟨x, h1, h2⟩ := Option.bind_eq_some_iff.mp h
  obtain ⟨y, h3, h4⟩ := Option.bind_eq_some_iff.mp h2
  exact ⟨x, y, h1, h3, h4⟩
theorem cmp2_in {g : PyData → PyData → Option Bool} {ρ : DE} {k : Bool} (h : cmp2 g fa fb ρ = some k) : ∃ x y, fa ρ = some x ∧ fb ρ = some y ∧ g x y = some k := by
  unfold cmp2 at h
  obtain ⟨x, h1, h2⟩ := Option.bind_eq_some_iff.mp h
  obtain ⟨y, h3, h4⟩ := Option.bind_eq_some_iff.mp h2
  exact ⟨x, y, h1, h3, h4⟩
theorem pd_op {op : Operator} {r : R2} {g : PyData → PyData → Option PyData} (ho : OpR X (binaryOp op) r) (hd : OpD K r g) (ha : PE X a (tD K fa)) (hb : PE X b (tD K fb)) : PE X (.BinOp a op b pos) (tD K (op2 g fa fb)) :=
  pe_w (pe_op ho ha hb) fun σ H Q ⟨ρ, d, r, q, k⟩ => by
    obtain ⟨x, y, h1, h2, h3⟩ := op2_in q
    exact ⟨ρ, x, r, h1, fun v H1 e1 r1 => ⟨ρ, y, r.mono e1, h2, fun u H2 e2 r2 => hd v u H2 Q x y d (r1.mono e2) r2 h3 fun z H3 e3 r3 => k z H3 ((e1.trans e2).trans e3) r3⟩⟩
theorem pd_cmp {op : CmpOp} {r : R2} {g : PyData → PyData → Option Bool} (ho : OpR X (compareOp op) r) (hd : CmpD K r g) (ha : PE X a (tD K fa)) (hb : PE X b (tD K fb)) (hm : behindInMarks op b = false) : PE X (.Compare a [op] [b] pos) (tD K (bE (cmp2 g fa fb))) :=
  pe_w (pe_cmpR ho ha hb hm) fun σ H Q ⟨ρ, d, r, q, k⟩ => by
    obtain ⟨z, h0, rfl⟩ := Option.map_eq_some_iff.mp (show (cmp2 g fa fb ρ).map PyData.bool = some d from q)
    obtain ⟨x, y, h1, h2, h3⟩ := cmp2_in h0
    exact ⟨ρ, x, r, h1, fun v H1 e1 r1 => ⟨ρ, y, r.mono e1, h2, fun u H2 e2 r2 => hd v u H2 Q x y z (r1.mono e2) r2 h3 (k _ H2 (e1.trans e2) (.inl (.bl z)))⟩⟩
theorem td_cmp {op : CmpOp} {r : R2} {g : PyData → PyData → Option Bool} (ho : OpR X (compareOp op) r) (hd : CmpD K r g) (ha : PE X a (tD K fa)) (hb : PE X b (tD K fb)) (hm : behindInMarks op b = false) : PT X (.Compare a [op] [b] pos) (tT K (cmp2 g fa fb)) :=
  pt_w (pt_cmpR ho ha hb hm) fun σ H Q ⟨ρ, z, r, q, k⟩ => by
    obtain ⟨x, y, h1, h2, h3⟩ := cmp2_in q
    exact ⟨ρ, x, r, h1, fun v H1 e1 r1 => ⟨ρ, y, r.mono e1, h2, fun u H2 e2 r2 => hd v u H2 _ x y z (r1.mono e2) r2 h3 ⟨z, rfl, k H2 (e1.trans e2)⟩⟩⟩
/-- a test that is an expression's value -/
theorem td_val (h : PE X e (tD K f)) (he : ∀ whole, isTrue e X.env whole = (do let v ← whole; standAt e.pos; holding [v] (truthy v)) := by intro _; rfl) : PT X e (tT K (tE f)) :=
  pt_w (pt_val h he) fun σ H Q ⟨ρ, z, r, q, k⟩ => by
    unfold tE at q
    split at q
    · rename_i b0 h0
      cases q
      refine ⟨ρ, .bool z, r, h0, fun v H1 e1 r1 => ?_⟩
      rw [r1.bl]
      exact ⟨z, rfl, k H1 e1⟩
    · cases q
/-! ### ints -/
def addD : PyData → PyData → Option PyData
  | .int i, .int j => some (.int (i + j))
  | .list xs, .list ys => if xs.length + ys.length ≤ 10000 then some (.list (xs ++ ys)) else none
  | .tuple xs, .tuple ys => if xs.length + ys.length ≤ 10000 then some (.tuple (xs ++ ys)) else none
  | _, _ => none
def subD : PyData → PyData → Option PyData
  | .int i, .int j => some (.int (i - j))
  | _, _ => none
theorem ten : 10000 < sizeLine := by decide
theorem addD_ok : OpD K (fun x y H Q => rI0 (fun i j => .int (i + j)) x y H Q ∨ rCat x y H Q ∨ rCatA K x y H Q) addD := by
  intro x y H Q a b d ra rb h k
  unfold addD at h
  split at h
  · cases h
    rw [ra.int, rb.int]
    exact .inl ⟨_, _, rfl, rfl, k _ H (Same.refl H) (.inl (.int _))⟩
  · split at h
    · rename_i hl
      cases h
      obtain ⟨p, vs, rfl, h1, h2⟩ := ra.lst
      obtain ⟨q, ws, rfl, h3, h4⟩ := rb.lst
      have l1 := h2.length
      have l2 := h4.length
      refine .inr (.inl ⟨p, q, vs, ws, rfl, rfl, h1, h3, Nat.le_of_lt (Nat.lt_of_le_of_lt (by omega) ten), fun t ht => k _ _ (Same.new ht) (.inr ⟨t, _, _, rfl, rfl, upd_same, ?_⟩)⟩)
      exact (h2.append h4).mono (TK.new ht)
    · cases h
  · split at h
    · rename_i hl
      cases h
      obtain ⟨p, vs, rfl, h1, h2⟩ := ra.tup
      obtain ⟨q, ws, rfl, h3, h4⟩ := rb.tup
      have l1 := h2.length
      have l2 := h4.length
      refine .inr (.inr ⟨p, q, vs, ws, rfl, rfl, SqT.of h1, SqT.of h3, Nat.le_of_lt (Nat.lt_of_le_of_lt (by omega) ten), fun e => ?_, fun _ e => ?_, fun _ _ t ht => ?_⟩)
      · subst e
        cases h2
        exact k _ H (Same.refl H) (.inl (.tup h3 h4))
      · subst e
        cases h4
        rw [List.append_nil] at k
        exact k _ H (Same.refl H) (.inl (.tup h1 h2))
      · exact k _ _ (Same.new ht) (.inl (.tup upd_same ((h2.append h4).mono (TK.new ht))))
    · cases h
  · cases h
theorem subD_ok : OpD K (rI0 fun i j => .int (i - j)) subD := by
  intro x y H Q a b d ra rb h k
  unfold subD at h
  split at h
  · cases h
    rw [ra.int, rb.int]
    exact ⟨_, _, rfl, rfl, k _ H (Same.refl H) (.inl (.int _))⟩
  · cases h
theorem pd_add (ha : PE X a (tD X.K fa)) (hb : PE X b (tD X.K fb)) : PE X (.BinOp a .Add b pos) (tD X.K (op2 addD fa fb)) := pd_op (op_add.or (op_cat.or op_catA)) addD_ok ha hb
theorem pd_sub (ha : PE X a (tD X.K fa)) (hb : PE X b (tD X.K fb)) : PE X (.BinOp a .Sub b pos) (tD X.K (op2 subD fa fb)) := pd_op op_sub subD_ok ha hb
def fdivD : PyData → PyData → Option PyData
  | .int i, .int j => if 0 < j ∧ j < 1000 then some (.int (i / j)) else none
  | _, _ => none
def modD : PyData → PyData → Option PyData
  | .int i, .int j => if 0 < j then some (.int (i % j)) else none
  | _, _ => none
def mulD : PyData → PyData → Option PyData
  | .int i, .int j => if 0 ≤ i ∧ i < 1000000 then some (.int (i * j)) else none
  | _, _ => none
theorem fdivD_ok : OpD K (rI CDiv fun i j => .int (i / j)) fdivD := by
  intro x y H Q a b d ra rb h k
  unfold fdivD at h
  split at h
  · split at h
    · rename_i hc
      cases h
      rw [ra.int, rb.int]
      exact ⟨_, _, rfl, rfl, ⟨hc.1, Int.lt_trans hc.2 (by decide)⟩, k _ H (Same.refl H) (.inl (.int _))⟩
    · cases h
  · cases h
theorem modD_ok : OpD K (rI (fun _ j => 0 < j) fun i j => .int (i % j)) modD := by
  intro x y H Q a b d ra rb h k
  unfold modD at h
  split at h
  · split at h
    · rename_i hc
      cases h
      rw [ra.int, rb.int]
      exact ⟨_, _, rfl, rfl, hc, k _ H (Same.refl H) (.inl (.int _))⟩
    · cases h
  · cases h
theorem mulD_ok : OpD K (rI CMul fun i j => .int (i * j)) mulD := by
  intro x y H Q a b d ra rb h k
  unfold mulD at h
  split at h
  · split at h
    · rename_i hc
      cases h
      rw [ra.int, rb.int]
      exact ⟨_, _, rfl, rfl, .inl ⟨by omega, by omega⟩, k _ H (Same.refl H) (.inl (.int _))⟩
    · cases h
  · cases h
theorem pd_fdiv (ha : PE X a (tD X.K fa)) (hb : PE X b (tD X.K fb)) : PE X (.BinOp a .FloorDiv b pos) (tD X.K (op2 fdivD fa fb)) := pd_op op_fdiv fdivD_ok ha hb
theorem pd_mod (ha : PE X a (tD X.K fa)) (hb : PE X b (tD X.K fb)) : PE X (.BinOp a .Mod b pos) (tD X.K (op2 modD fa fb)) := pd_op op_mod modD_ok ha hb
theorem pd_mul (ha : PE X a (tD X.K fa)) (hb : PE X b (tD X.K fb)) : PE X (.BinOp a .Mult b pos) (tD X.K (op2 mulD fa fb)) := pd_op op_mul mulD_ok ha hb
/-! ### comparisons -/
def icmp (p : Int → Int → Bool) : PyData → PyData → Option Bool
  | .int i, .int j => some (p i j)
  | _, _ => none
theorem icmp_ok {p : Int → Int → Bool} : CmpD K (rI0 fun i j => .bl (p i j)) (icmp p) := by
  intro x y H Q a b z ra rb h k
  unfold icmp at h
  split at h
  · cases h
    rw [ra.int, rb.int]
    exact ⟨_, _, rfl, rfl, k⟩
  · cases h
def leB := icmp fun i j => decide (i ≤ j)
def gtB := icmp fun i j => decide (j < i)
def geB := icmp fun i j => decide (j ≤ i)
def intsOf : List PyData → Option (List Int)
  | [] => some []
  | .int i :: r => (intsOf r).map (i :: ·)
  | _ :: _ => none
theorem ints_vals : ∀ {ds : List PyData} {ns : List Int} {vs : List V} {H : Hp}, intsOf ds = some ns → ImAll K H vs ds → vs = ns.map V.int
  | [], ns, vs, H, h, q => by
    cases h
    cases q
    rfl
  | d :: r, ns, vs, H, h, q => by
    cases q with
    | cons q1 q2 =>
      cases d with
      | int i =>
        obtain ⟨ms, h1, rfl⟩ := Option.map_eq_some_iff.mp (show (intsOf r).map (i :: ·) = some ns from h)
        rw [ints_vals h1 q2]
        cases q1
        rfl
      | _ => cases h
def ltB : PyData → PyData → Option Bool
  | .int i, .int j => some (decide (i < j))
  | .tuple xs, .tuple ys => (intsOf xs).bind fun ns => (intsOf ys).map fun ms => HT.lexLt ns ms
  | _, _ => none
theorem ltB_ok : CmpD K (fun x y H Q => rI0 (fun i j => .bl (decide (i < j))) x y H Q ∨ rLtT K x y H Q) ltB := by
  intro x y H Q a b z ra rb h k
  unfold ltB at h
  split at h
  · cases h
    rw [ra.int, rb.int]
    exact .inl ⟨_, _, rfl, rfl, k⟩
  · obtain ⟨ns, h1, h2⟩ := Option.bind_eq_some_iff.mp h
    obtain ⟨ms, h3, rfl⟩ := Option.map_eq_some_iff.mp h2
    obtain ⟨p, vs, rfl, q1, q2⟩ := ra.tup
    obtain ⟨p', ws, rfl, q3, q4⟩ := rb.tup
    rw [ints_vals h1 q2] at q1
    rw [ints_vals h3 q4] at q3
    exact .inr ⟨p, p', ns, ms, rfl, rfl, SqT.of q1, SqT.of q3, k⟩
  · cases h
mutual
theorem Im.plain {H : Hp} : ∀ (d : PyData) (v : V), Im K H v d → d.plain = true
  | .none, _, _ => rfl
  | .bool b, _, _ => rfl
  | .int i, _, _ => rfl
  | .str x, _, _ => rfl
  | .list _, _, h => by cases h
  | .tuple ds, _, h => by
    cases h with
    | tup hs ha => exact (by simp only [PyData.plain]; exact ImAll.plain ds _ ha)
  | .dict _, _, h => by cases h
theorem ImAll.plain {H : Hp} : ∀ (ds : List PyData) (vs : List V), ImAll K H vs ds → PyData.plainAll ds = true
  | [], _, _ => rfl
  | d :: ds, _, h => by
    cases h with
    | cons h1 h2 =>
      simp only [PyData.plainAll, Bool.and_eq_true]
      exact ⟨Im.plain d _ h1, ImAll.plain ds _ h2⟩
end
theorem Rp.plain {H : Hp} {v : V} {d : PyData} (h : Rp K H v d) : d.plain = true := by
  rcases h with h | ⟨a, xs, ds, rfl, rfl, _, h4⟩
  · exact Im.plain d v h
  · simp only [PyData.plain]
    exact ImAll.plain ds _ h4
def eqB : PyData → PyData → Option Bool
  | .int i, .int j => some (decide (i = j))
  | .str x, .str y => some (decide (x = y))
  | a, b => if a.depth ≤ 8 then some (PyData.eqv a b) else none
def neB : PyData → PyData → Option Bool := fun a b => (eqB a b).map (!·)
def rEqP (K : PySem.W.Frag) : R2 := fun x y H Q => ∃ d e, Rp K H x d ∧ Rp K H y e ∧ d.depth ≤ 8 ∧ Q (.bl (PyData.eqv d e)) H
def rNeP (K : PySem.W.Frag) : R2 := fun x y H Q => ∃ d e, Rp K H x d ∧ Rp K H y e ∧ d.depth ≤ 8 ∧ Q (.bl (!PyData.eqv d e)) H
theorem room8 {A : Around} {d e : PyData} (hu : A.units + 64 < cLine) (h : d.depth ≤ 8) : A.units + min d.depth e.depth < cLine := by
  have := Nat.min_le_left d.depth e.depth
  omega
theorem op_eqP (hu : X.A.units + 64 < cLine) : OpR X (compareOp .Eq) (rEqP X.K) := by
  intro pins s σ H x y v u Q I rx ry h
  obtain ⟨d, e, hd, he, sd, q⟩ := h
  obtain ⟨as, r1⟩ := Dp.reads I d x v hd.dp rx
  obtain ⟨bs, r2⟩ := Dp.reads I e y u he.dp ry
  exact SeqAt.eq_plain r1 r2 hd.plain he.plain (room8 hu sd) ⟨.bl _, H, I, rfl, q⟩
theorem op_neP (hu : X.A.units + 64 < cLine) : OpR X (compareOp .NotEq) (rNeP X.K) := by
  intro pins s σ H x y v u Q I rx ry h
  obtain ⟨d, e, hd, he, sd, q⟩ := h
  obtain ⟨as, r1⟩ := Dp.reads I d x v hd.dp rx
  obtain ⟨bs, r2⟩ := Dp.reads I e y u he.dp ry
  exact SeqAt.ne_plain r1 r2 hd.plain he.plain (room8 hu sd) ⟨.bl _, H, I, rfl, q⟩
theorem dec_inj {i j : Int} : decide (V.int i = V.int j) = decide (i = j) := by
  by_cases h : i = j
  · subst h
    simp
  · rw [decide_eq_false h, decide_eq_false (fun e => h (V.int.inj e))]
theorem dec_injS {i j : Str} : decide (V.str i = V.str j) = decide (i = j) := by
  by_cases h : i = j
  · subst h
    simp
  · rw [decide_eq_false h, decide_eq_false (fun e => h (V.str.inj e))]
theorem eqB_ok : CmpD K (fun x y H Q => rEq x y H Q ∨ rEqP K x y H Q) eqB := by
  intro x y H Q a b z ra rb h k
  unfold eqB at h
  split at h
  · cases h
    rw [ra.int, rb.int]
    exact .inl ⟨rfl, by rw [dec_inj]; exact k⟩
  · cases h
    rw [ra.str, rb.str]
    exact .inl ⟨rfl, by rw [dec_injS]; exact k⟩
  · split at h
    · rename_i hd
      cases h
      exact .inr ⟨a, b, ra, rb, hd, k⟩
    · cases h
theorem neB_ok : CmpD K (fun x y H Q => rNe x y H Q ∨ rNeP K x y H Q) neB := by
  intro x y H Q a b z ra rb h k
  obtain ⟨t, h0, rfl⟩ := Option.map_eq_some_iff.mp (show (eqB a b).map (!·) = some z from h)
  unfold eqB at h0
  split at h0
  · cases h0
    rw [ra.int, rb.int]
    exact .inl ⟨rfl, by rw [dec_inj]; exact k⟩
  · cases h0
    rw [ra.str, rb.str]
    exact .inl ⟨rfl, by rw [dec_injS]; exact k⟩
  · split at h0
    · rename_i hd
      cases h0
      exact .inr ⟨a, b, ra, rb, hd, k⟩
    · cases h0
/-- x in a list, a tuple -/
def inB : PyData → PyData → Option Bool
  | x, .list ds => if x.depth ≤ 8 then some (ds.any fun y => PyData.eqv y x) else none
  | x, .tuple ds => if x.depth ≤ 8 then some (ds.any fun y => PyData.eqv y x) else none
  | _, _ => none
def niB : PyData → PyData → Option Bool := fun a b => (inB a b).map (!·)
def rInP (K : PySem.W.Frag) (neg : Bool) : R2 := fun x y H Q => ∃ d ds, Rp K H x d ∧ (Rp K H y (.list ds) ∨ Rp K H y (.tuple ds)) ∧ d.depth ≤ 8 ∧ Q (.bl (if neg then !ds.any (fun z => PyData.eqv z d) else ds.any fun z => PyData.eqv z d)) H
theorem room8i {A : Around} {d : PyData} {n : Nat} (hu : A.units + 64 < cLine) (h : d.depth ≤ 8) : A.units + 1 + min n d.depth < cLine := by
  have := Nat.min_le_right n d.depth
  omega
theorem op_inP (hu : X.A.units + 64 < cLine) : OpR X (compareOp .In) (rInP X.K false) := by
  intro pins s σ H x y v u Q I rx ry h
  obtain ⟨d, ds, hd, he, sd, q⟩ := h
  obtain ⟨as, r1⟩ := Dp.reads I d x v hd.dp rx
  rcases he with he | he
  · obtain ⟨bs, r2⟩ := Dp.reads I (.list ds) y u he.dp ry
    have hp := he.plain
    simp only [PyData.plain] at hp
    exact SeqAt.in_list_data r2 r1 hp hd.plain (room8i hu sd) ⟨.bl _, H, I, rfl, q⟩
  · obtain ⟨bs, r2⟩ := Dp.reads I (.tuple ds) y u he.dp ry
    have hp := he.plain
    simp only [PyData.plain] at hp
    exact SeqAt.in_tuple_data r2 r1 hp hd.plain (room8i hu sd) ⟨.bl _, H, I, rfl, q⟩
theorem op_niP (hu : X.A.units + 64 < cLine) : OpR X (compareOp .NotIn) (rInP X.K true) := by
  intro pins s σ H x y v u Q I rx ry h
  obtain ⟨d, ds, hd, he, sd, q⟩ := h
  obtain ⟨as, r1⟩ := Dp.reads I d x v hd.dp rx
  rcases he with he | he
  · obtain ⟨bs, r2⟩ := Dp.reads I (.list ds) y u he.dp ry
    have hp := he.plain
    simp only [PyData.plain] at hp
    exact SeqAt.notIn_list_data r2 r1 hp hd.plain (room8i hu sd) ⟨.bl _, H, I, rfl, q⟩
  · obtain ⟨bs, r2⟩ := Dp.reads I (.tuple ds) y u he.dp ry
    have hp := he.plain
    simp only [PyData.plain] at hp
    exact SeqAt.notIn_tuple_data r2 r1 hp hd.plain (room8i hu sd) ⟨.bl _, H, I, rfl, q⟩
theorem inB_in {a b : PyData} {z : Bool} (h : inB a b = some z) : ∃ ds, (b = .list ds ∨ b = .tuple ds) ∧ a.depth ≤ 8 ∧ z = ds.any fun y => PyData.eqv y a := by
  unfold inB at h
  split at h
  · split at h
    · rename_i hd
      cases h
      exact ⟨_, .inl rfl, hd, rfl⟩
    · cases h
  · split at h
    · rename_i hd
      cases h
      exact ⟨_, .inr rfl, hd, rfl⟩
    · cases h
  · cases h
theorem inB_ok : CmpD K (rInP K false) inB := by
  intro x y H Q a b z ra rb h k
  obtain ⟨ds, hb, hd, rfl⟩ := inB_in h
  refine ⟨a, ds, ra, ?_, hd, k⟩
  rcases hb with rfl | rfl
  · exact .inl rb
  · exact .inr rb
theorem niB_ok : CmpD K (rInP K true) niB := by
  intro x y H Q a b z ra rb h k
  obtain ⟨t, h0, rfl⟩ := Option.map_eq_some_iff.mp (show (inB a b).map (!·) = some z from h)
  obtain ⟨ds, hb, hd, rfl⟩ := inB_in h0
  refine ⟨a, ds, ra, ?_, hd, k⟩
  rcases hb with rfl | rfl
  · exact .inl rb
  · exact .inr rb
theorem units0 (hu : X.A.units + 64 < cLine) : X.A.units < cLine := by omega
theorem pd_lt (hu : X.A.units + 64 < cLine) (ha : PE X a (tD X.K fa)) (hb : PE X b (tD X.K fb)) : PE X (.Compare a [.Lt] [b] pos) (tD X.K (bE (cmp2 ltB fa fb))) := pd_cmp (op_lt.or (op_ltT (units0 hu))) ltB_ok ha hb (nomark _)
theorem td_lt (hu : X.A.units + 64 < cLine) (ha : PE X a (tD X.K fa)) (hb : PE X b (tD X.K fb)) : PT X (.Compare a [.Lt] [b] pos) (tT X.K (cmp2 ltB fa fb)) := td_cmp (op_lt.or (op_ltT (units0 hu))) ltB_ok ha hb (nomark _)
theorem pd_le (ha : PE X a (tD X.K fa)) (hb : PE X b (tD X.K fb)) : PE X (.Compare a [.LtE] [b] pos) (tD X.K (bE (cmp2 leB fa fb))) := pd_cmp op_le icmp_ok ha hb (nomark _)
theorem td_le (ha : PE X a (tD X.K fa)) (hb : PE X b (tD X.K fb)) : PT X (.Compare a [.LtE] [b] pos) (tT X.K (cmp2 leB fa fb)) := td_cmp op_le icmp_ok ha hb (nomark _)
theorem pd_gt (ha : PE X a (tD X.K fa)) (hb : PE X b (tD X.K fb)) : PE X (.Compare a [.Gt] [b] pos) (tD X.K (bE (cmp2 gtB fa fb))) := pd_cmp op_gt icmp_ok ha hb (nomark _)
theorem td_gt (ha : PE X a (tD X.K fa)) (hb : PE X b (tD X.K fb)) : PT X (.Compare a [.Gt] [b] pos) (tT X.K (cmp2 gtB fa fb)) := td_cmp op_gt icmp_ok ha hb (nomark _)
theorem pd_ge (ha : PE X a (tD X.K fa)) (hb : PE X b (tD X.K fb)) : PE X (.Compare a [.GtE] [b] pos) (tD X.K (bE (cmp2 geB fa fb))) := pd_cmp op_ge icmp_ok ha hb (nomark _)
theorem pd_eq (hu : X.A.units + 64 < cLine) (ha : PE X a (tD X.K fa)) (hb : PE X b (tD X.K fb)) : PE X (.Compare a [.Eq] [b] pos) (tD X.K (bE (cmp2 eqB fa fb))) := pd_cmp (op_eq.or (op_eqP hu)) eqB_ok ha hb (nomark _)
theorem td_eq (hu : X.A.units + 64 < cLine) (ha : PE X a (tD X.K fa)) (hb : PE X b (tD X.K fb)) : PT X (.Compare a [.Eq] [b] pos) (tT X.K (cmp2 eqB fa fb)) := td_cmp (op_eq.or (op_eqP hu)) eqB_ok ha hb (nomark _)
theorem pd_ne (hu : X.A.units + 64 < cLine) (ha : PE X a (tD X.K fa)) (hb : PE X b (tD X.K fb)) : PE X (.Compare a [.NotEq] [b] pos) (tD X.K (bE (cmp2 neB fa fb))) := pd_cmp (op_ne.or (op_neP hu)) neB_ok ha hb (nomark _)
theorem td_ne (hu : X.A.units + 64 < cLine) (ha : PE X a (tD X.K fa)) (hb : PE X b (tD X.K fb)) : PT X (.Compare a [.NotEq] [b] pos) (tT X.K (cmp2 neB fa fb)) := td_cmp (op_ne.or (op_neP hu)) neB_ok ha hb (nomark _)
theorem pd_in (hu : X.A.units + 64 < cLine) (ha : PE X a (tD X.K fa)) (hb : PE X b (tD X.K fb)) (hm : behindInMarks .In b = false := by rfl) : PE X (.Compare a [.In] [b] pos) (tD X.K (bE (cmp2 inB fa fb))) := pd_cmp (op_inP hu) inB_ok ha hb hm
theorem td_in (hu : X.A.units + 64 < cLine) (ha : PE X a (tD X.K fa)) (hb : PE X b (tD X.K fb)) (hm : behindInMarks .In b = false := by rfl) : PT X (.Compare a [.In] [b] pos) (tT X.K (cmp2 inB fa fb)) := td_cmp (op_inP hu) inB_ok ha hb hm
theorem pd_ni (hu : X.A.units + 64 < cLine) (ha : PE X a (tD X.K fa)) (hb : PE X b (tD X.K fb)) (hm : behindInMarks .NotIn b = false := by rfl) : PE X (.Compare a [.NotIn] [b] pos) (tD X.K (bE (cmp2 niB fa fb))) := pd_cmp (op_niP hu) niB_ok ha hb hm
theorem td_ni (hu : X.A.units + 64 < cLine) (ha : PE X a (tD X.K fa)) (hb : PE X b (tD X.K fb)) (hm : behindInMarks .NotIn b = false := by rfl) : PT X (.Compare a [.NotIn] [b] pos) (tT X.K (cmp2 niB fa fb)) := td_cmp (op_niP hu) niB_ok ha hb hm
/-! ### a <= b <= c -/
def chE (p q : PyData → PyData → Option Bool) (fa fb fc : Ev) : EvB := fun ρ => (fa ρ).bind fun x => (fb ρ).bind fun y => (p x y).bind fun k => if k then (fc ρ).bind fun z => q y z else some false
theorem chE_in {p q : PyData → PyData → Option Bool} {ρ : DE} {k : Bool} (h : chE p q fa fb fc ρ = some k) : ∃ x y j, fa ρ = some x ∧ fb ρ = some y ∧ p x y = some j ∧ ((j = true ∧ ∃ z, fc ρ = some z ∧ q y z = some k) ∨ (j = false ∧ k = false)) := by
  unfold chE at h
  obtain ⟨x, h1, h2⟩ := Option.bind_eq_some_iff.mp h
  obtain ⟨y, h3, h4⟩ := Option.bind_eq_some_iff.mp h2
  obtain ⟨j, h5, h6⟩ := Option.bind_eq_some_iff.mp h4
  refine ⟨x, y, j, h1, h3, h5, ?_⟩
  cases j with
  | true =>
    rw [if_pos rfl] at h6
    obtain ⟨z, h7, h8⟩ := Option.bind_eq_some_iff.mp h6
    exact .inl ⟨rfl, z, h7, h8⟩
  | false =>
    rw [if_neg Bool.false_ne_true] at h6
    cases h6
    exact .inr ⟨rfl, rfl⟩
theorem chain_read {p q : PyData → PyData → Option Bool} {r r' : R2} {ρ : DE} {k : Bool} {σ : L2.St} {H : Hp} {Q : VK} (hp : CmpD K r p) (hq : CmpD K r' q) (r0 : RepS K H σ ρ) (h : chE p q fa fb fc ρ = some k) (kk : ∀ H', Same H H' → Q (.bl k) H') :
    tChain r r' (tD K fa) (tD K fb) (tD K fc) σ H Q := by
  obtain ⟨x, y, j, h1, h2, h3, h4⟩ := chE_in h
  refine ⟨ρ, x, r0, h1, fun v H1 e1 r1 => ⟨ρ, y, r0.mono e1, h2, fun u H2 e2 r2 => hp v u H2 _ x y j (r1.mono e2) r2 h3 ⟨j, rfl, ?_⟩⟩⟩
  rcases h4 with ⟨rfl, z, h5, h6⟩ | ⟨rfl, rfl⟩
  · rw [if_pos rfl]
    exact ⟨ρ, z, r0.mono (e1.trans e2), h5, fun w H3 e3 r3 => hq u w H3 _ y z k (r2.mono e3) r3 h6 (kk H3 ((e1.trans e2).trans e3))⟩
  · rw [if_neg Bool.false_ne_true]
    exact kk H2 (e1.trans e2)
theorem pd_lele (ha : PE X a (tD X.K fa)) (hb : PE X b (tD X.K fb)) (hc : PE X c (tD X.K fc)) (hm : lastMarks [.LtE, .LtE] [b, c] = false := by with_unfolding_all rfl) : PE X (.Compare a [.LtE, .LtE] [b, c] pos) (tD X.K (bE (chE leB leB fa fb fc))) :=
  pe_w (pe_chain op_le op_le ha hb hc hm) fun σ H Q ⟨ρ, d, r, q, k⟩ => by
    obtain ⟨z, h0, rfl⟩ := Option.map_eq_some_iff.mp (show (chE leB leB fa fb fc ρ).map PyData.bool = some d from q)
    exact chain_read icmp_ok icmp_ok r h0 fun H' e => k _ H' e (.inl (.bl z))
theorem td_lele (ha : PE X a (tD X.K fa)) (hb : PE X b (tD X.K fb)) (hc : PE X c (tD X.K fc)) (hm : lastMarks [.LtE, .LtE] [b, c] = false := by with_unfolding_all rfl) : PT X (.Compare a [.LtE, .LtE] [b, c] pos) (tT X.K (chE leB leB fa fb fc)) :=
  pt_w (pt_chain op_le op_le ha hb hc hm) fun σ H Q ⟨ρ, z, r, q, k⟩ => chain_read icmp_ok icmp_ok r q fun H' e => ⟨z, rfl, k H' e⟩
/-! ### is None -/
def isN : PyData → Bool
  | .none => true
  | _ => false
def isNE (f : Ev) : EvB := fun ρ => (f ρ).map isN
def notNE (f : Ev) : EvB := fun ρ => (f ρ).map fun d => !isN d
theorem Rp.isN {H : Hp} {v : V} {d : PyData} (h : Rp K H v d) : decide (v = .non) = isN d := by
  rcases h with h | ⟨a, xs, ds, rfl, rfl, _, _⟩
  · cases h <;> rfl
  · rfl
theorem pd_isN {j : Nat} {p' : Pos} (ha : PE X a (tD K fa)) : PE X (.Compare a [.Is] [.Constant .none j p'] pos) (tD K (bE (isNE fa))) := pe_w (pe_cmp (pc_isN ha) rfl) fun σ H Q ⟨ρ, d, r, q, k⟩ => by
  obtain ⟨z, h0, rfl⟩ := Option.map_eq_some_iff.mp (show (isNE fa ρ).map PyData.bool = some d from q)
  obtain ⟨x, h1, rfl⟩ := Option.map_eq_some_iff.mp (show (fa ρ).map isN = some z from h0)
  exact ⟨ρ, x, r, h1, fun v H1 e1 r1 => by show Q (.bl (decide (v = .non))) H1; rw [r1.isN]; exact k _ H1 e1 (.inl (.bl _))⟩
theorem pd_notN {j : Nat} {p' : Pos} (ha : PE X a (tD K fa)) : PE X (.Compare a [.IsNot] [.Constant .none j p'] pos) (tD K (bE (notNE fa))) := pe_w (pe_cmp (pc_notN ha) rfl) fun σ H Q ⟨ρ, d, r, q, k⟩ => by
  obtain ⟨z, h0, rfl⟩ := Option.map_eq_some_iff.mp (show (notNE fa ρ).map PyData.bool = some d from q)
  obtain ⟨x, h1, rfl⟩ := Option.map_eq_some_iff.mp (show (fa ρ).map (fun d => !isN d) = some z from h0)
  exact ⟨ρ, x, r, h1, fun v H1 e1 r1 => by show Q (.bl (!decide (v = .non))) H1; rw [r1.isN]; exact k _ H1 e1 (.inl (.bl _))⟩
theorem td_isN {j : Nat} {p' : Pos} (ha : PE X a (tD K fa)) : PT X (.Compare a [.Is] [.Constant .none j p'] pos) (tT K (isNE fa)) := pt_w (pt_cmp (pc_isN ha) rfl) fun σ H Q ⟨ρ, z, r, q, k⟩ => by
  obtain ⟨x, h1, rfl⟩ := Option.map_eq_some_iff.mp (show (fa ρ).map isN = some z from q)
  exact ⟨ρ, x, r, h1, fun v H1 e1 r1 => ⟨_, rfl, by rw [r1.isN]; exact k H1 e1⟩⟩
theorem td_notN {j : Nat} {p' : Pos} (ha : PE X a (tD K fa)) : PT X (.Compare a [.IsNot] [.Constant .none j p'] pos) (tT K (notNE fa)) := pt_w (pt_cmp (pc_notN ha) rfl) fun σ H Q ⟨ρ, z, r, q, k⟩ => by
  obtain ⟨x, h1, rfl⟩ := Option.map_eq_some_iff.mp (show (fa ρ).map (fun d => !isN d) = some z from q)
  exact ⟨ρ, x, r, h1, fun v H1 e1 r1 => ⟨_, rfl, by rw [r1.isN]; exact k H1 e1⟩⟩
/-! ### and, or, not -/
def andB (g h : EvB) : EvB := fun ρ => (g ρ).bind fun k => if k then h ρ else some false
def orB (g h : EvB) : EvB := fun ρ => (g ρ).bind fun k => if k then some true else h ρ
def notB (g : EvB) : EvB := fun ρ => (g ρ).map (!·)
def andE (f h : Ev) : Ev := fun ρ => (f ρ).bind fun d => match d with
  | .bool true => h ρ
  | .bool false => some (.bool false)
  | _ => none
def orE (f h : Ev) : Ev := fun ρ => (f ρ).bind fun d => match d with
  | .bool false => h ρ
  | .bool true => some (.bool true)
  | _ => none
def notE (f : Ev) : Ev := fun ρ => (f ρ).bind fun d => match d with
  | .bool b => some (.bool (!b))
  | _ => none
def ifE (g : EvB) (f h : Ev) : Ev := fun ρ => (g ρ).bind fun k => if k then f ρ else h ρ
theorem wd_and1 (ha : PT X a (tT K g)) : PW X (.BoolOp .And [a] pos) (tT K g) := pw_and1 ha
theorem wd_or1 (ha : PT X a (tT K g)) : PW X (.BoolOp .Or [a] pos) (tT K g) := pw_or1 ha
theorem wd_and {rest : List Expr} (ha : PT X a (tT K g)) (hb : PW X (.BoolOp .And (b :: rest) pos) (tT K gb)) : PW X (.BoolOp .And (a :: b :: rest) pos) (tT K (andB g gb)) := pw_w (pw_and ha hb) fun σ H Q ⟨ρ, z, r, q, k⟩ => by
  obtain ⟨x, h1, h2⟩ := Option.bind_eq_some_iff.mp (show (g ρ).bind (fun k => if k then gb ρ else some false) = some z from q)
  refine ⟨ρ, x, r, h1, fun H1 e1 => ?_⟩
  cases x with
  | true =>
    rw [if_pos rfl] at h2 ⊢
    exact ⟨ρ, z, r.mono e1, h2, fun H2 e2 => k H2 (e1.trans e2)⟩
  | false =>
    rw [if_neg Bool.false_ne_true] at h2 ⊢
    cases h2
    exact k H1 e1
theorem wd_or {rest : List Expr} (ha : PT X a (tT K g)) (hb : PW X (.BoolOp .Or (b :: rest) pos) (tT K gb)) : PW X (.BoolOp .Or (a :: b :: rest) pos) (tT K (orB g gb)) := pw_w (pw_or ha hb) fun σ H Q ⟨ρ, z, r, q, k⟩ => by
  obtain ⟨x, h1, h2⟩ := Option.bind_eq_some_iff.mp (show (g ρ).bind (fun k => if k then some true else gb ρ) = some z from q)
  refine ⟨ρ, x, r, h1, fun H1 e1 => ?_⟩
  cases x with
  | false =>
    rw [if_neg Bool.false_ne_true] at h2 ⊢
    exact ⟨ρ, z, r.mono e1, h2, fun H2 e2 => k H2 (e1.trans e2)⟩
  | true =>
    rw [if_pos rfl] at h2 ⊢
    cases h2
    exact k H1 e1
theorem td_not (ha : PT X a (tT K g)) : PT X (.UnaryOp .Not a pos) (tT K (notB g)) := pt_w (pt_not ha) fun σ H Q ⟨ρ, z, r, q, k⟩ => by
  obtain ⟨x, h1, rfl⟩ := Option.map_eq_some_iff.mp (show (g ρ).map (!·) = some z from q)
  exact ⟨ρ, x, r, h1, fun H1 e1 => k H1 e1⟩
theorem pd_one {op : BoolOp} (h : PE X a (tD K f)) : PE X (.BoolOp op [a] pos) (tD K f) := pe_one h
theorem pd_and {rest : List Expr} (ha : PE X a (tD K fa)) (hb : PE X (.BoolOp .And (b :: rest) pos) (tD K fb)) : PE X (.BoolOp .And (a :: b :: rest) pos) (tD K (andE fa fb)) := pe_w (pe_and ha hb) fun σ H Q ⟨ρ, d, r, q, k⟩ => by
  obtain ⟨x, h1, h2⟩ := Option.bind_eq_some_iff.mp (show (fa ρ).bind _ = some d from q)
  refine ⟨ρ, x, r, h1, fun v H1 e1 r1 => ?_⟩
  split at h2
  · rw [r1.bl]
    refine ⟨true, rfl, ?_⟩
    rw [if_pos rfl]
    exact ⟨ρ, d, r.mono e1, h2, fun u H2 e2 r2 => k u H2 (e1.trans e2) r2⟩
  · cases h2
    rw [r1.bl]
    refine ⟨false, rfl, ?_⟩
    rw [if_neg Bool.false_ne_true]
    exact k _ H1 e1 (.inl (.bl false))
  · cases h2
theorem pd_or {rest : List Expr} (ha : PE X a (tD K fa)) (hb : PE X (.BoolOp .Or (b :: rest) pos) (tD K fb)) : PE X (.BoolOp .Or (a :: b :: rest) pos) (tD K (orE fa fb)) := pe_w (pe_or ha hb) fun σ H Q ⟨ρ, d, r, q, k⟩ => by
  obtain ⟨x, h1, h2⟩ := Option.bind_eq_some_iff.mp (show (fa ρ).bind _ = some d from q)
  refine ⟨ρ, x, r, h1, fun v H1 e1 r1 => ?_⟩
  split at h2
  · rw [r1.bl]
    refine ⟨false, rfl, ?_⟩
    rw [if_neg Bool.false_ne_true]
    exact ⟨ρ, d, r.mono e1, h2, fun u H2 e2 r2 => k u H2 (e1.trans e2) r2⟩
  · cases h2
    rw [r1.bl]
    refine ⟨true, rfl, ?_⟩
    rw [if_pos rfl]
    exact k _ H1 e1 (.inl (.bl true))
  · cases h2
theorem pd_not (ha : PE X a (tD K fa)) : PE X (.UnaryOp .Not a pos) (tD K (notE fa)) := pe_w (pe_not ha) fun σ H Q ⟨ρ, d, r, q, k⟩ => by
  obtain ⟨x, h1, h2⟩ := Option.bind_eq_some_iff.mp (show (fa ρ).bind _ = some d from q)
  refine ⟨ρ, x, r, h1, fun v H1 e1 r1 => ?_⟩
  split at h2
  · cases h2
    rw [r1.bl]
    exact ⟨_, rfl, k _ H1 e1 (.inl (.bl _))⟩
  · cases h2
theorem pd_if (hc : PT X c (tT K g)) (ha : PE X a (tD K fa)) (hb : PE X b (tD K fb)) : PE X (.IfExp c a b pos) (tD K (ifE g fa fb)) := pe_w (pe_ifExp hc ha hb) fun σ H Q ⟨ρ, d, r, q, k⟩ => by
  obtain ⟨x, h1, h2⟩ := Option.bind_eq_some_iff.mp (show (g ρ).bind _ = some d from q)
  refine ⟨ρ, x, r, h1, fun H1 e1 => ?_⟩
  cases x with
  | true =>
    rw [if_pos rfl] at h2 ⊢
    exact ⟨ρ, d, r.mono e1, h2, fun u H2 e2 r2 => k u H2 (e1.trans e2) r2⟩
  | false =>
    rw [if_neg Bool.false_ne_true] at h2 ⊢
    exact ⟨ρ, d, r.mono e1, h2, fun u H2 e2 r2 => k u H2 (e1.trans e2) r2⟩
/-! ### displays, subscripts, slices -/
def tupF (ds : List PyData) : Option PyData := if ds.any isL ∨ 1000 < ds.length then none else some (.tuple ds)
def lstF (ds : List PyData) : Option PyData := if ds.any isL ∨ 1000 < ds.length then none else some (.list ds)
def tupE (fs : EvL) : Ev := fun ρ => (fs ρ).bind tupF
def lstE (fs : EvL) : Ev := fun ρ => (fs ρ).bind lstF
theorem tupF_in {ds : List PyData} {d : PyData} (h : tupF ds = some d) : d = .tuple ds ∧ ds.any isL = false ∧ ds.length ≤ 1000 := by
  unfold tupF at h
  split at h
  · cases h
  · rename_i hc
    cases h
    rw [not_or] at hc
    exact ⟨rfl, by simpa using hc.1, by omega⟩
theorem lstF_in {ds : List PyData} {d : PyData} (h : lstF ds = some d) : d = .list ds ∧ ds.any isL = false ∧ ds.length ≤ 1000 := by
  unfold lstF at h
  split at h
  · cases h
  · rename_i hc
    cases h
    rw [not_or] at hc
    exact ⟨rfl, by simpa using hc.1, by omega⟩
theorem pd_tup {k : Nat} (h : PA X es (tA K fs)) : PE X (.Tuple es k pos) (tD K (tupE fs)) := pe_w (pe_tup h) fun σ H Q ⟨ρ, d, r, q, k⟩ => by
  obtain ⟨ds, h1, h2⟩ := Option.bind_eq_some_iff.mp (show (fs ρ).bind tupF = some d from q)
  obtain ⟨rfl, h3, h4⟩ := tupF_in h2
  refine ⟨ρ, ds, r, h1, fun vs H1 e1 r1 => ?_⟩
  have im := ImAll.of_rpA r1 h3
  exact ⟨by rw [im.length]; exact Nat.le_of_lt (Nat.lt_of_le_of_lt (by omega) ten), fun p hp => k _ _ (e1.trans (Same.new hp)) (.inl (.tup upd_same (im.mono (TK.new hp))))⟩
theorem pd_lst (h : PA X es (tA K fs)) : PE X (.List es pos) (tD K (lstE fs)) := pe_w (pe_lst h) fun σ H Q ⟨ρ, d, r, q, k⟩ => by
  obtain ⟨ds, h1, h2⟩ := Option.bind_eq_some_iff.mp (show (fs ρ).bind lstF = some d from q)
  obtain ⟨rfl, h3, h4⟩ := lstF_in h2
  refine ⟨ρ, ds, r, h1, fun vs H1 e1 r1 => ?_⟩
  have im := ImAll.of_rpA r1 h3
  exact ⟨by rw [im.length]; exact Nat.le_of_lt (Nat.lt_of_le_of_lt (by omega) ten), fun p hp => k _ _ (e1.trans (Same.new hp)) (.inr ⟨p, vs, ds, rfl, rfl, upd_same, im.mono (TK.new hp)⟩)⟩
def ixD : PyData → PyData → Option PyData
  | .tuple ds, .int i => if 0 ≤ i then ds[i.toNat]? else none
  | .list ds, .int i => if 0 ≤ i then ds[i.toNat]? else none
  | _, _ => none
theorem at_of {xs : List V} {ds : List PyData} {i : Int} {d : PyData} {H : Hp} (h : ImAll K H xs ds) (h0 : 0 ≤ i) (hd : ds[i.toNat]? = some d) : ∃ v, atI xs i = some v ∧ Im K H v d := by
  obtain ⟨v, h1, h2⟩ := h.get hd
  refine ⟨v, ?_, h2⟩
  have e := atI_nat h1
  rw [Int.toNat_of_nonneg h0] at e
  exact e
theorem ixD_ok : OpD K (fun x y H Q => rIxL K x y H Q ∨ rIxT K x y H Q) ixD := by
  intro x y H Q a b d ra rb h k
  unfold ixD at h
  split at h
  · split at h
    · rename_i h0
      obtain ⟨p, xs, rfl, h1, h2⟩ := ra.tup
      obtain ⟨v, h3, h4⟩ := at_of h2 h0 h
      rw [rb.int]
      exact .inr ⟨p, xs, _, v, rfl, rfl, SqT.of h1, h3, k v H (Same.refl H) (.inl h4)⟩
    · cases h
  · split at h
    · rename_i h0
      obtain ⟨p, xs, rfl, h1, h2⟩ := ra.lst
      obtain ⟨v, h3, h4⟩ := at_of h2 h0 h
      rw [rb.int]
      exact .inl ⟨p, xs, _, v, rfl, rfl, SqL.of h1, h3, k v H (Same.refl H) (.inl h4)⟩
    · cases h
  · cases h
theorem pd_ix (ha : PE X a (tD X.K fa)) (hb : PE X b (tD X.K fb)) (hs : PlainIx b := by exact fun _ _ => rfl) : PE X (.Subscript a b pos) (tD X.K (op2 ixD fa fb)) :=
  pe_w (pe_ix (ix_list.or ix_tup) ha hb hs) fun σ H Q ⟨ρ, d, r, q, k⟩ => by
    obtain ⟨x, y, h1, h2, h3⟩ := op2_in q
    exact ⟨ρ, x, r, h1, fun v H1 e1 r1 => ⟨ρ, y, r.mono e1, h2, fun u H2 e2 r2 => ixD_ok v u H2 Q x y d (r1.mono e2) r2 h3 fun z H3 e3 r3 => k z H3 ((e1.trans e2).trans e3) r3⟩⟩
abbrev EvO := DE → Option (Option Int)
def noO : EvO := fun _ => some none
def soO (f : Ev) : EvO := fun ρ => match f ρ with
  | some (.int i) => some (some i)
  | _ => none
def tO (K : PySem.W.Frag) (f : EvO) : TO := fun σ H Q => ∃ ρ o, RepS K H σ ρ ∧ f ρ = some o ∧ ∀ H', Same H H' → Q o H'
theorem od_none : PO X none (tO K noO) := po_w po_none fun σ H Q ⟨ρ, o, r, q, k⟩ => by
  cases q
  exact k H (Same.refl H)
theorem od_some (h : PE X e (tD K f)) : PO X (some e) (tO K (soO f)) := po_w (po_some h) fun σ H Q ⟨ρ, o, r, q, k⟩ => by
  unfold soO at q
  split at q
  · rename_i i h1
    cases q
    refine ⟨ρ, .int i, r, h1, fun v H1 e1 r1 => ?_⟩
    rw [r1.int]
    exact ⟨i, rfl, k H1 e1⟩
  · cases q
def cutG {α : Type} (xs : List α) (lo hi : Option Int) : List α := (xs.drop (HT.sIx xs.length 0 lo)).take (HT.sIx xs.length xs.length hi - HT.sIx xs.length 0 lo)
def slD : PyData → Option Int → Option Int → Option PyData
  | .tuple ds, lo, hi => some (.tuple (cutG ds lo hi))
  | .list ds, lo, hi => some (.list (cutG ds lo hi))
  | _, _, _ => none
def slE (f : Ev) (lo hi : EvO) : Ev := fun ρ => (f ρ).bind fun d => (lo ρ).bind fun l => (hi ρ).bind fun h => slD d l h
theorem ImAll.cut {H : Hp} {xs : List V} {ds : List PyData} (h : ImAll K H xs ds) (lo hi : Option Int) : ImAll K H (cutV xs lo hi) (cutG ds lo hi) := by
  unfold cutV cutG
  rw [h.length]
  exact (h.drop _).take _
theorem cutG_all {ds : List PyData} {lo hi : Option Int} (h : HT.sIx ds.length 0 lo = 0 ∧ HT.sIx ds.length ds.length hi = ds.length) : cutG ds lo hi = ds := by
  unfold cutG
  rw [h.1, h.2]
  simp
theorem pd_sl {lo hi : Option Expr} {p2 : Pos} {fl fh : EvO} (he : PE X e (tD X.K f)) (hl : PO X lo (tO X.K fl)) (hh : PO X hi (tO X.K fh)) : PE X (.Subscript e (.Slice lo hi none p2) pos) (tD X.K (slE f fl fh)) :=
  pe_w (pe_slice (sl_list.or sl_tupA) he hl hh) fun σ H Q ⟨ρ, d, r, q, k⟩ => by
    obtain ⟨x, h1, h2⟩ := Option.bind_eq_some_iff.mp (show (f ρ).bind _ = some d from q)
    obtain ⟨l, h3, h4⟩ := Option.bind_eq_some_iff.mp h2
    obtain ⟨h, h5, h6⟩ := Option.bind_eq_some_iff.mp h4
    refine ⟨ρ, x, r, h1, fun v H1 e1 r1 => ⟨ρ, l, r.mono e1, h3, fun H2 e2 => ⟨ρ, h, r.mono (e1.trans e2), h5, fun H3 e3 => ?_⟩⟩⟩
    have r3 := r1.mono (e2.trans e3)
    have e03 := (e1.trans e2).trans e3
    unfold slD at h6
    split at h6
    · cases h6
      obtain ⟨p, xs, rfl, q1, q2⟩ := r3.tup
      have hlen := q2.length
      refine .inr ⟨p, xs, rfl, SqT.of q1, fun hw => ?_, fun _ t ht => ?_⟩
      · rw [hlen] at hw
        refine k _ H3 e03 (.inl ?_)
        rw [cutG_all hw]
        exact .tup q1 q2
      · exact k _ _ (e03.trans (Same.new ht)) (.inl (.tup upd_same ((q2.cut l h).mono (TK.new ht))))
    · cases h6
      obtain ⟨p, xs, rfl, q1, q2⟩ := r3.lst
      refine .inl ⟨p, xs, rfl, SqL.of q1, fun t ht => ?_⟩
      exact k _ _ (e03.trans (Same.new ht)) (.inr ⟨t, _, _, rfl, rfl, upd_same, (q2.cut l h).mono (TK.new ht)⟩)
    · cases h6
end
end Wk

set_option maxHeartbeats 2000000
/-! enumerate over a tuple -/
namespace Wk
open PySem L2 PyProof.Rows
open AutoSeq1 (wpAny_loadPart')
set_option maxHeartbeats 4000000 in
theorem meets_enum_new1 {v : Value} {o : Obj} {H : Heap → Prop} (B : Begins v o H) :
    Meets (Builtin.«enumerate.__new__» ⟨[.type "enumerate", v], []⟩) (fun _ R s => H s.heap ∧
      R (.ok (.ret (.ref (s.heap.push o).objs.size))) { s with heap := (s.heap.push o).push { cls := .type "enumerate", data := .fields #[.none, .bool false, .ref s.heap.objs.size, rawInt 0, .none, .none] } }) :=
  .of_wp fun prog w A R s h => by
    obtain ⟨hp, g, d, tk, os⟩ := s; obtain ⟨h1, h⟩ := h
    have hsub := sub_enumerate
    have q1 : ∀ {A' : Around} {E : Value → Shared → Prop} {Q : Value → Shared → Prop}, Q (.ref hp.objs.size) ⟨hp.push o, g, d, tk, os⟩ → wpAny (model prog w) A' (pyIter v) Q E ⟨hp, g, d, tk, os⟩ :=
      fun q => B.iter prog w _ _ ⟨hp, g, d, tk, os⟩ _ h1 q
    wp_walk using q1
    refine wpAny_stack_any fun st => wpAny_pure ?_
    split
    · rename_i c _ _ _ _ _
      cases (c == Value.type "enumerate")
      · wp_walk using q1
        exact ⟨_, rfl, h⟩
      · wp_walk using q1
        exact ⟨_, rfl, h⟩
    · wp_walk using q1
      exact ⟨_, rfl, h⟩
theorem call_enum1 {prog : Program} {w : World} {A : Around} {E : Value → Shared → Prop} {s : Shared} {v : Value} {o : Obj} {H : Heap → Prop} {Q : Value → Shared → Prop} (B : Begins v o H) (h1 : H s.heap)
    (h : ∀ h', IsEnum h' (s.heap.objs.size + 1) s.heap.objs.size 0 .none → h'.get? s.heap.objs.size = some o → h'.objs.size = s.heap.objs.size + 2 →
      (∀ b o, s.heap.get? b = some o → h'.get? b = some o) → Q (.ref (s.heap.objs.size + 1)) { s with heap := h' }) :
    wpAny (model prog w) A (call (.type "enumerate") [v]) Q E s := by
  refine callType_new F.called_enumerate (by decide) (F.typeCall_enumerate_1 _) (F.newCall_enumerate_1 _) (fun obj => F.args_object_init_2 obj _) F.entry_enumerate_new
    (meets_enum_new1 B) ⟨h1, ?_⟩
  have hz : (s.heap.push o).objs.size = s.heap.objs.size + 1 := Heap.size_push ..
  show _ ∧ _
  rw [hz]
  have he : IsEnum ((s.heap.push o).push { cls := .type "enumerate", data := .fields #[.none, .bool false, .ref s.heap.objs.size, rawInt 0, .none, .none] }) (s.heap.objs.size + 1) s.heap.objs.size 0 .none := by
    have := Heap.get?_push_size (s.heap.push o) (o := { cls := .type "enumerate", data := .fields #[.none, .bool false, .ref s.heap.objs.size, rawInt 0, .none, .none] }) rfl
    rw [hz] at this; exact this
  refine ⟨⟨_, he, rfl⟩, h _ he (Heap.get?_push_of_some _ (Heap.get?_push_size _ B.free)) (by rw [Heap.size_push, hz]) fun b o x => Heap.get?_push_of_some _ (Heap.get?_push_of_some _ x)⟩
/-- the tuple at a as it stands at each turn, each item in a new pair -/
def IteT (K : PySem.W.Frag) (a : Addr) : It :=
  ⟨fun i H => ∃ (xs : List V) (x : V), SqT K H a xs ∧ xs[i]? = some x, fun i H v H' => ∃ T x, v = .ref T ∧ H T = none ∧ H' = upd H T (.tup [.int (i : Nat), x]) ∧ ∀ xs, SqT K H a xs → xs[i]? = some x, fun i H => ∃ xs : List V, SqT K H a xs ∧ xs.length ≤ i⟩
theorem turn_enumT {P : Program} {w : World} {K : PySem.W.Frag} {elts : List Expr} {kk : Nat} {tpos : Pos} (a e it : Addr) :
    Turn P w K (.Tuple elts kk tpos) (IteT K a) [e, it] e (fun i h => (∃ old, IsEnum h e it ((i : Nat) : Int) old) ∧ h.IsTupleIter it a i ∧ e ≠ it) where
  mem := by simp
  obj := fun i h st b hb => by
    obtain ⟨⟨old, he⟩, ⟨o, ho, hc, hd⟩, _⟩ := st
    have e' : b = e ∨ b = it := by simpa using hb
    rcases e' with z | z
    · rw [z]; exact ⟨_, he, fun v q => nomatch q⟩
    · rw [z]; exact ⟨o, ho, fun v q => by rw [hd] at q; cases q⟩
  keep := fun i h h' st k => let ⟨⟨old, he⟩, hi, hne⟩ := st; ⟨⟨old, k e (by simp) _ he⟩, hi.at fun o q => k it (by simp) o q, hne⟩
  item := by
    intro X hP hw hK hc i pins s σ H E I hf st hg
    subst hP hw hK
    obtain ⟨⟨old, he⟩, hit, hne⟩ := st
    obtain ⟨xs, x, hq, hx⟩ := hg
    obtain ⟨its, rv, p, hz⟩ := I.tuple hq
    obtain ⟨u, hu, ru⟩ := rv.get hx
    have hel : e < s.heap.objs.size := Heap.lt_size he
    have hil : it < s.heap.objs.size := by obtain ⟨_, q, _⟩ := hit; exact Heap.lt_size q
    have hea : e ≠ a := fun z => by
      obtain ⟨o, ho, hoc, _⟩ := id p
      rw [← z, he] at ho
      cases ho
      have q : Value.type "enumerate" = Value.type "tuple" := hoc
      injection q with q
      exact absurd q (by decide)
    have hia : a ≠ it := fun z => by
      obtain ⟨o, ho, hoc, _⟩ := id p
      obtain ⟨o2, ho2, hc2, _⟩ := id hit
      rw [z, ho2] at ho
      cases ho
      rw [hoc] at hc2
      exact absurd hc2 (by decide)
    have hlt : i < its.toArray.size := by
      have := (List.getElem?_eq_some_iff.mp hu).1
      simpa using this
    refine wpAny_pyNext_enum_itemD (Draws.tuple (A := X.A.in1) (I.ok.hd hc) it a hia its.toArray) he ⟨hit, p⟩ hlt hne (by simp [hne, hea]) fun y h' tk hy ho hs' hT hsz hk => ?_
    have hy2 : y = u := by
      have h1 : its.toArray[i]? = some y := hy
      have h2 : its.toArray[i]? = some u := by simpa using hu
      rw [h1] at h2
      exact Option.some.inj h2
    subst hy2
    refine ⟨_, rfl, wpAny_letOwnedTupleGo_enum (s := { s with heap := h', toks := tk + 1 }) ho fun h'' he' sb => ?_⟩
    have hT2 : h''.get? s.heap.objs.size = some { cls := .type "tuple", data := .seq #[.int i tk, y] } := (sb.2 _ (Nat.ne_of_gt hel)).trans hT
    have new : ObjOk X.prog X.w (upd H s.heap.objs.size (.tup [.int (i : Nat), x])) h'' s.heap.objs.size (.tup [.int (i : Nat), x]) :=
      ⟨by show 2 ≤ sizeLine; decide, [.int i tk, y], .cons ⟨_, rfl⟩ (.cons ru .nil), ⟨_, hT2, rfl, _, rfl⟩⟩
    have I1 : Inv X pins σ (upd H s.heap.objs.size (.tup [.int (i : Nat), x])) { s with heap := h'', toks := tk + 1 } :=
      I.turnedNew (ch := [e, it]) (fun b ob hb q => (sb.2 b (fun z => hb (by simp [z]))).trans (hk b ob (fun z => hb (by simp [z])) (fun z => hb (by simp [z])) q)) hf (Nat.le_refl _) new
    refine ⟨.ref s.heap.objs.size, _, I1, rfl, ⟨_, x, rfl, I.hok.fresh (Nat.le_refl _), rfl, fun ys hy => by rw [I.tuple_inj hy hq]; exact hx⟩, ⟨⟨y, ?_⟩, hs'.1.at fun o q => (sb.2 it (Ne.symm hne)).trans q, hne⟩, fun b hb => ?_⟩
    · have e1 : ((i + 1 : Nat) : Int) = (i : Int) + 1 := by omega
      rw [e1]; exact he'
    · have hb' : b < s.heap.objs.size := by
        have e' : b = e ∨ b = it := by simpa using hb
        rcases e' with z | z
        · rw [z]; exact hel
        · rw [z]; exact hil
      rw [upd_ne (Nat.ne_of_lt hb')]
      exact (hf b hb).1
  done := by
    intro X hP hw hK hc i pins s σ H E I hf st hg
    subst hP hw hK
    obtain ⟨⟨old, he⟩, hit, hne⟩ := st
    obtain ⟨xs, hq, hx⟩ := hg
    obtain ⟨its, rv, p, hz⟩ := I.tuple hq
    obtain ⟨f0, f1, f2, f3, f4, f5⟩ := hf it (by simp)
    have hl := rv.length
    have hia : a ≠ it := fun z => by
      obtain ⟨o, ho, hoc, _⟩ := id p
      obtain ⟨o2, ho2, hc2, _⟩ := id hit
      rw [z, ho2] at ho
      cases ho
      rw [hoc] at hc2
      exact absurd hc2 (by decide)
    have T : s.TypeIs (.ref e) "enumerate" := ⟨_, he, rfl⟩
    unfold pyNext
    refine wpAny_bind (wpAny_attempt (wpAny_callSpecial?_slot (name := Str.ofString "__next__") T F.slot_enumerate_next
      (wpAny_call_entry F.slot_enumerate_next T F.entry_enumerate_next ?_ (F.args_enumerate_next_1 _))))
    show wpAny _ _ (field (.ref e) 2 >>= _) _ _ _
    refine wpAny_bind (wpAny_field he rfl (x := .ref it) rfl ?_)
    refine wpAny_bind (wpAny_nextOf_tuple_end (I.ok.hd hc) hit (show s.heap.IsTuple a its.toArray from p) (by simp; omega) fun h' x he' hx' => ?_)
    obtain ⟨o, ho, hc'⟩ := hx'
    refine wpAny_bind (wpAny_isInstance (T := "StopIteration") (b := true) ⟨o, ho, hc'⟩ isSubtype_stop ?_)
    exact wpAny_pure ⟨rfl, I.turned (t' := s.toks) (fun b o hb e => he' b o hb e) f0 f1 f3 f4 f5⟩
  self := fun A i s Q E st h => let ⟨⟨_, he⟩, _⟩ := st; wpAny_pyIter_enum he h
def iEnumT (K : PySem.W.Frag) (ta : TA) : TI := fun σ H R => ta σ H fun vs H1 => ∃ a xs, vs = [.ref a] ∧ SqT K H1 a xs ∧ R (IteT K a) H1
theorem pi_enumT {X : Cx} {e : Expr} {ta : TA} {p pos tpos : Pos} {elts : List Expr} {kk : Nat} (hg : Gl X "enumerate") (hm : X.mg "enumerate" = none) (ha : PA X [e] ta) (hs : starEach [e] X.env = [(false, eval e X.env)] := by rfl) :
    PI X (.Tuple elts kk tpos) (.Call (.Name "enumerate" p) [e] [] pos) (iEnumT X.K ta) := by
  refine ⟨fun pins s σ H R I h => ?_⟩
  refine Call_ (ld_blt I hg hm boot_enumerate (PyProof.Rows.callWith_type1 (thn (ha.run pos pins s σ H _ I h) fun us s1 ⟨vs, H1, I1, r1, q1⟩ => ?_) hs rfl))
  obtain ⟨a, xs, ex, hq, q⟩ := q1
  subst ex
  cases r1 with
  | cons r rr =>
    cases rr
    cases r
    obtain ⟨its, rv, p', hz⟩ := I1.tuple hq
    refine call_enum1 (begins_tuple a its.toArray) p' fun h' he hit hsz hk => wpAny_pyIter_enum he ?_
    have I2 : Inv X pins σ H1 { s1 with heap := h' } := I1.kept (t' := s1.toks) hk
    refine ⟨s1.heap.objs.size + 1, [s1.heap.objs.size + 1, s1.heap.objs.size], _, _, H1, rfl, I2, turn_enumT a (s1.heap.objs.size + 1) s1.heap.objs.size, ⟨⟨.none, he⟩, ⟨_, hit, rfl, rfl⟩, Nat.succ_ne_self _⟩, fun b hb => ?_, q⟩
    have e' : b = s1.heap.objs.size + 1 ∨ b = s1.heap.objs.size := by simpa using hb
    have hle : s1.heap.objs.size ≤ b := by
      rcases e' with z | z
      · rw [z]; exact Nat.le_add_right _ _
      · rw [z]; exact Nat.le_refl _
    exact I1.fpOk hle (I1.hok.fresh hle)
end Wk

set_option maxHeartbeats 2000000
namespace Wk
open PySem L2 PyProof.Rows
/-! ### calls of built-ins -/
theorem bb_len : bootBuiltins "len" = some (.builtin "len") := by decide +kernel
theorem bb_all : bootBuiltins "all" = some (.builtin "all") := by decide +kernel
theorem bb_max : bootBuiltins "max" = some (.builtin "max") := by decide +kernel
theorem bb_min : bootBuiltins "min" = some (.builtin "min") := by decide +kernel
theorem bb_isinstance : bootBuiltins "isinstance" = some (.builtin "isinstance") := by decide +kernel
theorem bb_sorted : bootBuiltins "sorted" = some (.builtin "sorted") := by decide +kernel
theorem bb_tuple : bootBuiltins "tuple" = some (.type "tuple") := by decide +kernel
theorem bb_int : bootBuiltins "int" = some (.type "int") := by decide +kernel
theorem bb_bool : bootBuiltins "bool" = some (.type "bool") := by decide +kernel
theorem bb_str : bootBuiltins "str" = some (.type "str") := by decide +kernel
theorem bb_list : bootBuiltins "list" = some (.type "list") := by decide +kernel
theorem bb_dict : bootBuiltins "dict" = some (.type "dict") := by decide +kernel
theorem bb_range : bootBuiltins "range" = some (.type "range") := by decide +kernel
theorem bb_zip : bootBuiltins "zip" = some (.type "zip") := by decide +kernel
theorem bb_enumerate : bootBuiltins "enumerate" = some (.type "enumerate") := by decide +kernel
theorem bb_set : bootBuiltins "set" = some (.type "set") := by decide +kernel
abbrev Fd := List PyData → Option PyData
def CallD (K : PySem.W.Frag) (r : List V → Hp → VK → Prop) (g : Fd) : Prop := ∀ vs H Q ds d, RpA K H vs ds → g ds = some d → (∀ v H', Same H H' → Rp K H' v d → Q v H') → r vs H Q
def callE (g : Fd) (fs : EvL) : Ev := fun ρ => (fs ρ).bind g
section
variable {X : Cx} {K : PySem.W.Frag} {e a b c : Expr} {es : List Expr} {pos p : Pos} {f fa fb fc : Ev} {g gb : EvB} {fs : EvL} {x : Str}
theorem pd_callB {id : String} {r : List V → Hp → VK → Prop} {h : Fd} (hc : CallR X (.builtin id) r) (hd : CallD K r h) (hm : X.mg x = none) (hv : bootBuiltins x = some (.builtin id)) (ha : PA X (e :: es) (tA K fs)) (hg : Gl X x := by rfl) (hn : x ≠ "__name__" := by decide) (hdb : (x == ("__debug__" : Str)) = false := by decide)
    (he : starEach (e :: es) X.env = (false, eval e X.env) :: starEach es X.env := by rfl) (hpl : (backTo pos (starEach es X.env)).any (·.1) = false := by rfl) : PE X (.Call (.Name x p) (e :: es) [] pos) (tD K (callE h fs)) :=
  pe_w (pe_callB hc hg hm hv ha hn hdb he hpl) fun σ H Q ⟨ρ, d, r0, q, k⟩ => by
    obtain ⟨ds, h1, h2⟩ := Option.bind_eq_some_iff.mp (show (fs ρ).bind h = some d from q)
    exact ⟨ρ, ds, r0, h1, fun vs H1 e1 r1 => hd vs H1 Q ds d r1 h2 fun v H2 e2 r2 => k v H2 (e1.trans e2) r2⟩
theorem pd_callTy {T : String} {r : List V → Hp → VK → Prop} {h : Fd} (hc : CallR X (.type T) r) (hd : CallD K r h) (hm : X.mg x = none) (hv : bootBuiltins x = some (.type T)) (ha : PA X (e :: es) (tA K fs)) (hg : Gl X x := by rfl) (hn : x ≠ "__name__" := by decide) (hdb : (x == ("__debug__" : Str)) = false := by decide)
    (he : starEach (e :: es) X.env = (false, eval e X.env) :: starEach es X.env := by rfl) (hpl : (backTo pos (starEach es X.env)).any (·.1) = false := by rfl) : PE X (.Call (.Name x p) (e :: es) [] pos) (tD K (callE h fs)) :=
  pe_w (pe_callTy hc hg hm hv ha hn hdb he hpl) fun σ H Q ⟨ρ, d, r0, q, k⟩ => by
    obtain ⟨ds, h1, h2⟩ := Option.bind_eq_some_iff.mp (show (fs ρ).bind h = some d from q)
    exact ⟨ρ, ds, r0, h1, fun vs H1 e1 r1 => hd vs H1 Q ds d r1 h2 fun v H2 e2 r2 => k v H2 (e1.trans e2) r2⟩
theorem rpa1 {H : Hp} {vs : List V} {d : PyData} (h : RpA K H vs [d]) : ∃ v, vs = [v] ∧ Rp K H v d := by
  cases h with
  | cons h t =>
    cases t
    exact ⟨_, rfl, h⟩
theorem rpa2 {H : Hp} {vs : List V} {d e : PyData} (h : RpA K H vs [d, e]) : ∃ v w, vs = [v, w] ∧ Rp K H v d ∧ Rp K H w e := by
  cases h with
  | cons h t =>
    obtain ⟨w, rfl, h2⟩ := rpa1 t
    exact ⟨_, w, rfl, h, h2⟩
def lenF : Fd
  | [.tuple ds] => some (.int ds.length)
  | [.list ds] => some (.int ds.length)
  | _ => none
theorem lenF_ok : CallD K (fun xs H Q => ∃ p ys, xs = [.ref p] ∧ (SqL K H p ys ∨ SqT K H p ys) ∧ Q (.int ys.length) H) lenF := by
  intro vs H Q ds d ra h k
  unfold lenF at h
  split at h
  · cases h
    obtain ⟨v, rfl, r⟩ := rpa1 ra
    obtain ⟨p, ys, rfl, h1, h2⟩ := r.tup
    refine ⟨p, ys, rfl, .inr (SqT.of h1), ?_⟩
    rw [h2.length]
    exact k _ H (Same.refl H) (.inl (.int _))
  · cases h
    obtain ⟨v, rfl, r⟩ := rpa1 ra
    obtain ⟨p, ys, rfl, h1, h2⟩ := r.lst
    refine ⟨p, ys, rfl, .inl (SqL.of h1), ?_⟩
    rw [h2.length]
    exact k _ H (Same.refl H) (.inl (.int _))
  · cases h
def boolsOf : List PyData → Option (List Bool)
  | [] => some []
  | .bool i :: r => (boolsOf r).map (i :: ·)
  | _ :: _ => none
theorem bools_vals : ∀ {ds : List PyData} {ns : List Bool} {vs : List V} {H : Hp}, boolsOf ds = some ns → ImAll K H vs ds → vs = ns.map V.bl
  | [], ns, vs, H, h, q => by
    cases h
    cases q
    rfl
  | d :: r, ns, vs, H, h, q => by
    cases q with
    | cons q1 q2 =>
      cases d with
      | bool i =>
        obtain ⟨ms, h1, rfl⟩ := Option.map_eq_some_iff.mp (show (boolsOf r).map (i :: ·) = some ns from h)
        rw [bools_vals h1 q2]
        cases q1
        rfl
      | _ => cases h
def allF : Fd
  | [.list ds] => (boolsOf ds).map fun bs => .bool (bs.all id)
  | _ => none
theorem allF_ok : CallD K (rAll K) allF := by
  intro vs H Q ds d ra h k
  unfold allF at h
  split at h
  · obtain ⟨v, rfl, r⟩ := rpa1 ra
    obtain ⟨p, ys, rfl, h1, h2⟩ := r.lst
    obtain ⟨bs, h3, rfl⟩ := Option.map_eq_some_iff.mp h
    rw [bools_vals h3 h2] at h1
    exact ⟨p, bs, rfl, SqL.of h1, k _ H (Same.refl H) (.inl (.bl _))⟩
  · cases h
def tupleF : Fd
  | [.list ds] => some (.tuple ds)
  | [.tuple ds] => some (.tuple ds)
  | _ => none
theorem tupleF_ok : CallD K (fun xs H Q => ∃ p ys, xs = [.ref p] ∧ ((SqL K H p ys ∧ ∀ l, H l = none → Q (.ref l) (upd H l (.tup ys))) ∨ (SqT K H p ys ∧ Q (.ref p) H))) tupleF := by
  intro vs H Q ds d ra h k
  unfold tupleF at h
  split at h
  · cases h
    obtain ⟨v, rfl, r⟩ := rpa1 ra
    obtain ⟨p, ys, rfl, h1, h2⟩ := r.lst
    exact ⟨p, ys, rfl, .inl ⟨SqL.of h1, fun l hl => k _ _ (Same.new hl) (.inl (.tup upd_same (h2.mono (TK.new hl))))⟩⟩
  · cases h
    obtain ⟨v, rfl, r⟩ := rpa1 ra
    obtain ⟨p, ys, rfl, h1, h2⟩ := r.tup
    exact ⟨p, ys, rfl, .inr ⟨SqT.of h1, k _ H (Same.refl H) (.inl (.tup h1 h2))⟩⟩
  · cases h
def intF : Fd
  | [.bool b] => some (.int (if b then 1 else 0))
  | [.int i] => some (.int i)
  | _ => none
theorem intF_ok : CallD K (fun xs H Q => (∃ i, xs = [.int i] ∧ Q (.int i) H) ∨ ∃ k, xs = [.bl k] ∧ Q (.int (if k then 1 else 0)) H) intF := by
  intro vs H Q ds d ra h k
  unfold intF at h
  split at h
  · cases h
    obtain ⟨v, rfl, r⟩ := rpa1 ra
    rw [r.bl]
    exact .inr ⟨_, rfl, k _ H (Same.refl H) (.inl (.int _))⟩
  · cases h
    obtain ⟨v, rfl, r⟩ := rpa1 ra
    rw [r.int]
    exact .inl ⟨_, rfl, k _ H (Same.refl H) (.inl (.int _))⟩
  · cases h
def maxF : Fd
  | [.int i, .int j] => some (.int (if j > i then j else i))
  | _ => none
def minF : Fd
  | [.int i, .int j] => some (.int (if j < i then j else i))
  | _ => none
theorem maxF_ok : CallD K (fun xs H Q => ∃ i j, xs = [.int i, .int j] ∧ Q (.int (if j > i then j else i)) H) maxF := by
  intro vs H Q ds d ra h k
  unfold maxF at h
  split at h
  · cases h
    obtain ⟨v, w, rfl, r1, r2⟩ := rpa2 ra
    rw [r1.int, r2.int]
    exact ⟨_, _, rfl, k _ H (Same.refl H) (.inl (.int _))⟩
  · cases h
theorem minF_ok : CallD K (fun xs H Q => ∃ i j, xs = [.int i, .int j] ∧ Q (.int (if j < i then j else i)) H) minF := by
  intro vs H Q ds d ra h k
  unfold minF at h
  split at h
  · cases h
    obtain ⟨v, w, rfl, r1, r2⟩ := rpa2 ra
    rw [r1.int, r2.int]
    exact ⟨_, _, rfl, k _ H (Same.refl H) (.inl (.int _))⟩
  · cases h
theorem pd_len (hm : X.mg "len" = none) (ha : PA X [e] (tA X.K fs)) (hg : Gl X "len" := by rfl) (he : starEach [e] X.env = (false, eval e X.env) :: starEach [] X.env := by rfl) : PE X (.Call (.Name "len" p) [e] [] pos) (tD X.K (callE lenF fs)) := pd_callB call_len_seq lenF_ok hm bb_len ha hg (by decide) (by decide) he
theorem pd_all (hm : X.mg "all" = none) (ha : PA X [e] (tA X.K fs)) (hc : X.calm = true := by rfl) (hg : Gl X "all" := by rfl) (he : starEach [e] X.env = (false, eval e X.env) :: starEach [] X.env := by rfl) : PE X (.Call (.Name "all" p) [e] [] pos) (tD X.K (callE allF fs)) := pd_callB (cr_all hc) allF_ok hm bb_all ha hg (by decide) (by decide) he
theorem pd_max (hm : X.mg "max" = none) (ha : PA X [a, b] (tA X.K fs)) (hc : X.calm = true := by rfl) (hg : Gl X "max" := by rfl) (he : starEach [a, b] X.env = (false, eval a X.env) :: starEach [b] X.env := by rfl) (hpl : (backTo pos (starEach [b] X.env)).any (·.1) = false := by rfl) : PE X (.Call (.Name "max" p) [a, b] [] pos) (tD X.K (callE maxF fs)) := pd_callB (call_max2 hc) maxF_ok hm bb_max ha hg (by decide) (by decide) he hpl
theorem pd_min (hm : X.mg "min" = none) (ha : PA X [a, b] (tA X.K fs)) (hc : X.calm = true := by rfl) (hg : Gl X "min" := by rfl) (he : starEach [a, b] X.env = (false, eval a X.env) :: starEach [b] X.env := by rfl) (hpl : (backTo pos (starEach [b] X.env)).any (·.1) = false := by rfl) : PE X (.Call (.Name "min" p) [a, b] [] pos) (tD X.K (callE minF fs)) := pd_callB (call_min2 hc) minF_ok hm bb_min ha hg (by decide) (by decide) he hpl
theorem pd_tuple (hm : X.mg "tuple" = none) (ha : PA X [e] (tA X.K fs)) (hg : Gl X "tuple" := by rfl) (he : starEach [e] X.env = (false, eval e X.env) :: starEach [] X.env := by rfl) : PE X (.Call (.Name "tuple" p) [e] [] pos) (tD X.K (callE tupleF fs)) := pd_callTy call_tuple_of tupleF_ok hm bb_tuple ha hg (by decide) (by decide) he
theorem pd_int1 (hm : X.mg "int" = none) (ha : PA X [e] (tA X.K fs)) (hg : Gl X "int" := by rfl) (he : starEach [e] X.env = (false, eval e X.env) :: starEach [] X.env := by rfl) : PE X (.Call (.Name "int" p) [e] [] pos) (tD X.K (callE intF fs)) := pd_callTy call_int1 intF_ok hm bb_int ha hg (by decide) (by decide) he
/-! ### list(range(n)) -/
def intsD (n : Nat) : List PyData := (List.range n).map fun i => .int (i : Nat)
def lrF : PyData → Option PyData
  | .int n => if 0 ≤ n ∧ n ≤ 1000 then some (.list (intsD n.toNat)) else none
  | _ => none
def lrE (f : Ev) : Ev := fun ρ => (f ρ).bind lrF
theorem im_ints {H : Hp} : ∀ l : List Nat, ImAll K H (l.map fun i => V.int (i : Nat)) (l.map fun i => PyData.int (i : Nat))
  | [] => .nil
  | _ :: r => .cons (.int _) (im_ints r)
theorem pd_lr {p2 pos2 : Pos} (hm : X.mg "list" = none) (hm2 : X.mg "range" = none) (ha : PE X e (tD X.K f)) (hc : X.calm = true := by rfl) (hg : Gl X "list" := by rfl) (hg2 : Gl X "range" := by rfl) (n1 : starEach [e] X.env = (false, eval e X.env) :: starEach [] X.env := by rfl)
    (n2 : starEach [.Call (.Name "range" p2) [e] [] pos2] X.env = (false, eval (.Call (.Name "range" p2) [e] [] pos2) X.env) :: starEach [] X.env := by rfl) : PE X (.Call (.Name "list" p) [.Call (.Name "range" p2) [e] [] pos2] [] pos) (tD X.K (lrE f)) :=
  pe_w (pe_listRg hc hg hm (prg_1 hg2 hm2 ha n1) n2) fun σ H Q ⟨ρ, d, r, q, k⟩ => by
    obtain ⟨x, h1, h2⟩ := Option.bind_eq_some_iff.mp (show (f ρ).bind lrF = some d from q)
    unfold lrF at h2
    split at h2
    · rename_i n
      split at h2
      · rename_i hn
        cases h2
        refine ⟨ρ, .int n, r, h1, fun v H1 e1 r1 => ⟨n, r1.int, RgOk.of_le (by decide) (by omega) (by decide) hn.1, fun t ht => ?_⟩⟩
        refine k _ _ (e1.trans (Same.new ht)) (.inr ⟨t, _, _, rfl, rfl, upd_same, ?_⟩)
        have e0 : rgV 0 n = (List.range n.toNat).map fun i => V.int (i : Nat) := by
          unfold rgV
          rw [Int.sub_zero]
          exact List.map_congr_left fun i _ => by rw [Int.zero_add]
        rw [e0]
        exact im_ints _
      · cases h2
    · cases h2
/-! ### isinstance(x, T) -/
inductive Ty where
  | int | bool | tuple | str
def Ty.nm : Ty → String
  | .int => "int"
  | .bool => "bool"
  | .tuple => "tuple"
  | .str => "str"
def isTy : Ty → PyData → Bool
  | .int, .int _ => true
  | .int, .bool _ => true
  | .bool, .bool _ => true
  | .tuple, .tuple _ => true
  | .str, .str _ => true
  | _, _ => false
def kindD : PyData → String
  | .none => "NoneType"
  | .bool _ => "bool"
  | .int _ => "int"
  | .str _ => "str"
  | .list _ => "list"
  | .tuple _ => "tuple"
  | .dict _ => "dict"
theorem Rp.tyx {H : Hp} {v : V} {d : PyData} (h : Rp K H v d) : TyX K H v (.type (kindD d)) := by
  rcases h with h | ⟨a, xs, ds, rfl, rfl, h3, _⟩
  · cases h with
    | non => exact .base .non
    | bl b => exact .base (.bl b)
    | int i => exact .base (.int i)
    | str x => exact .base (.str x)
    | tup h1 _ => exact .base (.tup h1)
  · exact .base (.lst h3)
theorem kit_none (T : Ty) : kitB "NoneType" T.nm = some (isTy T .none) := by cases T <;> decide +kernel
theorem kit_bool (T : Ty) : kitB "bool" T.nm = some (isTy T (.bool true)) := by cases T <;> decide +kernel
theorem kit_int (T : Ty) : kitB "int" T.nm = some (isTy T (.int 0)) := by cases T <;> decide +kernel
theorem kit_str (T : Ty) : kitB "str" T.nm = some (isTy T (.str "")) := by cases T <;> decide +kernel
theorem kit_list (T : Ty) : kitB "list" T.nm = some (isTy T (.list [])) := by cases T <;> decide +kernel
theorem kit_tuple (T : Ty) : kitB "tuple" T.nm = some (isTy T (.tuple [])) := by cases T <;> decide +kernel
theorem kit_all {H : Hp} {v : V} {d : PyData} (h : Rp K H v d) (T : Ty) : kitB (kindD d) T.nm = some (isTy T d) := by
  cases d with
  | none => exact kit_none T
  | bool b => exact (kit_bool T).trans (by cases T <;> rfl)
  | int i => exact (kit_int T).trans (by cases T <;> rfl)
  | str x => exact (kit_str T).trans (by cases T <;> rfl)
  | list l => exact (kit_list T).trans (by cases T <;> rfl)
  | tuple l => exact (kit_tuple T).trans (by cases T <;> rfl)
  | dict l =>
    rcases h with h | ⟨_, _, _, _, e, _⟩
    · cases h
    · cases e
def isE (T : Ty) (f : Ev) : EvB := fun ρ => (f ρ).map (isTy T)
theorem isi_read {T : Ty} {ρ : DE} {z : Bool} {σ : L2.St} {H : Hp} {Q : VK} (r : RepS K H σ ρ) (q : isE T f ρ = some z) (k : ∀ H', Same H H' → Q (.bl z) H') : tCB (rIsi K) (tCons (tD K f) (tCons (tC (.ty T.nm)) tNil)) σ H Q := by
  obtain ⟨d, h1, rfl⟩ := Option.map_eq_some_iff.mp (show (f ρ).map (isTy T) = some z from q)
  exact ⟨ρ, d, r, h1, fun v H1 e1 r1 => ⟨v, .ty T.nm, _, _, _, rfl, .ty T.nm, r1.tyx, kit_ty (kit_all r1 T), k H1 e1⟩⟩
theorem pd_isi (T : Ty) {q : Pos} {y : Str} (hm : X.mg "isinstance" = none) (hm2 : X.mg y = none) (hv : bootBuiltins y = some (.type T.nm)) (ha : PE X e (tD X.K f)) (hg : Gl X "isinstance" := by rfl) (hg2 : Gl X y := by rfl) (hn : y ≠ "__name__" := by decide) (hd : (y == ("__debug__" : Str)) = false := by decide)
    (he : starEach [e, .Name y q] X.env = (false, eval e X.env) :: starEach [.Name y q] X.env := by rfl) (he2 : starEach [.Name y q] X.env = (false, eval (.Name y q) X.env) :: starEach [] X.env := by rfl) (hpl : (backTo pos (starEach [.Name y q] X.env)).any (·.1) = false := by rfl) :
    PE X (.Call (.Name "isinstance" p) [e, .Name y q] [] pos) (tD X.K (bE (isE T f))) :=
  pe_w (pe_callB call_isi hg hm bb_isinstance (pa_cons ha (pa_cons (pe_bltn (v := .ty T.nm) hg2 hm2 hv rfl hn hd) pa_nil he2) he) (by decide) (by decide) he hpl) fun σ H Q ⟨ρ, d, r, q, k⟩ => by
    obtain ⟨z, h0, rfl⟩ := Option.map_eq_some_iff.mp (show (isE T f ρ).map PyData.bool = some d from q)
    exact isi_read r h0 fun H' e => k _ H' e (.inl (.bl z))
/-! ### what is walked -/
structure DW (K : PySem.W.Frag) (J : It) (ds : List PyData) (H0 : Hp) : Prop where
  w : L2.Walk J ds.length (fun H => Same H0 H) (fun i H x H' => ∃ d, ds[i]? = some d ∧ Same H H' ∧ Im K H' x d)
def tI (K : PySem.W.Frag) (f : EvL) : TI := fun σ H R => ∃ ρ ds, RepS K H σ ρ ∧ f ρ = some ds ∧ ∀ J H', Same H H' → DW K J ds H' → R J H'
theorem pi_or {tg : Expr} {t u : TI} (h : PI X tg e t) (h' : PI X tg e u) : PI X tg e (fun σ H R => t σ H R ∨ u σ H R) := ⟨fun pins s σ H R I q => q.elim (h.run pins s σ H R I) (h'.run pins s σ H R I)⟩
def seqI (f : Ev) : EvL := fun ρ => match f ρ with
  | some (.list ds) => some ds
  | some (.tuple ds) => some ds
  | _ => none
theorem dw_list {a : Addr} {xs : List V} {ds : List PyData} {H : Hp} (h1 : H a = some (.lst xs)) (h2 : ImAll K H xs ds) : DW K (Itl K a) ds H := ⟨by
  rw [← h2.length]
  refine (walk_list (xs := xs)).mono (fun H' e => SqL.of (e _ _ h1)) fun i H1 x H2 hi e ⟨y1, y2⟩ => ?_
  subst y1
  obtain ⟨d, h3, h4⟩ := h2.get' y2
  exact ⟨d, h3, Same.refl _, h4.mono (same_tk e)⟩⟩
theorem dw_tup {a : Addr} {xs : List V} {ds : List PyData} {H : Hp} (h1 : H a = some (.tup xs)) (h2 : ImAll K H xs ds) : DW K (Itt K a) ds H := ⟨by
  rw [← h2.length]
  refine (walk_tup (xs := xs)).mono (fun H' e => SqT.of (e _ _ h1)) fun i H1 x H2 hi e ⟨y1, y2⟩ => ?_
  subst y1
  obtain ⟨d, h3, h4⟩ := h2.get' y2
  exact ⟨d, h3, Same.refl _, h4.mono (same_tk e)⟩⟩
theorem id_seq {tg : Expr} (h : PE X e (tD X.K f)) : PI X tg e (tI X.K (seqI f)) := pi_w (pi_or (pi_list h) (pi_tup h)) fun σ H R ⟨ρ, ds, r, q, k⟩ => by
  unfold seqI at q
  split at q
  · cases q
    refine .inl ⟨ρ, _, r, by assumption, fun v H1 e1 r1 => ?_⟩
    obtain ⟨a, xs, rfl, h1, h2⟩ := r1.lst
    exact ⟨a, rfl, ⟨xs, SqL.of h1⟩, k _ H1 e1 (dw_list h1 h2)⟩
  · cases q
    refine .inr ⟨ρ, _, r, by assumption, fun v H1 e1 r1 => ?_⟩
    obtain ⟨a, xs, rfl, h1, h2⟩ := r1.tup
    exact ⟨a, rfl, ⟨xs, SqT.of h1⟩, k _ H1 e1 (dw_tup h1 h2)⟩
  · cases q
def rgI (f : Ev) : EvL := fun ρ => match f ρ with
  | some (.int n) => if n ≤ 100000 ∧ -100000 ≤ n then some (intsD n.toNat) else none
  | _ => none
theorem intsD_len (n : Nat) : (intsD n).length = n := by
  unfold intsD
  rw [List.length_map, List.length_range]
theorem intsD_get {n i : Nat} (h : i < n) : (intsD n)[i]? = some (.int (i : Nat)) := by
  unfold intsD
  rw [List.getElem?_map, List.getElem?_range h]
  rfl
theorem dw_range {n : Nat} {H : Hp} : DW K (Itr 0 n) (intsD n) H := ⟨by
  rw [intsD_len]
  refine (walk_range (lo := 0)).mono (fun _ _ => trivial) fun i H1 x H2 hi e ⟨y1, y2⟩ => ?_
  subst y1
  subst y2
  refine ⟨.int (i : Nat), intsD_get hi, Same.refl _, ?_⟩
  show Im K H2 (V.int (0 + (i : Nat))) _
  rw [Int.zero_add]
  exact .int _⟩
theorem id_range {tg : Expr} (hm : X.mg "range" = none) (ha : PE X e (tD X.K f)) (hg : Gl X "range" := by rfl) (hs : starEach [e] X.env = [(false, eval e X.env)] := by rfl) (n1 : starEach [e] X.env = (false, eval e X.env) :: starEach [] X.env := by rfl) : PI X tg (.Call (.Name "range" p) [e] [] pos) (tI X.K (rgI f)) :=
  pi_w (pi_range1 hg hm (pa_cons ha pa_nil n1) hs) fun σ H R ⟨ρ, ds, r, q, k⟩ => by
    unfold rgI at q
    split at q
    · rename_i n hn
      split at q
      · rename_i hb
        cases q
        refine ⟨ρ, .int n, r, hn, fun v H1 e1 r1 => ?_⟩
        rw [r1.int]
        exact ⟨n, rfl, by omega, by omega, k _ H1 e1 dw_range⟩
      · cases q
    · cases q
/-! zip of two lists, of two tuples -/
def zipD (xs ys : List PyData) : List PyData := List.zipWith (fun x y => .tuple [x, y]) xs ys
def zipI (f g : Ev) : EvL := fun ρ => (f ρ).bind fun x => (g ρ).bind fun y => match x, y with
  | .list xs, .list ys => some (zipD xs ys)
  | .tuple xs, .tuple ys => some (zipD xs ys)
  | _, _ => none
theorem walk_zipT {K : PySem.W.Frag} {a b : Addr} {xs ys : List V} {n : Nat} (hn : n = min xs.length ys.length) : L2.Walk (RZ.ItzT K a b) n (fun H => SqT K H a xs ∧ SqT K H b ys) (YPair (fun i => xs[i]?) (fun i => ys[i]?)) := by
  subst hn
  refine ⟨fun i _ hi q => ?_, fun _ q => ⟨xs, ys, q.1, q.2, by omega⟩, fun i H v H' _ q y => ?_⟩
  · have h1 : i < xs.length := by omega
    have h2 : i < ys.length := by omega
    exact ⟨xs, ys, xs[i], ys[i], q.1, q.2, by simp [h1], by simp [h2]⟩
  · obtain ⟨T, x, z, h1, h2, h3, h4, h5⟩ := y
    exact ⟨T, x, z, h1, h2, h3, h4 xs q.1, h5 ys q.2⟩
theorem zipD_len (xs ys : List PyData) : (zipD xs ys).length = min xs.length ys.length := by
  unfold zipD
  rw [List.length_zipWith]
theorem zipD_get {xs ys : List PyData} {i : Nat} {x y : PyData} (h1 : xs[i]? = some x) (h2 : ys[i]? = some y) : (zipD xs ys)[i]? = some (.tuple [x, y]) := by
  unfold zipD
  rw [List.getElem?_zipWith, h1, h2]
theorem pair_im {H H1 : Hp} {T : Addr} {x y : V} {d e : PyData} (hT : H T = none) (h1 : Im K H x d) (h2 : Im K H y e) (e1 : H1 = upd H T (.tup [x, y])) : Same H H1 ∧ Im K H1 (.ref T) (.tuple [d, e]) := by
  subst e1
  exact ⟨Same.new hT, .tup upd_same (.cons (h1.mono (TK.new hT)) (.cons (h2.mono (TK.new hT)) .nil))⟩
theorem dw_zipL {a b : Addr} {xs ys : List V} {ds es : List PyData} {H : Hp} (h1 : H a = some (.lst xs)) (h2 : ImAll K H xs ds) (g1 : H b = some (.lst ys)) (g2 : ImAll K H ys es) : DW K (Itz K a b) (zipD ds es) H := ⟨by
  rw [zipD_len, ← h2.length, ← g2.length]
  refine (walk_zip (xs := xs) (ys := ys) rfl).mono (fun H' e => ⟨SqL.of (e _ _ h1), SqL.of (e _ _ g1)⟩) fun i H1 x H2 hi e ⟨T, u, v, y1, y2, y3, y4, y5⟩ => ?_
  obtain ⟨d, h3, h4⟩ := h2.get' y4
  obtain ⟨d2, h5, h6⟩ := g2.get' y5
  subst y1
  obtain ⟨q1, q2⟩ := pair_im y2 (h4.mono (same_tk e)) (h6.mono (same_tk e)) y3
  exact ⟨_, zipD_get h3 h5, q1, q2⟩⟩
theorem dw_zipT {a b : Addr} {xs ys : List V} {ds es : List PyData} {H : Hp} (h1 : H a = some (.tup xs)) (h2 : ImAll K H xs ds) (g1 : H b = some (.tup ys)) (g2 : ImAll K H ys es) : DW K (RZ.ItzT K a b) (zipD ds es) H := ⟨by
  rw [zipD_len, ← h2.length, ← g2.length]
  refine (walk_zipT (xs := xs) (ys := ys) rfl).mono (fun H' e => ⟨SqT.of (e _ _ h1), SqT.of (e _ _ g1)⟩) fun i H1 x H2 hi e ⟨T, u, v, y1, y2, y3, y4, y5⟩ => ?_
  obtain ⟨d, h3, h4⟩ := h2.get' y4
  obtain ⟨d2, h5, h6⟩ := g2.get' y5
  subst y1
  obtain ⟨q1, q2⟩ := pair_im y2 (h4.mono (same_tk e)) (h6.mono (same_tk e)) y3
  exact ⟨_, zipD_get h3 h5, q1, q2⟩⟩
theorem id_zip {elts : List Expr} {kk : Nat} {tpos : Pos} (hm : X.mg "zip" = none) (ha : PE X a (tD X.K fa)) (hb : PE X b (tD X.K fb)) (hg : Gl X "zip" := by rfl)
    (hs : starEach [a, b] X.env = (false, eval a X.env) :: starEach [b] X.env := by rfl) (hs2 : starEach [b] X.env = (false, eval b X.env) :: starEach [] X.env := by rfl) (hpl : (backTo pos (starEach [b] X.env)).any (·.1) = false := by rfl) :
    PI X (.Tuple elts kk tpos) (.Call (.Name "zip" p) [a, b] [] pos) (tI X.K (zipI fa fb)) :=
  pi_w (RZ.pi_zipA hg hm (pa_cons ha (pa_cons hb pa_nil hs2) hs) hs hpl) fun σ H R ⟨ρ, ds, r, q, k⟩ => by
    obtain ⟨x, h1, h2⟩ := Option.bind_eq_some_iff.mp (show (fa ρ).bind _ = some ds from q)
    obtain ⟨y, h3, h4⟩ := Option.bind_eq_some_iff.mp h2
    refine ⟨ρ, x, r, h1, fun v H1 e1 r1 => ⟨ρ, y, r.mono e1, h3, fun u H2 e2 r2 => ?_⟩⟩
    have r1 := r1.mono e2
    split at h4
    · cases h4
      obtain ⟨p, vs, rfl, q1, q2⟩ := r1.lst
      obtain ⟨p', ws, rfl, q3, q4⟩ := r2.lst
      exact ⟨p, p', vs, ws, rfl, .inl ⟨SqL.of q1, SqL.of q3, k _ H2 (e1.trans e2) (dw_zipL q1 q2 q3 q4)⟩⟩
    · cases h4
      obtain ⟨p, vs, rfl, q1, q2⟩ := r1.tup
      obtain ⟨p', ws, rfl, q3, q4⟩ := r2.tup
      exact ⟨p, p', vs, ws, rfl, .inr ⟨SqT.of q1, SqT.of q3, k _ H2 (e1.trans e2) (dw_zipT q1 q2 q3 q4)⟩⟩
    · cases h4
/-! enumerate of a list, of a tuple -/
def enD (xs : List PyData) : List PyData := zipD (intsD xs.length) xs
def enI (f : Ev) : EvL := fun ρ => match f ρ with
  | some (.list ds) => some (enD ds)
  | some (.tuple ds) => some (enD ds)
  | _ => none
theorem enD_len (xs : List PyData) : (enD xs).length = xs.length := by
  unfold enD
  rw [zipD_len, intsD_len, Nat.min_self]
theorem enD_get {xs : List PyData} {i : Nat} {x : PyData} (h : xs[i]? = some x) : (enD xs)[i]? = some (.tuple [.int (i : Nat), x]) := zipD_get (intsD_get (List.getElem?_eq_some_iff.mp h).1) h
theorem walk_enumT {K : PySem.W.Frag} {a : Addr} {xs : List V} : L2.Walk (IteT K a) xs.length (fun H => SqT K H a xs) (YPair (fun i => some (.int (i : Nat))) (fun i => xs[i]?)) := by
  refine ⟨fun i _ hi q => ⟨xs, xs[i], q, by simp [hi]⟩, fun _ q => ⟨xs, q, Nat.le_refl _⟩, fun i H v H' _ q y => ?_⟩
  obtain ⟨T, x, h1, h2, h3, h4⟩ := y
  exact ⟨T, .int (i : Nat), x, h1, h2, h3, rfl, h4 xs q⟩
theorem dw_enL {a : Addr} {xs : List V} {ds : List PyData} {H : Hp} (h1 : H a = some (.lst xs)) (h2 : ImAll K H xs ds) : DW K (Ite K a) (enD ds) H := ⟨by
  rw [enD_len, ← h2.length]
  refine (walk_enum (xs := xs)).mono (fun H' e => SqL.of (e _ _ h1)) fun i H1 x H2 hi e ⟨T, u, v, y1, y2, y3, y4, y5⟩ => ?_
  obtain ⟨d, h3, h4⟩ := h2.get' y5
  subst y1
  cases y4
  obtain ⟨q1, q2⟩ := pair_im y2 (.int _) (h4.mono (same_tk e)) y3
  exact ⟨_, enD_get h3, q1, q2⟩⟩
theorem dw_enT {a : Addr} {xs : List V} {ds : List PyData} {H : Hp} (h1 : H a = some (.tup xs)) (h2 : ImAll K H xs ds) : DW K (IteT K a) (enD ds) H := ⟨by
  rw [enD_len, ← h2.length]
  refine (walk_enumT (xs := xs)).mono (fun H' e => SqT.of (e _ _ h1)) fun i H1 x H2 hi e ⟨T, u, v, y1, y2, y3, y4, y5⟩ => ?_
  obtain ⟨d, h3, h4⟩ := h2.get' y5
  subst y1
  cases y4
  obtain ⟨q1, q2⟩ := pair_im y2 (.int _) (h4.mono (same_tk e)) y3
  exact ⟨_, enD_get h3, q1, q2⟩⟩
theorem id_enum {elts : List Expr} {kk : Nat} {tpos : Pos} (hm : X.mg "enumerate" = none) (ha : PE X e (tD X.K f)) (hg : Gl X "enumerate" := by rfl) (hs : starEach [e] X.env = [(false, eval e X.env)] := by rfl) (n1 : starEach [e] X.env = (false, eval e X.env) :: starEach [] X.env := by rfl) :
    PI X (.Tuple elts kk tpos) (.Call (.Name "enumerate" p) [e] [] pos) (tI X.K (enI f)) :=
  pi_w (pi_or (pi_enum hg hm (pa_cons ha pa_nil n1) hs) (pi_enumT hg hm (pa_cons ha pa_nil n1) hs)) fun σ H R ⟨ρ, ds, r, q, k⟩ => by
    unfold enI at q
    split at q
    · rename_i xs hx
      cases q
      refine .inl ⟨ρ, _, r, hx, fun v H1 e1 r1 => ?_⟩
      obtain ⟨a, vs, rfl, h1, h2⟩ := r1.lst
      exact ⟨a, vs, rfl, SqL.of h1, k _ H1 e1 (dw_enL h1 h2)⟩
    · rename_i xs hx
      cases q
      refine .inr ⟨ρ, _, r, hx, fun v H1 e1 r1 => ?_⟩
      obtain ⟨a, vs, rfl, h1, h2⟩ := r1.tup
      exact ⟨a, vs, rfl, SqT.of h1, k _ H1 e1 (dw_enT h1 h2)⟩
    · cases q
end
end Wk

set_option maxHeartbeats 2000000
namespace Wk
open PySem L2 PyProof.Rows
/-! ### targets -/
abbrev PatF := PyData → DE → Option DE
abbrev PatL := List PyData → DE → Option DE
def nmP (i : Nat) : PatF := fun d ρ => some (ρ.set i (some d))
def tpP (g : PatL) : PatF := fun d ρ => match d with
  | .tuple ds => g ds ρ
  | _ => none
def nlP : PatL := fun ds ρ => match ds with
  | [] => some ρ
  | _ => none
def csP (f : PatF) (g : PatL) : PatL := fun ds ρ => match ds with
  | d :: r => (f d ρ).bind (g r)
  | [] => none
def tG (K : PySem.W.Frag) (p : PatF) (sl : List Nat) : TG := fun v σ H Q => ∃ ρ ρ' d, RepS K H σ ρ ∧ Im K H v d ∧ p d ρ = some ρ' ∧ ∀ σ', RepS K H σ' ρ' → (∀ vs, (∀ i ∈ sl, i ∈ vs) → wipe σ' vs = wipe σ vs) → Q σ' H
def tGs (K : PySem.W.Frag) (p : PatL) (sl : List Nat) : TGs := fun vs σ H Q => ∃ ρ ρ' ds, RepS K H σ ρ ∧ ImAll K H vs ds ∧ p ds ρ = some ρ' ∧ ∀ σ', RepS K H σ' ρ' → (∀ vs, (∀ i ∈ sl, i ∈ vs) → wipe σ' vs = wipe σ vs) → Q σ' H
section
variable {X : Cx} {K : PySem.W.Frag} {e a b c : Expr} {es : List Expr} {pos p : Pos} {f fa fb fc : Ev} {g gb : EvB} {fs : EvL} {x : Str}
theorem gd_name (i : Nat) {e : Expr} (h : PG X e (gName i)) : PG X e (tG K (nmP i) [i]) := pg_w h fun v σ H Q ⟨ρ, ρ', d, r, im, q, k⟩ => by
  cases q
  exact k _ (r.set (.inl im)) fun vs hv => wipe_set_in (hv i (List.mem_singleton.mpr rfl))
theorem gd_nil : PGs X [] (tGs K nlP []) := pgs_w pgs_nil fun vs σ H Q ⟨ρ, ρ', ds, r, im, q, k⟩ => by
  unfold nlP at q
  split at q
  · cases q
    cases im
    exact ⟨rfl, k σ r fun _ _ => rfl⟩
  · cases q
theorem gd_cons {t : PatF} {u : PatL} {sl sl2 : List Nat} (h1 : PG X e (tG K t sl)) (h2 : PGs X es (tGs K u sl2)) (hs : (assignEach (e :: es) X.env).map (·.2) = assign e X.env :: (assignEach es X.env).map (·.2) := by rfl) : PGs X (e :: es) (tGs K (csP t u) (sl ++ sl2)) :=
  pgs_w (pgs_cons h1 h2 hs) fun vs σ H Q ⟨ρ, ρ', ds, r, im, q, k⟩ => by
    unfold csP at q
    split at q
    · obtain ⟨ρ1, h3, h4⟩ := Option.bind_eq_some_iff.mp q
      cases im with
      | cons i1 i2 =>
        exact ⟨_, _, rfl, ρ, ρ1, _, r, i1, h3, fun σ1 r1 w1 => ⟨ρ1, ρ', _, r1, i2, h4, fun σ2 r2 w2 => k σ2 r2 fun ws hw => (w2 ws fun i hi => hw i (List.mem_append_right _ hi)).trans (w1 ws fun i hi => hw i (List.mem_append_left _ hi))⟩⟩
    · cases q
theorem csP_len {t : PatF} {u : PatL} {n : Nat} (h : ∀ ds ρ ρ', u ds ρ = some ρ' → ds.length = n) : ∀ ds ρ ρ', csP t u ds ρ = some ρ' → ds.length = n + 1 := fun ds ρ ρ' q => by
  unfold csP at q
  split at q
  · obtain ⟨ρ1, _, h4⟩ := Option.bind_eq_some_iff.mp q
    rw [List.length_cons, h _ _ _ h4]
  · cases q
theorem nlP_len : ∀ ds ρ ρ', nlP ds ρ = some ρ' → ds.length = 0 := fun ds ρ ρ' q => by
  unfold nlP at q
  split at q
  · rfl
  · cases q
theorem gd_tup {k n : Nat} {u : PatL} {sl : List Nat} (h : PGs X es (tGs X.K u sl)) (hl : ∀ ds ρ ρ', u ds ρ = some ρ' → ds.length = n) (hc : X.calm = true := by rfl) (hn : (assignEach es X.env).length = n := by rfl) (hst : (assignEach es X.env).findIdx? (·.1) = none := by rfl) : PG X (.Tuple es k pos) (tG X.K (tpP u) sl) :=
  pg_w (pg_tup hc h hn hst) fun v σ H Q ⟨ρ, ρ', d, r, im, q, k⟩ => by
    unfold tpP at q
    split at q
    · obtain ⟨a, xs, rfl, h1, h2⟩ := im.inT
      exact ⟨a, xs, rfl, SqT.of h1, by rw [h2.length, hl _ _ _ q], ρ, ρ', _, r, h2, q, k⟩
    · cases q
/-! ### comprehensions -/
def lcL (p : PatF) (c : EvB) (e : Ev) (ρ : DE) : List PyData → Option (List PyData)
  | [] => some []
  | d :: ds => match p d ρ with
    | none => none
    | some ρ1 => match c ρ1 with
      | none => none
      | some false => lcL p c e ρ ds
      | some true => match e ρ1 with
        | none => none
        | some x => match isL x with
          | true => none
          | false => (lcL p c e ρ ds).map (x :: ·)
def lcE (fi : EvL) (p : PatF) (c : EvB) (e : Ev) (vs : List Nat) : Ev := fun ρ => (fi ρ).bind fun ds => if ds.length ≤ 10000 then (lcL p c e (wipeE ρ vs) ds).map .list else none
def yesB : EvB := fun _ => some true
theorem tsd_nil : PTs X [] (tT K yesB) := ⟨fun pins s σ H Q I ⟨ρ, b, r, q, k⟩ => by
  cases q
  exact (pts_nil (X := X)).run pins s σ H Q I (k H (Same.refl H))⟩
theorem tsd_one {c : Expr} (h : PT X c (tT K g)) : PTs X [c] (tT K g) := pts_one h
/-- the reading of a comprehension -/
theorem lc_read {K : PySem.W.Frag} {J : It} {ds res : List PyData} {H1 D' : Hp} {p : PatF} {c : EvB} {e : Ev} {vs sl : List Nat} {σ : L2.St} {ρw : DE} {D : Addr} {Q : VK} (hW : DW K J ds H1) (hD : H1 D = none) (hsl : ∀ i ∈ sl, i ∈ vs) (hz : ds.length ≤ 10000) (r : RepS K H1 (wipe σ vs) ρw)
    (hres : lcL p c e ρw ds = some res) (k : ∀ H' xs, Same H1 H' → H' D = some (.lst xs) → ImAll K H' xs res → Q (.ref D) H') :
    ∃ W : Nat → Nat → Hp → Prop, (∃ m, W 0 m (upd H1 D (.lst []))) ∧ ∀ i m H, W i m H →
      (J.stop i H ∧ Q (.ref D) H) ∨ (J.go i H ∧ ∃ Nx : Hp → Prop, (∀ H', Nx H' → ∃ m', m' < m ∧ W (i + 1) m' H') ∧ ∀ x H', J.yld i H x H' → tG K p sl x (wipe σ vs) H' fun σ2 H2 => wipe σ2 vs = wipe σ vs ∧ tT K c σ2 H2 fun b H3 =>
        if b = true then tD K e σ2 H3 fun y H4 => ∃ acc, H4 D = some (.lst acc) ∧ acc.length < sizeLine ∧ Nx (upd H4 D (.lst (acc ++ [y]))) else Nx H3) := by
  refine lc_it (σ := σ) (g := tG K p sl) (tt := tT K c) (te := tD K e) hW.w (fun i H => ∃ va da rest, Same H1 H ∧ H D = some (.lst va) ∧ ImAll K H va da ∧ va.length ≤ i ∧ lcL p c e ρw (ds.drop i) = some rest ∧ da ++ rest = res)
    ⟨[], [], res, Same.new hD, upd_same, .nil, Nat.le_refl _, hres, rfl⟩ (fun i H _ ⟨_, _, _, h, _⟩ => h) ?_ ?_
  · rintro i x H H' hi ⟨va, da, rest, s1, h1, h2, h3, h4, h5⟩ ⟨d, hd, s2, im⟩
    have e0 : ds.drop i = d :: ds.drop (i + 1) := by
      obtain ⟨hi2, hd2⟩ := List.getElem?_eq_some_iff.mp hd
      rw [List.drop_eq_getElem_cons hi2, hd2]
    rw [e0] at h4
    unfold lcL at h4
    split at h4
    · cases h4
    · rename_i ρ1 hp
      refine ⟨ρw, ρ1, d, (r.mono (s1.trans s2)), im, hp, fun σ2 r2 w2 => ⟨(w2 vs hsl).trans (wipe_wipe vs), ?_⟩⟩
      split at h4
      · cases h4
      · rename_i hc
        refine ⟨ρ1, false, r2, hc, fun H3 s3 => ?_⟩
        refine iteF ?_
        exact ⟨va, da, rest, (s1.trans s2).trans s3, s3 _ _ (s2 _ _ h1), h2.mono ((same_tk s2).trans (same_tk s3)), Nat.le_succ_of_le h3, h4, h5⟩
      · rename_i hc
        refine ⟨ρ1, true, r2, hc, fun H3 s3 => ?_⟩
        refine iteT ?_
        split at h4
        · cases h4
        · rename_i y hy
          split at h4
          · cases h4
          · rename_i hl
            obtain ⟨rest', h6, h7⟩ := Option.map_eq_some_iff.mp h4
            refine ⟨ρ1, y, r2.mono s3, hy, fun v H4 s4 r4 => ?_⟩
            have hD4 : H4 D = some (.lst va) := s4 _ _ (s3 _ _ (s2 _ _ h1))
            refine ⟨va, hD4, Nat.lt_of_le_of_lt (by omega) ten, va ++ [v], da ++ [y], rest', Same.mut (((s1.trans s2).trans s3).trans s4) hD, upd_same, ?_, by rw [List.length_append]; simp; omega, h6, ?_⟩
            · exact ((h2.mono (((same_tk s2).trans (same_tk s3)).trans (same_tk s4))).snoc (r4.im hl)).mono (TK.updL hD4)
            · rw [List.append_assoc, ← h5, ← h7]
              rfl
  · rintro H ⟨va, da, rest, s1, h1, h2, h3, h4, h5⟩
    rw [List.drop_length] at h4
    cases h4
    rw [List.append_nil] at h5
    subst h5
    exact k H va s1 h1 h2
theorem lc_td {fi : EvL} {p : PatF} {c : EvB} {e : Ev} {vs sl : List Nat} {σ : L2.St} {H : Hp} {Q : VK} (hsl : ∀ i ∈ sl, i ∈ vs) (h : tD K (lcE fi p c e vs) σ H Q) : tLc (tI K fi) (tG K p sl) (tT K c) (tD K e) vs σ H Q := by
  obtain ⟨ρ, d, r, q, k⟩ := h
  obtain ⟨ds, h1, h2⟩ := Option.bind_eq_some_iff.mp (show (fi ρ).bind _ = some d from q)
  split at h2
  · rename_i hz
    obtain ⟨res, h3, rfl⟩ := Option.map_eq_some_iff.mp h2
    exact ⟨ρ, ds, r, h1, fun J H1 s1 hW D hD => lc_read (D' := H1) hW hD hsl hz ((r.mono s1).wipe vs) h3 fun H' xs s2 h4 h5 => k _ H' (s1.trans s2) (.inr ⟨D, xs, res, rfl, rfl, h4, h5⟩)⟩
  · cases h2
theorem pd_lc {elt tg iter : Expr} {ifs : List Expr} {scope : Scope} {own : List (Str × Nat)} {fi : EvL} {p : PatF} {cc : EvB} {ee : Ev} {sl : List Nat} (hN : X.N.Nodup) (hi : PI X tg iter (tI K fi)) (ok : BlkOk X.N X.env.scope scope own)
    (hg : ∀ (s : Shared) (H : Hp) (C : Addr) (cl : List (Str × Addr)) (fp : List Addr), PG (X.blk s H scope (compEnvC scope cl C X.env) fp) tg (tG K p sl)) (ht : ∀ (s : Shared) (H : Hp) (C : Addr) (cl : List (Str × Addr)) (fp : List Addr), PTs (X.blk s H scope (compEnvC scope cl C X.env) fp) ifs (tT K cc))
    (he : ∀ (s : Shared) (H : Hp) (C : Addr) (cl : List (Str × Addr)) (fp : List Addr), PE (X.blk s H scope (compEnvC scope cl C X.env) fp) elt (tD K ee)) (hsl : ∀ i ∈ sl, i ∈ own.map (·.2)) (hc : X.calm = true := by rfl) (hs : ∀ x, foldedSetIterable iter X.env x = pure x := by intro _; rfl) :
    PE X (.ListComp elt [⟨tg, iter, ifs, 0⟩] scope pos) (tD K (lcE fi p cc ee (own.map (·.2)))) := pe_w (pe_lc hc hN hi ok hg ht he hs) fun σ H Q h => lc_td hsl h
/-! ### statements -/
inductive Res where
  | nx (ρ : DE)
  | rt (d : PyData)
abbrev Es := DE → Option Res
def Post (K : PySem.W.Frag) (D : Ends) (H : Hp) : Res → Prop
  | .nx ρ => ∀ σ' H', Same H H' → RepS K H' σ' ρ → D.nx σ' H'
  | .rt d => ∀ v H', Same H H' → Rp K H' v d → D.rt v H'
theorem Post.mono {D : Ends} {H H' : Hp} {r : Res} (s : Same H H') (h : Post K D H r) : Post K D H' r := by
  cases r with
  | nx ρ => exact fun σ' H2 s2 r2 => h σ' H2 (s.trans s2) r2
  | rt d => exact fun v H2 s2 r2 => h v H2 (s.trans s2) r2
def tS (K : PySem.W.Frag) (f : Es) : TS := fun D σ H => ∃ ρ r, RepS K H σ ρ ∧ f ρ = some r ∧ Post K D H r
def skS : Es := fun ρ => some (.nx ρ)
def sqS (f g : Es) : Es := fun ρ => match f ρ with
  | none => none
  | some (.nx ρ') => g ρ'
  | some (.rt d) => some (.rt d)
def rtS (f : Ev) : Es := fun ρ => (f ρ).map .rt
def stS (i : Nat) (f : Ev) : Es := fun ρ => (f ρ).map fun d => .nx (ρ.set i (some d))
def ifS (c : EvB) (f g : Es) : Es := fun ρ => (c ρ).bind fun b => if b then f ρ else g ρ
def drS (f : Ev) : Es := fun ρ => (f ρ).map fun _ => .nx ρ
def noS : Es := fun _ => none
def asS (p : PatF) (f : Ev) : Es := fun ρ => (f ρ).bind fun d => if isL d then none else (p d ρ).map .nx
def auS (i : Nat) (f : Ev) : Es := fun ρ => match vE i ρ, f ρ with
  | some (.int a), some (.int b) => some (.nx (ρ.set i (some (.int (a + b)))))
  | _, _ => none
def p2S (i j : Nat) (f g : Ev) : Es := fun ρ => (f ρ).bind fun d => (g ρ).map fun e => .nx ((ρ.set i (some d)).set j (some e))
def p3S (i j l : Nat) (f g h : Ev) : Es := fun ρ => (f ρ).bind fun d => (g ρ).bind fun e => (h ρ).map fun u => .nx (((ρ.set i (some d)).set j (some e)).set l (some u))
theorem sd_skip {st : Stmt} (h : PS X st tNext) : PS X st (tS K skS) := ps_w h fun D σ H ⟨ρ, r, rr, q, k⟩ => by
  cases q
  exact k σ H (Same.refl H) rr
theorem ssd_nil : PSs X [] (tS K skS) := pss_w pss_nil fun D σ H ⟨ρ, r, rr, q, k⟩ => by
  cases q
  exact k σ H (Same.refl H) rr
theorem sq_read {f g : Es} {D : Ends} {σ : L2.St} {H : Hp} (h : tS K (sqS f g) D σ H) : tSeq (tS K f) (tS K g) D σ H := by
  obtain ⟨ρ, r, rr, q, k⟩ := h
  unfold sqS at q
  split at q
  · cases q
  · rename_i ρ' hf
    exact ⟨ρ, .nx ρ', rr, hf, fun σ' H' s r' => ⟨ρ', r, r', q, k.mono s⟩⟩
  · rename_i d hf
    cases q
    exact ⟨ρ, .rt d, rr, hf, k⟩
theorem ssd_cons {st : Stmt} {rest : List Stmt} {f g : Es} (h1 : PS X st (tS K f)) (h2 : PSs X rest (tS K g)) : PSs X (st :: rest) (tS K (sqS f g)) := pss_w (pss_cons h1 h2) fun D σ H h => sq_read h
theorem ssd_one {st : Stmt} {f : Es} (h1 : PS X st (tS K f)) : PSs X [st] (tS K f) := pss_one h1
theorem sd_ret (h : PE X e (tD K f)) : PS X (.Return (some e) pos) (tS K (rtS f)) := ps_w (ps_ret h) fun D σ H ⟨ρ, r, rr, q, k⟩ => by
  obtain ⟨d, h1, rfl⟩ := Option.map_eq_some_iff.mp (show (f ρ).map Res.rt = some r from q)
  exact ⟨ρ, d, rr, h1, k⟩
theorem sd_set (i : Nat) {y : Str} {pos' : Pos} (hN : X.N.Nodup) (he : PE X e (tD K f)) (hi : X.N[i]? = some y := by rfl) (hx : Loc X.env.scope y := by first | exact Or.inl rfl | exact Or.inr rfl) (hs : swapsWith e (some (.Name y pos')) pos.line X.env = pure false := by rfl) (hf : X.fn y = true ∨ X.env.scope.names.lookup y = some .local := by first | exact .inl rfl | exact .inr rfl) : PS X (.Assign [.Name y pos'] e pos) (tS K (stS i f)) :=
  ps_w (ps_set hN hi hx he hs hf) fun D σ H ⟨ρ, r, rr, q, k⟩ => by
    obtain ⟨d, h1, rfl⟩ := Option.map_eq_some_iff.mp (show (f ρ).map _ = some r from q)
    exact ⟨ρ, d, rr, h1, fun v H' s r' => k _ H' s ((rr.mono s).set r')⟩
theorem sd_setLc (i : Nat) {y : Str} {py spos : Pos} {elt tg iter : Expr} {ifs : List Expr} {scope : Scope} {own : List (Str × Nat)} {fi : EvL} {p : PatF} {cc : EvB} {ee : Ev} {sl : List Nat} (hN : X.N.Nodup) (hsw : swapsWith (.ListComp elt [⟨tg, iter, ifs, 0⟩] scope pos) (some (.Name y py)) spos.line X.env = pure true) (hi : PI X tg iter (tI K fi)) (ok : BlkOk X.N X.env.scope scope own)
    (hg : ∀ (s : Shared) (H : Hp) (C : Addr) (cl : List (Str × Addr)) (fp : List Addr), PG (X.blk s H scope (compEnvC scope cl C X.env) fp) tg (tG K p sl)) (ht : ∀ (s : Shared) (H : Hp) (C : Addr) (cl : List (Str × Addr)) (fp : List Addr), PTs (X.blk s H scope (compEnvC scope cl C X.env) fp) ifs (tT K cc))
    (he : ∀ (s : Shared) (H : Hp) (C : Addr) (cl : List (Str × Addr)) (fp : List Addr), PE (X.blk s H scope (compEnvC scope cl C X.env) fp) elt (tD K ee)) (hsl : ∀ i ∈ sl, i ∈ own.map (·.2)) (hc : X.calm = true := by rfl) (hy : X.N[i]? = some y := by rfl) (hyl : X.env.scope.names.lookup y = some .local := by rfl) (hs : ∀ x, foldedSetIterable iter X.env x = pure x := by intro _; rfl) :
    PS X (.Assign [.Name y py] (.ListComp elt [⟨tg, iter, ifs, 0⟩] scope pos) spos) (tS K (stS i (lcE fi p cc ee (own.map (·.2))))) :=
  ps_w (ps_setLc hc hN hy hyl hsw hi ok hg ht he hs) fun D σ H ⟨ρ, r, rr, q, k⟩ => by
    obtain ⟨d, h1, rfl⟩ := Option.map_eq_some_iff.mp (show (lcE fi p cc ee (own.map (·.2)) ρ).map _ = some r from q)
    exact lc_td hsl ⟨ρ, d, rr, h1, fun v H' s r' => k _ H' s ((rr.mono s).set r')⟩
theorem sd_if {a b : List Stmt} {fa fb : Es} (hc : PT X c (tT K g)) (ha : PSs X a (tS K fa)) (hb : PSs X b (tS K fb)) : PS X (.If c a b pos) (tS K (ifS g fa fb)) := ps_w (ps_if hc ha hb) fun D σ H ⟨ρ, r, rr, q, k⟩ => by
  obtain ⟨z, h1, h2⟩ := Option.bind_eq_some_iff.mp (show (g ρ).bind _ = some r from q)
  refine ⟨ρ, z, rr, h1, fun H1 e1 => ?_⟩
  cases z with
  | true =>
    rw [if_pos rfl] at h2
    refine iteT ?_
    exact ⟨ρ, r, rr.mono e1, h2, k.mono e1⟩
  | false =>
    rw [if_neg Bool.false_ne_true] at h2
    refine iteF ?_
    exact ⟨ρ, r, rr.mono e1, h2, k.mono e1⟩
theorem sd_drop (h : PE X e (tD K f)) (hs : swapsWith e none pos.line X.env = pure false := by rfl) : PS X (.Expr e pos) (tS K (drS f)) := ps_w (ps_expr h hs) fun D σ H ⟨ρ, r, rr, q, k⟩ => by
  obtain ⟨d, h1, rfl⟩ := Option.map_eq_some_iff.mp (show (f ρ).map _ = some r from q)
  exact ⟨ρ, d, rr, h1, fun v H' s _ => k σ H' s (rr.mono s)⟩
theorem ssd_no {st : List Stmt} : PSs X st (tS K noS) := pss_w pss_never fun D σ H ⟨ρ, r, rr, q, k⟩ => nomatch q
theorem sd_asg {tg : Expr} {p : PatF} {sl : List Nat} (he : PE X e (tD K f)) (hg : PG X tg (tG K p sl)) (hs : swapsWithSole [tg] e pos.line X.env = pure false := by rfl) (hw : swappedStores [tg] e X.env = pure none := by rfl)
    (h1 : (assignEach [tg] X.env).map (·.2) = [assign tg X.env] := by rfl) : PS X (.Assign [tg] e pos) (tS K (asS p f)) := ps_w (ps_asg he hg hs hw h1) fun D σ H ⟨ρ, r, rr, q, k⟩ => by
  obtain ⟨d, h1, h2⟩ := Option.bind_eq_some_iff.mp (show (f ρ).bind _ = some r from q)
  split at h2
  · cases h2
  · rename_i hl
    obtain ⟨ρ', h3, rfl⟩ := Option.map_eq_some_iff.mp h2
    exact ⟨ρ, d, rr, h1, fun v H1 s1 r1 => ⟨ρ, ρ', d, rr.mono s1, r1.im (by simpa using hl), h3, fun σ' r' _ => k σ' H1 s1 r'⟩⟩
theorem sd_aug (i : Nat) {y : Str} {pos' : Pos} (hN : X.N.Nodup) (he : PE X e (tD K f)) (hi : X.N[i]? = some y := by rfl) (hx : Loc X.env.scope y := by first | exact Or.inl rfl | exact Or.inr rfl) (hf : X.fn y = true ∨ X.env.scope.names.lookup y = some .local := by first | exact .inl rfl | exact .inr rfl) : PS X (.AugAssign (.Name y pos') .Add e pos) (tS K (auS i f)) :=
  ps_w (ps_aug hN hi hx he ip_add hf) fun D σ H ⟨ρ, r, rr, q, k⟩ => by
    unfold auS at q
    split at q
    · rename_i a b ha hb
      cases q
      obtain ⟨v, h1, h2⟩ := rr.2 i _ (getD_some ha)
      refine ⟨v, h1, ρ, _, rr, hb, fun u H1 s1 r1 => ⟨a, b, h2.int, r1.int, k _ H1 s1 ((rr.mono s1).set (.inl (.int _)))⟩⟩
    · cases q
theorem sd_par2 {i j : Nat} {y z : Str} {px py pt pt2 : Pos} {kt k2 : Nat} (hN : X.N.Nodup) (hij : i ≠ j) (ha : PE X a (tD K fa)) (hb : PE X b (tD K fb)) (hw : swappedStores [.Tuple [.Name y px, .Name z py] kt pt] (.Tuple [a, b] k2 pt2) X.env = pure (some [y, z])) (hc : X.calm = true := by rfl) (hi : X.N[i]? = some y := by rfl) (hj : X.N[j]? = some z := by rfl)
    (hx : X.env.scope.names.lookup y = some .local := by rfl) (hy : X.env.scope.names.lookup z = some .local := by rfl)
    (hs : swapsWithSole [.Tuple [.Name y px, .Name z py] kt pt] (.Tuple [a, b] k2 pt2) pos.line X.env = pure false := by rfl) (h1 : starEach [a, b] X.env = (false, eval a X.env) :: starEach [b] X.env := by rfl) (h2 : starEach [b] X.env = (false, eval b X.env) :: starEach [] X.env := by rfl) :
    PS X (.Assign [.Tuple [.Name y px, .Name z py] kt pt] (.Tuple [a, b] k2 pt2) pos) (tS K (p2S i j fa fb)) :=
  ps_w (ps_par hc hN hi hj hij hx hy (pa_cons ha (pa_cons hb pa_nil h2) h1) hw hs) fun D σ H ⟨ρ, r, rr, q, k⟩ => by
    obtain ⟨d, h1, h2⟩ := Option.bind_eq_some_iff.mp (show (fa ρ).bind _ = some r from q)
    obtain ⟨e, h3, rfl⟩ := Option.map_eq_some_iff.mp h2
    exact ⟨ρ, d, rr, h1, fun v H1 s1 r1 => ⟨ρ, e, rr.mono s1, h3, fun u H2 s2 r2 => ⟨v, u, rfl, k _ H2 (s1.trans s2) (((rr.mono (s1.trans s2)).set (r1.mono s2)).set r2)⟩⟩⟩
/-! ### for -/
def foL (p : PatF) (body : Es) : List PyData → Es
  | [], ρ => some (.nx ρ)
  | d :: ds, ρ => match p d ρ with
    | none => none
    | some ρ1 => match body ρ1 with
      | none => none
      | some (.nx ρ2) => foL p body ds ρ2
      | some (.rt x) => some (.rt x)
def foS (fi : EvL) (p : PatF) (body : Es) : Es := fun ρ => (fi ρ).bind fun ds => foL p body ds ρ
theorem fo_read {fi : EvL} {p : PatF} {body : Es} {sl : List Nat} {D : Ends} {σ : L2.St} {H : Hp} (h : tS K (foS fi p body) D σ H) : tFor (tI K fi) (tG K p sl) (tS K body) D σ H := by
  obtain ⟨ρ, r, rr, q, k⟩ := h
  obtain ⟨ds, h1, h2⟩ := Option.bind_eq_some_iff.mp (show (fi ρ).bind _ = some r from q)
  refine ⟨ρ, ds, rr, h1, fun J H1 s1 hW => ?_⟩
  refine for_it (g := tG K p sl) (tb := tS K body) (D := D) hW.w (fun i σ' H' => ∃ ρi, Same H1 H' ∧ RepS K H' σ' ρi ∧ foL p body (ds.drop i) ρi = some r) ⟨ρ, Same.refl _, rr.mono s1, h2⟩ (fun i σ' H' _ ⟨_, h, _⟩ => h) ?_ ?_
  · rintro i x σ' H' H2 hi ⟨ρi, s2, r2, h3⟩ ⟨d, hd, s3, im⟩
    have e0 : ds.drop i = d :: ds.drop (i + 1) := by
      obtain ⟨hi2, hd2⟩ := List.getElem?_eq_some_iff.mp hd
      rw [List.drop_eq_getElem_cons hi2, hd2]
    rw [e0] at h3
    unfold foL at h3
    split at h3
    · cases h3
    · rename_i ρ1 hp
      refine ⟨ρi, ρ1, d, r2.mono s3, im, hp, fun σ3 r3 _ => ?_⟩
      split at h3
      · cases h3
      · rename_i ρ2 hb
        exact ⟨ρ1, .nx ρ2, r3, hb, fun σ4 H4 s4 r4 => ⟨ρ2, (s2.trans s3).trans s4, r4, h3⟩⟩
      · rename_i d' hb
        cases h3
        exact ⟨ρ1, .rt d', r3, hb, fun v H4 s4 r4 => k v H4 (((s1.trans s2).trans s3).trans s4) r4⟩
  · rintro σ' H' ⟨ρi, s2, r2, h3⟩
    rw [List.drop_length] at h3
    cases h3
    exact k σ' H' (s1.trans s2) r2
theorem sd_for {tg iter : Expr} {body : List Stmt} {fi : EvL} {p : PatF} {fb : Es} {sl : List Nat} (hp : PassesOwn (model X.prog X.w) X.A X.env X.xe) (hi : PI X tg iter (tI K fi)) (hg : PG X tg (tG K p sl)) (hb : PSs X body (tS K fb)) (hc : X.calm = true := by rfl)
    (hs : ∀ x, foldedSetIterable iter X.env x = pure x := by intro _; rfl) : PS X (.For tg iter body [] pos) (tS K (foS fi p fb)) := ps_w (ps_for hp hc hi hg hb hs) fun D σ H h => fo_read h
end
/-! ### defs -/
def spD (K : PySem.W.Frag) (n : Nat) (f : Fd) : Sp := fun vs H Q _ => vs.length = n ∧ ∃ ds d, RpA K H vs ds ∧ f ds = some d ∧ ∀ v H', Same H H' → Rp K H' v d → Q v H'
def fnF (N : Nat) (g : Es) : Fd := fun ds => match g (ds.map some ++ List.replicate (N - ds.length) none) with
  | some (.rt d) => some d
  | some (.nx _) => some .none
  | none => none
structure FnAt (P : Program) (w : World) (K : PySem.W.Frag) (mg : Str → Option Value) (base : Heap) (k : Nat) (x : Str) (ps : List Str) (sp : Sp) : Prop where
  ex : ∃ f fd, mg x = some (.ref f) ∧ PySem.W.keepIn K (.ref f) = true ∧ Binds K fd ps [] ∧ FnOk P w K mg base CX0 k f fd ps sp
theorem FnAt.mono {P : Program} {w : World} {K : PySem.W.Frag} {mg : Str → Option Value} {base : Heap} {j k : Nat} {x : Str} {ps : List Str} {sp : Sp} (F : FnAt P w K mg base j x ps sp) (h : j ≤ k) : FnAt P w K mg base k x ps sp := by
  obtain ⟨f, fd, h1, h2, h3, h4⟩ := F.ex
  exact ⟨f, fd, h1, h2, h3, h4.mono h⟩
theorem FnAt.imp {P : Program} {w : World} {K : PySem.W.Frag} {mg : Str → Option Value} {base : Heap} {k : Nat} {x : Str} {ps : List Str} {sp sp' : Sp} (F : FnAt P w K mg base k x ps sp) (h : ∀ vs H Q E, sp' vs H Q E → sp vs H Q E) : FnAt P w K mg base k x ps sp' := by
  obtain ⟨f, fd, h1, h2, h3, h4⟩ := F.ex
  exact ⟨f, fd, h1, h2, h3, h4.imp h⟩
section
variable {X : Cx} {K : PySem.W.Frag} {e a b c : Expr} {es : List Expr} {pos p : Pos} {fs : EvL} {x : Str}
/-- any own def -/
theorem pe_fn {k : Nat} {ps : List Str} {sp : Sp} {t : TA} (F : FnAt X.prog X.w X.K X.mg X.base k x ps sp) (hr : Room k X.A) (ha : PA X (e :: es) t) (hg : Gl X x := by rfl) (hdb : (x == ("__debug__" : Str)) = false := by decide)
    (he : starEach (e :: es) X.env = (false, eval e X.env) :: starEach es X.env := by rfl) (hpl : (backTo pos (starEach es X.env)).any (·.1) = false := by rfl) : PE X (.Call (.Name x p) (e :: es) [] pos) (tCall sp [] E0 t) := by
  obtain ⟨f, fd, h1, h2, h3, h4⟩ := F.ex
  exact pe_call h4 hr hg h1 h2 h3 .nil pass0 ha hdb he hpl
theorem pd_fn {k n : Nat} {ps : List Str} {g : Fd} (F : FnAt X.prog X.w X.K X.mg X.base k x ps (spD X.K n g)) (hr : Room k X.A) (hn : (e :: es).length = n) (ha : PA X (e :: es) (tA X.K fs)) (hl : ∀ ρ ds, fs ρ = some ds → ds.length = n) (hg : Gl X x := by rfl) (hdb : (x == ("__debug__" : Str)) = false := by decide)
    (he : starEach (e :: es) X.env = (false, eval e X.env) :: starEach es X.env := by rfl) (hpl : (backTo pos (starEach es X.env)).any (·.1) = false := by rfl) : PE X (.Call (.Name x p) (e :: es) [] pos) (tD X.K (callE g fs)) :=
  pe_w (pe_fn F hr ha hg hdb he hpl) fun σ H Q ⟨ρ, d, r, q, k⟩ => by
    obtain ⟨ds, h1, h2⟩ := Option.bind_eq_some_iff.mp (show (fs ρ).bind g = some d from q)
    refine ⟨ρ, ds, r, h1, fun vs H1 e1 r1 => ?_⟩
    show spD X.K n g (vs ++ []) H1 Q E0
    rw [List.append_nil]
    exact ⟨by rw [r1.length]; exact hl ρ ds h1, ds, d, r1, h2, fun v H2 e2 r2 => k v H2 (e1.trans e2) r2⟩
theorem nilE_len : ∀ ρ ds, nilE ρ = some ds → ds.length = 0 := fun ρ ds h => by
  cases h
  rfl
theorem consE_len {f : Ev} {fs : EvL} {n : Nat} (h : ∀ ρ ds, fs ρ = some ds → ds.length = n) : ∀ ρ ds, consE f fs ρ = some ds → ds.length = n + 1 := fun ρ ds q => by
  unfold consE at q
  obtain ⟨x, h1, h2⟩ := Option.bind_eq_some_iff.mp q
  obtain ⟨xs, h3, rfl⟩ := Option.map_eq_some_iff.mp h2
  rw [List.length_cons, h ρ xs h3]
end
theorem start_rep {K : PySem.W.Frag} {H : Hp} {N : List Str} {vs : List V} {ds : List PyData} (r : RpA K H vs ds) : RepS K H (L2.start N vs) (ds.map some ++ List.replicate (N.length - ds.length) none) := by
  have hl := r.length
  refine ⟨by unfold L2.start; simp [hl], fun i d q => ?_⟩
  have key : ∀ {vs : List V} {ds : List PyData} (i : Nat) (d : PyData), RpA K H vs ds → ds[i]? = some d → ∃ v, vs[i]? = some v ∧ Rp K H v d := by
    intro vs ds i d r
    induction r generalizing i with
    | nil => intro q; simp at q
    | cons h _ ih =>
      intro q
      cases i with
      | zero =>
        simp at q
        subst q
        exact ⟨_, rfl, h⟩
      | succ i =>
        obtain ⟨v, h1, h2⟩ := ih i (by simpa using q)
        exact ⟨v, by simpa using h1, h2⟩
  by_cases hi : i < ds.length
  · rw [List.getElem?_append_left (by simpa using hi), List.getElem?_map] at q
    obtain ⟨d', h1, h2⟩ := Option.map_eq_some_iff.mp q
    cases h2
    obtain ⟨v, h3, h4⟩ := key i d r h1
    refine ⟨v, ?_, h4⟩
    unfold L2.start
    rw [List.getElem?_append_left (by simp; omega), List.getElem?_map, h3]
    rfl
  · rw [List.getElem?_append_right (by simpa using hi), List.getElem?_replicate] at q
    split at q <;> cases q
section
variable {P : Program} {w : World} {K : PySem.W.Frag} {mg : Str → Option Value} {base : Heap}
/-- a def over data, by its body -/
theorem fn_data {x : Str} {params : Arguments} {body : List Stmt} {scope : Scope} {f : Addr} {fd : FuncData} {N ps : List Str} {k : Nat} {g : Es} (F : FunD K x x params body scope [] [] f fd) (hm : mg x = some (.ref f)) (hb : Binds K fd ps []) (S : FnScope N ps scope)
    (hbody : ∀ (cdv : Value) (A : Around) (outer : List PySem.Env) (s : Shared) (H : Hp) (E : XK), Room k (A.deeper (envOfC x scope s.heap.objs.size f cdv)) → PSs (cxOf CX0 P w K mg base N x scope f cdv A outer s H E).nox body (tS K g)) :
    FnAt P w K mg base (k + 1) x ps (spD K ps.length (fnF N.length g)) := by
  refine ⟨f, fd, hm, F.kp, hb, F.ok S (fun vs H Q E h => h.1) (fun cdv A outer s H vs Q E hr h => ⟨_, (hbody cdv A outer s H E hr).nox, ?_⟩)⟩
  obtain ⟨_, ds, d, r, q, k⟩ := h
  unfold fnF at q
  split at q
  · rename_i d' hg
    cases q
    exact ⟨_, .rt d, start_rep r, hg, k⟩
  · rename_i ρ' hg
    cases q
    exact ⟨_, .nx ρ', start_rep r, hg, fun σ' H' s _ => k .non H' s (.inl .non)⟩
  · cases q
end
section
variable {X : Cx} {K : PySem.W.Frag}
theorem pd_neg (i : Int) {j : Nat} {p1 p2 : Pos} : PE X (.UnaryOp .USub (.Constant (.int i) j p1) p2) (tD K (cE (.int (-i)))) := pe_w (pe_un un_neg pe_int) fun σ H Q ⟨ρ, d, r, q, k⟩ => by
  cases q
  exact ⟨i, rfl, k _ H (Same.refl H) (.inl (.int _))⟩
end
end Wk

set_option maxHeartbeats 4000000
namespace Wk
open PySem L2 PyProof.Rows
def top (i : Nat) : Stmt := PySem.Challenge.pw_wearkeys_k75_whole_wider_houses.main.body.getD i (.Pass ⟨0, 0, 0, 0⟩)
/-- what the module's names hold -/
structure Mo (mg : Str → Option Value) : Prop where
  MOST_HEIGHT : ∃ t, mg "MOST_HEIGHT" = some (.int 6 t)
  MOST_TEETH : ∃ t, mg "MOST_TEETH" = some (.int 3 t)
  MOST_HALLS : ∃ t, mg "MOST_HALLS" = some (.int 6 t)
  MOST_LETTERS : ∃ t, mg "MOST_LETTERS" = some (.int 6 t)
  MOST_WEAR : ∃ t, mg "MOST_WEAR" = some (.int 3 t)
  MOST_DOORS : ∃ t, mg "MOST_DOORS" = some (.int 10 t)
  MOST_PRICE : ∃ t, mg "MOST_PRICE" = some (.int 9 t)
  GO : ∃ t, mg "GO" = some (.str "go" t)
  FILE : ∃ t, mg "FILE" = some (.str "file" t)
  LIFT : ∃ t, mg "LIFT" = some (.str "lift" t)
  AWAY : ∃ t, mg "AWAY" = some (.str "away" t)
  LOW : ∃ t, mg "LOW" = some (.str "low" t)
  HIGH : ∃ t, mg "HIGH" = some (.str "high" t)
  ROW : ∃ t, mg "ROW" = some (.str "row" t)
  SHUT : ∃ t, mg "SHUT" = some (.str "shut" t)
  b_isinstance : mg "isinstance" = none
  b_int : mg "int" = none
  b_bool : mg "bool" = none
  b_tuple : mg "tuple" = none
  b_str : mg "str" = none
  b_all : mg "all" = none
  b_any : mg "any" = none
  b_zip : mg "zip" = none
  b_len : mg "len" = none
  b_sorted : mg "sorted" = none
  b_range : mg "range" = none
  b_list : mg "list" = none
  b_dict : mg "dict" = none
  b_enumerate : mg "enumerate" = none
  b_min : mg "min" = none
  b_max : mg "max" = none
  b_set : mg "set" = none
structure Dn (K : PySem.W.Frag) (mg : Str → Option Value) (x : Str) (st : Stmt) : Prop where
  ex : ∃ f fd, FunD K x x (defArgs st) (defBody st) (defScope st) [] [] f fd ∧ mg x = some (.ref f)
section
variable {P : Program} {w : World} {K : PySem.W.Frag} {mg : Str → Option Value} {base : Heap}
abbrev n_is_whole : List Str := ["thing"]
def g_is_whole : Es := (rtS (andE (bE (isE .int (vE 0))) (notE (bE (isE .bool (vE 0))))))
def f_is_whole : Fd := fnF 1 g_is_whole
theorem sc_is_whole : FnScope n_is_whole ["thing"] (defScope (top 28)) := ⟨rfl, rfl, rfl, by decide +kernel, rfl, by decide +kernel, by decide +kernel⟩
theorem ok_is_whole (M : Mo mg) (D : Dn K mg "is_whole" (top 28)) : FnAt P w K mg base 1 "is_whole" ["thing"] (spD K 1 f_is_whole) := by
  obtain ⟨f, fd, F, hm⟩ := D.ex
  refine fn_data (N := n_is_whole) (g := g_is_whole) F hm (F.bindsN fun _ _ _ _ _ _ us hl => match us, hl with | [_], _ => rfl) sc_is_whole (fun cdv A outer s H E hr => ?_)
  exact (ssd_one (sd_ret (pd_and (pd_isi .int M.b_isinstance M.b_int bb_int (pd_var 0 (pv 0))) (pd_one (pd_not (pd_isi .bool M.b_isinstance M.b_bool bb_bool (pd_var 0 (pv 0))))))))
abbrev n_is_among : List Str := ["thing", "low", "high"]
def g_is_among : Es := (rtS (andE (callE f_is_whole (consE (vE 0) nilE)) (bE (chE leB leB (vE 1) (vE 0) (vE 2)))))
def f_is_among : Fd := fnF 3 g_is_among
theorem sc_is_among : FnScope n_is_among ["thing", "low", "high"] (defScope (top 29)) := ⟨rfl, rfl, rfl, by decide +kernel, rfl, by decide +kernel, by decide +kernel⟩
theorem ok_is_among (M : Mo mg) (D : Dn K mg "is_among" (top 29)) (F_is_whole : FnAt P w K mg base 1 "is_whole" ["thing"] (spD K 1 f_is_whole)) : FnAt P w K mg base 2 "is_among" ["thing", "low", "high"] (spD K 3 f_is_among) := by
  obtain ⟨f, fd, F, hm⟩ := D.ex
  refine fn_data (N := n_is_among) (g := g_is_among) F hm (F.bindsN fun _ _ _ _ _ _ us hl => match us, hl with | [_, _, _], _ => rfl) sc_is_among (fun cdv A outer s H E hr => ?_)
  exact (ssd_one (sd_ret (pd_and (pd_fn (F_is_whole.mono (by decide)) hr rfl (pd_cons (pd_var 0 (pv 0)) pd_nil) (consE_len nilE_len)) (pd_one (pd_lele (pd_var 1 (pv 1)) (pd_var 0 (pv 0)) (pd_var 2 (pv 2)))))))
abbrev n_are_some : List Str := ["thing", "low", "high"]
def g_are_some : Es := (rtS (andE (bE (isE .tuple (vE 0))) (bE (chE leB leB (vE 1) (callE lenF (consE (vE 0) nilE)) (vE 2)))))
def f_are_some : Fd := fnF 3 g_are_some
theorem sc_are_some : FnScope n_are_some ["thing", "low", "high"] (defScope (top 30)) := ⟨rfl, rfl, rfl, by decide +kernel, rfl, by decide +kernel, by decide +kernel⟩
theorem ok_are_some (M : Mo mg) (D : Dn K mg "are_some" (top 30)) : FnAt P w K mg base 1 "are_some" ["thing", "low", "high"] (spD K 3 f_are_some) := by
  obtain ⟨f, fd, F, hm⟩ := D.ex
  refine fn_data (N := n_are_some) (g := g_are_some) F hm (F.bindsN fun _ _ _ _ _ _ us hl => match us, hl with | [_, _, _], _ => rfl) sc_are_some (fun cdv A outer s H E hr => ?_)
  exact (ssd_one (sd_ret (pd_and (pd_isi .tuple M.b_isinstance M.b_tuple bb_tuple (pd_var 0 (pv 0))) (pd_one (pd_lele (pd_var 1 (pv 1)) (pd_len M.b_len (pd_cons (pd_var 0 (pv 0)) pd_nil)) (pd_var 2 (pv 2)))))))
abbrev n_rises : List Str := ["thing", "one", "later"]
def g_rises : Es := (rtS (callE allF (consE (lcE (zipI (vE 0) (slE (vE 0) (soO (cE (.int 1))) noO)) (tpP (csP (nmP 1) (csP (nmP 2) nlP))) yesB (bE (cmp2 ltB (vE 1) (vE 2))) [1, 2]) nilE)))
def f_rises : Fd := fnF 3 g_rises
theorem sc_rises : FnScope n_rises ["thing"] (defScope (top 31)) := ⟨rfl, rfl, rfl, by decide +kernel, rfl, by decide +kernel, by decide +kernel⟩
theorem ok_rises (M : Mo mg) (D : Dn K mg "rises" (top 31)) : FnAt P w K mg base 1 "rises" ["thing"] (spD K 1 f_rises) := by
  obtain ⟨f, fd, F, hm⟩ := D.ex
  refine fn_data (N := n_rises) (g := g_rises) F hm (F.bindsN fun _ _ _ _ _ _ us hl => match us, hl with | [_], _ => rfl) sc_rises (fun cdv A outer s H E hr => ?_)
  exact (ssd_one (sd_ret (pd_all M.b_all (pd_cons (pd_lc (own := [("one", 1), ("later", 2)]) sc_rises.nd (id_zip M.b_zip (pd_var 0 (pv 0)) (pd_sl (pd_var 0 (pv 0)) (od_some pd_int) od_none)) (blkOk_by (own := [("one", 1), ("later", 2)]) (N := n_rises) (sc := defScope (top 31)) (by decide +kernel)) (fun _ _ _ _ _ => (gd_tup (gd_cons (gd_name 1 (pg_name (i := 1) sc_rises.nd rfl (by first | exact Or.inl rfl | exact Or.inr rfl))) (gd_cons (gd_name 2 (pg_name (i := 2) sc_rises.nd rfl (by first | exact Or.inl rfl | exact Or.inr rfl))) gd_nil)) (csP_len (csP_len nlP_len)))) (fun _ _ _ _ _ => tsd_nil) (fun _ _ _ _ _ => (pd_lt hr.units (pd_var 1 (pv 1)) (pd_var 2 (pv 2)))) (by decide)) pd_nil))))
abbrev n_is_height : List Str := ["thing"]
def g_is_height : Es := (rtS (callE f_is_among (consE (vE 0) (consE (cE (.int 0)) (consE (cE (.int 6)) nilE)))))
def f_is_height : Fd := fnF 1 g_is_height
theorem sc_is_height : FnScope n_is_height ["thing"] (defScope (top 32)) := ⟨rfl, rfl, rfl, by decide +kernel, rfl, by decide +kernel, by decide +kernel⟩
theorem ok_is_height (M : Mo mg) (D : Dn K mg "is_height" (top 32)) (F_is_among : FnAt P w K mg base 2 "is_among" ["thing", "low", "high"] (spD K 3 f_is_among)) : FnAt P w K mg base 3 "is_height" ["thing"] (spD K 1 f_is_height) := by
  obtain ⟨f, fd, F, hm⟩ := D.ex
  refine fn_data (N := n_is_height) (g := g_is_height) F hm (F.bindsN fun _ _ _ _ _ _ us hl => match us, hl with | [_], _ => rfl) sc_is_height (fun cdv A outer s H E hr => ?_)
  exact (ssd_one (sd_ret (pd_fn (F_is_among.mono (by decide)) hr rfl (pd_cons (pd_var 0 (pv 0)) (pd_cons pd_int (pd_cons (pd_gI M.MOST_HEIGHT) pd_nil))) (consE_len (consE_len (consE_len nilE_len))))))
abbrev n_is_key_by : List Str := ["teeth", "thing", "one"]
def g_is_key_by : Es := (rtS (andE (callE f_are_some (consE (vE 1) (consE (vE 0) (consE (vE 0) nilE)))) (callE allF (consE (lcE (seqI (vE 1)) (nmP 2) yesB (callE f_is_height (consE (vE 2) nilE)) [2]) nilE))))
def f_is_key_by : Fd := fnF 3 g_is_key_by
theorem sc_is_key_by : FnScope n_is_key_by ["teeth", "thing"] (defScope (top 33)) := ⟨rfl, rfl, rfl, by decide +kernel, rfl, by decide +kernel, by decide +kernel⟩
theorem ok_is_key_by (M : Mo mg) (D : Dn K mg "is_key_by" (top 33)) (F_are_some : FnAt P w K mg base 1 "are_some" ["thing", "low", "high"] (spD K 3 f_are_some)) (F_is_height : FnAt P w K mg base 3 "is_height" ["thing"] (spD K 1 f_is_height)) : FnAt P w K mg base 4 "is_key_by" ["teeth", "thing"] (spD K 2 f_is_key_by) := by
  obtain ⟨f, fd, F, hm⟩ := D.ex
  refine fn_data (N := n_is_key_by) (g := g_is_key_by) F hm (F.bindsN fun _ _ _ _ _ _ us hl => match us, hl with | [_, _], _ => rfl) sc_is_key_by (fun cdv A outer s H E hr => ?_)
  exact (ssd_one (sd_ret (pd_and (pd_fn (F_are_some.mono (by decide)) hr rfl (pd_cons (pd_var 1 (pv 1)) (pd_cons (pd_var 0 (pv 0)) (pd_cons (pd_var 0 (pv 0)) pd_nil))) (consE_len (consE_len (consE_len nilE_len)))) (pd_one (pd_all M.b_all (pd_cons (pd_lc (own := [("one", 2)]) sc_is_key_by.nd (id_seq (pd_var 1 (pv 1))) (blkOk_by (own := [("one", 2)]) (N := n_is_key_by) (sc := defScope (top 33)) (by decide +kernel)) (fun _ _ _ _ _ => (gd_name 2 (pg_name (i := 2) sc_is_key_by.nd rfl (by first | exact Or.inl rfl | exact Or.inr rfl)))) (fun _ _ _ _ _ => tsd_nil) (fun _ _ _ _ _ => (pd_fn (F_is_height.mono (by decide)) hr rfl (pd_cons (pd_var 2 (pv 2)) pd_nil) (consE_len nilE_len))) (by decide)) pd_nil))))))
abbrev n_is_gap : List Str := ["thing", "one"]
def g_is_gap : Es := (rtS (andE (callE f_are_some (consE (vE 0) (consE (cE (.int 2)) (consE (cE (.int 2)) nilE)))) (andE (callE allF (consE (lcE (seqI (vE 0)) (nmP 1) yesB (callE f_is_height (consE (vE 1) nilE)) [1]) nilE)) (bE (cmp2 leB (op2 ixD (vE 0) (cE (.int 0))) (op2 ixD (vE 0) (cE (.int 1))))))))
def f_is_gap : Fd := fnF 2 g_is_gap
theorem sc_is_gap : FnScope n_is_gap ["thing"] (defScope (top 34)) := ⟨rfl, rfl, rfl, by decide +kernel, rfl, by decide +kernel, by decide +kernel⟩
theorem ok_is_gap (M : Mo mg) (D : Dn K mg "is_gap" (top 34)) (F_are_some : FnAt P w K mg base 1 "are_some" ["thing", "low", "high"] (spD K 3 f_are_some)) (F_is_height : FnAt P w K mg base 3 "is_height" ["thing"] (spD K 1 f_is_height)) : FnAt P w K mg base 4 "is_gap" ["thing"] (spD K 1 f_is_gap) := by
  obtain ⟨f, fd, F, hm⟩ := D.ex
  refine fn_data (N := n_is_gap) (g := g_is_gap) F hm (F.bindsN fun _ _ _ _ _ _ us hl => match us, hl with | [_], _ => rfl) sc_is_gap (fun cdv A outer s H E hr => ?_)
  exact (ssd_one (sd_ret (pd_and (pd_fn (F_are_some.mono (by decide)) hr rfl (pd_cons (pd_var 0 (pv 0)) (pd_cons pd_int (pd_cons pd_int pd_nil))) (consE_len (consE_len (consE_len nilE_len)))) (pd_and (pd_all M.b_all (pd_cons (pd_lc (own := [("one", 1)]) sc_is_gap.nd (id_seq (pd_var 0 (pv 0))) (blkOk_by (own := [("one", 1)]) (N := n_is_gap) (sc := defScope (top 34)) (by decide +kernel)) (fun _ _ _ _ _ => (gd_name 1 (pg_name (i := 1) sc_is_gap.nd rfl (by first | exact Or.inl rfl | exact Or.inr rfl)))) (fun _ _ _ _ _ => tsd_nil) (fun _ _ _ _ _ => (pd_fn (F_is_height.mono (by decide)) hr rfl (pd_cons (pd_var 1 (pv 1)) pd_nil) (consE_len nilE_len))) (by decide)) pd_nil)) (pd_one (pd_le (pd_ix (pd_var 0 (pv 0)) pd_int) (pd_ix (pd_var 0 (pv 0)) pd_int)))))))
abbrev n_is_box_by : List Str := ["teeth", "thing", "one"]
def g_is_box_by : Es := (rtS (andE (callE f_are_some (consE (vE 1) (consE (vE 0) (consE (vE 0) nilE)))) (callE allF (consE (lcE (seqI (vE 1)) (nmP 2) yesB (callE f_is_gap (consE (vE 2) nilE)) [2]) nilE))))
def f_is_box_by : Fd := fnF 3 g_is_box_by
theorem sc_is_box_by : FnScope n_is_box_by ["teeth", "thing"] (defScope (top 35)) := ⟨rfl, rfl, rfl, by decide +kernel, rfl, by decide +kernel, by decide +kernel⟩
theorem ok_is_box_by (M : Mo mg) (D : Dn K mg "is_box_by" (top 35)) (F_are_some : FnAt P w K mg base 1 "are_some" ["thing", "low", "high"] (spD K 3 f_are_some)) (F_is_gap : FnAt P w K mg base 4 "is_gap" ["thing"] (spD K 1 f_is_gap)) : FnAt P w K mg base 5 "is_box_by" ["teeth", "thing"] (spD K 2 f_is_box_by) := by
  obtain ⟨f, fd, F, hm⟩ := D.ex
  refine fn_data (N := n_is_box_by) (g := g_is_box_by) F hm (F.bindsN fun _ _ _ _ _ _ us hl => match us, hl with | [_, _], _ => rfl) sc_is_box_by (fun cdv A outer s H E hr => ?_)
  exact (ssd_one (sd_ret (pd_and (pd_fn (F_are_some.mono (by decide)) hr rfl (pd_cons (pd_var 1 (pv 1)) (pd_cons (pd_var 0 (pv 0)) (pd_cons (pd_var 0 (pv 0)) pd_nil))) (consE_len (consE_len (consE_len nilE_len)))) (pd_one (pd_all M.b_all (pd_cons (pd_lc (own := [("one", 2)]) sc_is_box_by.nd (id_seq (pd_var 1 (pv 1))) (blkOk_by (own := [("one", 2)]) (N := n_is_box_by) (sc := defScope (top 35)) (by decide +kernel)) (fun _ _ _ _ _ => (gd_name 2 (pg_name (i := 2) sc_is_box_by.nd rfl (by first | exact Or.inl rfl | exact Or.inr rfl)))) (fun _ _ _ _ _ => tsd_nil) (fun _ _ _ _ _ => (pd_fn (F_is_gap.mono (by decide)) hr rfl (pd_cons (pd_var 2 (pv 2)) pd_nil) (consE_len nilE_len))) (by decide)) pd_nil))))))
abbrev n_has_key : List Str := ["box", "key", "height", "low", "high"]
def g_has_key : Es := (rtS (callE allF (consE (lcE (zipI (vE 0) (vE 1)) (tpP (csP (tpP (csP (nmP 3) (csP (nmP 4) nlP))) (csP (nmP 2) nlP))) yesB (bE (chE leB leB (vE 3) (vE 2) (vE 4))) [2, 3, 4]) nilE)))
def f_has_key : Fd := fnF 5 g_has_key
theorem sc_has_key : FnScope n_has_key ["box", "key"] (defScope (top 37)) := ⟨rfl, rfl, rfl, by decide +kernel, rfl, by decide +kernel, by decide +kernel⟩
theorem ok_has_key (M : Mo mg) (D : Dn K mg "has_key" (top 37)) : FnAt P w K mg base 1 "has_key" ["box", "key"] (spD K 2 f_has_key) := by
  obtain ⟨f, fd, F, hm⟩ := D.ex
  refine fn_data (N := n_has_key) (g := g_has_key) F hm (F.bindsN fun _ _ _ _ _ _ us hl => match us, hl with | [_, _], _ => rfl) sc_has_key (fun cdv A outer s H E hr => ?_)
  exact (ssd_one (sd_ret (pd_all M.b_all (pd_cons (pd_lc (own := [("height", 2), ("low", 3), ("high", 4)]) sc_has_key.nd (id_zip M.b_zip (pd_var 0 (pv 0)) (pd_var 1 (pv 1))) (blkOk_by (own := [("height", 2), ("low", 3), ("high", 4)]) (N := n_has_key) (sc := defScope (top 37)) (by decide +kernel)) (fun _ _ _ _ _ => (gd_tup (gd_cons (gd_tup (gd_cons (gd_name 3 (pg_name (i := 3) sc_has_key.nd rfl (by first | exact Or.inl rfl | exact Or.inr rfl))) (gd_cons (gd_name 4 (pg_name (i := 4) sc_has_key.nd rfl (by first | exact Or.inl rfl | exact Or.inr rfl))) gd_nil)) (csP_len (csP_len nlP_len))) (gd_cons (gd_name 2 (pg_name (i := 2) sc_has_key.nd rfl (by first | exact Or.inl rfl | exact Or.inr rfl))) gd_nil)) (csP_len (csP_len nlP_len)))) (fun _ _ _ _ _ => tsd_nil) (fun _ _ _ _ _ => (pd_lele (pd_var 3 (pv 3)) (pd_var 2 (pv 2)) (pd_var 4 (pv 4)))) (by decide)) pd_nil))))
abbrev n_moved_end : List Str := ["key", "tooth", "by"]
def g_moved_end : Es := (rtS (op2 addD (op2 addD (slE (vE 0) noO (soO (vE 1))) (tupE (consE (op2 addD (op2 ixD (vE 0) (vE 1)) (vE 2)) nilE))) (slE (vE 0) (soO (op2 addD (vE 1) (cE (.int 1)))) noO)))
def f_moved_end : Fd := fnF 3 g_moved_end
theorem sc_moved_end : FnScope n_moved_end ["key", "tooth", "by"] (defScope (top 38)) := ⟨rfl, rfl, rfl, by decide +kernel, rfl, by decide +kernel, by decide +kernel⟩
theorem ok_moved_end (M : Mo mg) (D : Dn K mg "moved_end" (top 38)) : FnAt P w K mg base 1 "moved_end" ["key", "tooth", "by"] (spD K 3 f_moved_end) := by
  obtain ⟨f, fd, F, hm⟩ := D.ex
  refine fn_data (N := n_moved_end) (g := g_moved_end) F hm (F.bindsN fun _ _ _ _ _ _ us hl => match us, hl with | [_, _, _], _ => rfl) sc_moved_end (fun cdv A outer s H E hr => ?_)
  exact (ssd_one (sd_ret (pd_add (pd_add (pd_sl (pd_var 0 (pv 0)) od_none (od_some (pd_var 1 (pv 1)))) (pd_tup (pd_cons (pd_add (pd_ix (pd_var 0 (pv 0)) (pd_var 1 (pv 1))) (pd_var 2 (pv 2))) pd_nil))) (pd_sl (pd_var 0 (pv 0)) (od_some (pd_add (pd_var 1 (pv 1)) pd_int)) od_none))))
abbrev n_is_wear : List Str := ["teeth", "thing", "one"]
def g_is_wear : Es := (rtS (andE (callE f_are_some (consE (vE 1) (consE (vE 0) (consE (vE 0) nilE)))) (callE allF (consE (lcE (seqI (vE 1)) (nmP 2) yesB (callE f_is_among (consE (vE 2) (consE (cE (.int 0)) (consE (cE (.int 3)) nilE)))) [2]) nilE))))
def f_is_wear : Fd := fnF 3 g_is_wear
theorem sc_is_wear : FnScope n_is_wear ["teeth", "thing"] (defScope (top 54)) := ⟨rfl, rfl, rfl, by decide +kernel, rfl, by decide +kernel, by decide +kernel⟩
theorem ok_is_wear (M : Mo mg) (D : Dn K mg "is_wear" (top 54)) (F_are_some : FnAt P w K mg base 1 "are_some" ["thing", "low", "high"] (spD K 3 f_are_some)) (F_is_among : FnAt P w K mg base 2 "is_among" ["thing", "low", "high"] (spD K 3 f_is_among)) : FnAt P w K mg base 3 "is_wear" ["teeth", "thing"] (spD K 2 f_is_wear) := by
  obtain ⟨f, fd, F, hm⟩ := D.ex
  refine fn_data (N := n_is_wear) (g := g_is_wear) F hm (F.bindsN fun _ _ _ _ _ _ us hl => match us, hl with | [_, _], _ => rfl) sc_is_wear (fun cdv A outer s H E hr => ?_)
  exact (ssd_one (sd_ret (pd_and (pd_fn (F_are_some.mono (by decide)) hr rfl (pd_cons (pd_var 1 (pv 1)) (pd_cons (pd_var 0 (pv 0)) (pd_cons (pd_var 0 (pv 0)) pd_nil))) (consE_len (consE_len (consE_len nilE_len)))) (pd_one (pd_all M.b_all (pd_cons (pd_lc (own := [("one", 2)]) sc_is_wear.nd (id_seq (pd_var 1 (pv 1))) (blkOk_by (own := [("one", 2)]) (N := n_is_wear) (sc := defScope (top 54)) (by decide +kernel)) (fun _ _ _ _ _ => (gd_name 2 (pg_name (i := 2) sc_is_wear.nd rfl (by first | exact Or.inl rfl | exact Or.inr rfl)))) (fun _ _ _ _ _ => tsd_nil) (fun _ _ _ _ _ => (pd_fn (F_is_among.mono (by decide)) hr rfl (pd_cons (pd_var 2 (pv 2)) (pd_cons pd_int (pd_cons (pd_gI M.MOST_WEAR) pd_nil))) (consE_len (consE_len (consE_len nilE_len))))) (by decide)) pd_nil))))))
abbrev n_is_door : List Str := ["teeth", "halls", "letters", "thing", "hall"]
def g_is_door : Es := (sqS (ifS (orB (notB (tE (callE f_are_some (consE (vE 3) (consE (cE (.int 4)) (consE (cE (.int 4)) nilE)))))) (notB (tE (callE allF (consE (lcE (seqI (tupE (consE (op2 ixD (vE 3) (cE (.int 0))) (consE (op2 ixD (vE 3) (cE (.int 2))) nilE)))) (nmP 4) yesB (callE f_is_among (consE (vE 4) (consE (cE (.int 0)) (consE (op2 subD (vE 1) (cE (.int 1))) nilE)))) [4]) nilE))))) (rtS (cE (.bool false))) skS) (rtS (andE (callE f_is_among (consE (op2 ixD (vE 3) (cE (.int 1))) (consE (cE (.int 0)) (consE (op2 subD (vE 2) (cE (.int 1))) nilE)))) (callE f_is_box_by (consE (vE 0) (consE (op2 ixD (vE 3) (cE (.int 3))) nilE))))))
def f_is_door : Fd := fnF 5 g_is_door
theorem sc_is_door : FnScope n_is_door ["teeth", "halls", "letters", "thing"] (defScope (top 55)) := ⟨rfl, rfl, rfl, by decide +kernel, rfl, by decide +kernel, by decide +kernel⟩
theorem ok_is_door (M : Mo mg) (D : Dn K mg "is_door" (top 55)) (F_are_some : FnAt P w K mg base 1 "are_some" ["thing", "low", "high"] (spD K 3 f_are_some)) (F_is_among : FnAt P w K mg base 2 "is_among" ["thing", "low", "high"] (spD K 3 f_is_among)) (F_is_box_by : FnAt P w K mg base 5 "is_box_by" ["teeth", "thing"] (spD K 2 f_is_box_by)) : FnAt P w K mg base 6 "is_door" ["teeth", "halls", "letters", "thing"] (spD K 4 f_is_door) := by
  obtain ⟨f, fd, F, hm⟩ := D.ex
  refine fn_data (N := n_is_door) (g := g_is_door) F hm (F.bindsN fun _ _ _ _ _ _ us hl => match us, hl with | [_, _, _, _], _ => rfl) sc_is_door (fun cdv A outer s H E hr => ?_)
  exact (ssd_cons (sd_if (PW.pt (wd_or (td_not (td_val (pd_fn (F_are_some.mono (by decide)) hr rfl (pd_cons (pd_var 3 (pv 3)) (pd_cons pd_int (pd_cons pd_int pd_nil))) (consE_len (consE_len (consE_len nilE_len)))))) (wd_or1 (td_not (td_val (pd_all M.b_all (pd_cons (pd_lc (own := [("hall", 4)]) sc_is_door.nd (id_seq (pd_tup (pd_cons (pd_ix (pd_var 3 (pv 3)) pd_int) (pd_cons (pd_ix (pd_var 3 (pv 3)) pd_int) pd_nil)))) (blkOk_by (own := [("hall", 4)]) (N := n_is_door) (sc := defScope (top 55)) (by decide +kernel)) (fun _ _ _ _ _ => (gd_name 4 (pg_name (i := 4) sc_is_door.nd rfl (by first | exact Or.inl rfl | exact Or.inr rfl)))) (fun _ _ _ _ _ => tsd_nil) (fun _ _ _ _ _ => (pd_fn (F_is_among.mono (by decide)) hr rfl (pd_cons (pd_var 4 (pv 4)) (pd_cons pd_int (pd_cons (pd_sub (pd_var 1 (pv 1)) pd_int) pd_nil))) (consE_len (consE_len (consE_len nilE_len))))) (by decide)) pd_nil))))))) (ssd_one (sd_ret pd_bl)) ssd_nil) (ssd_one (sd_ret (pd_and (pd_fn (F_is_among.mono (by decide)) hr rfl (pd_cons (pd_ix (pd_var 3 (pv 3)) pd_int) (pd_cons pd_int (pd_cons (pd_sub (pd_var 2 (pv 2)) pd_int) pd_nil))) (consE_len (consE_len (consE_len nilE_len)))) (pd_one (pd_fn (F_is_box_by.mono (by decide)) hr rfl (pd_cons (pd_var 0 (pv 0)) (pd_cons (pd_ix (pd_var 3 (pv 3)) pd_int) pd_nil)) (consE_len (consE_len nilE_len))))))))
abbrev n_are_doors : List Str := ["teeth", "halls", "letters", "thing", "one", "door"]
def g_are_doors : Es := (sqS (ifS (orB (notB (tE (callE f_are_some (consE (vE 3) (consE (cE (.int 0)) (consE (cE (.int 10)) nilE)))))) (notB (tE (callE allF (consE (lcE (seqI (vE 3)) (nmP 4) yesB (callE f_is_door (consE (vE 0) (consE (vE 1) (consE (vE 2) (consE (vE 4) nilE))))) [4]) nilE))))) (rtS (cE (.bool false))) skS) (rtS (callE f_rises (consE (lcE (seqI (vE 3)) (nmP 5) yesB (slE (vE 5) noO (soO (cE (.int 2)))) [5]) nilE))))
def f_are_doors : Fd := fnF 6 g_are_doors
theorem sc_are_doors : FnScope n_are_doors ["teeth", "halls", "letters", "thing"] (defScope (top 56)) := ⟨rfl, rfl, rfl, by decide +kernel, rfl, by decide +kernel, by decide +kernel⟩
theorem ok_are_doors (M : Mo mg) (D : Dn K mg "are_doors" (top 56)) (F_are_some : FnAt P w K mg base 1 "are_some" ["thing", "low", "high"] (spD K 3 f_are_some)) (F_is_door : FnAt P w K mg base 6 "is_door" ["teeth", "halls", "letters", "thing"] (spD K 4 f_is_door)) (F_rises : FnAt P w K mg base 1 "rises" ["thing"] (spD K 1 f_rises)) : FnAt P w K mg base 7 "are_doors" ["teeth", "halls", "letters", "thing"] (spD K 4 f_are_doors) := by
  obtain ⟨f, fd, F, hm⟩ := D.ex
  refine fn_data (N := n_are_doors) (g := g_are_doors) F hm (F.bindsN fun _ _ _ _ _ _ us hl => match us, hl with | [_, _, _, _], _ => rfl) sc_are_doors (fun cdv A outer s H E hr => ?_)
  exact (ssd_cons (sd_if (PW.pt (wd_or (td_not (td_val (pd_fn (F_are_some.mono (by decide)) hr rfl (pd_cons (pd_var 3 (pv 3)) (pd_cons pd_int (pd_cons (pd_gI M.MOST_DOORS) pd_nil))) (consE_len (consE_len (consE_len nilE_len)))))) (wd_or1 (td_not (td_val (pd_all M.b_all (pd_cons (pd_lc (own := [("one", 4)]) sc_are_doors.nd (id_seq (pd_var 3 (pv 3))) (blkOk_by (own := [("one", 4)]) (N := n_are_doors) (sc := defScope (top 56)) (by decide +kernel)) (fun _ _ _ _ _ => (gd_name 4 (pg_name (i := 4) sc_are_doors.nd rfl (by first | exact Or.inl rfl | exact Or.inr rfl)))) (fun _ _ _ _ _ => tsd_nil) (fun _ _ _ _ _ => (pd_fn (F_is_door.mono (by decide)) hr rfl (pd_cons (pd_var 0 (pv 0)) (pd_cons (pd_var 1 (pv 1)) (pd_cons (pd_var 2 (pv 2)) (pd_cons (pd_var 4 (pv 4)) pd_nil)))) (consE_len (consE_len (consE_len (consE_len nilE_len)))))) (by decide)) pd_nil))))))) (ssd_one (sd_ret pd_bl)) ssd_nil) (ssd_one (sd_ret (pd_fn (F_rises.mono (by decide)) hr rfl (pd_cons (pd_lc (own := [("door", 5)]) sc_are_doors.nd (id_seq (pd_var 3 (pv 3))) (blkOk_by (own := [("door", 5)]) (N := n_are_doors) (sc := defScope (top 56)) (by decide +kernel)) (fun _ _ _ _ _ => (gd_name 5 (pg_name (i := 5) sc_are_doors.nd rfl (by first | exact Or.inl rfl | exact Or.inr rfl)))) (fun _ _ _ _ _ => tsd_nil) (fun _ _ _ _ _ => (pd_sl (pd_var 5 (pv 5)) od_none (od_some pd_int))) (by decide)) pd_nil) (consE_len nilE_len)))))
abbrev n_is_smith : List Str := ["halls", "thing"]
def g_is_smith : Es := (sqS (ifS (orB (notB (tE (callE f_are_some (consE (vE 1) (consE (cE (.int 3)) (consE (cE (.int 3)) nilE)))))) (notB (tE (callE f_is_among (consE (op2 ixD (vE 1) (cE (.int 0))) (consE (cE (.int 0)) (consE (op2 subD (vE 0) (cE (.int 1))) nilE))))))) (rtS (cE (.bool false))) skS) (rtS (andE (callE f_is_among (consE (op2 ixD (vE 1) (cE (.int 1))) (consE (cE (.int 1)) (consE (cE (.int 6)) nilE)))) (callE f_is_among (consE (op2 ixD (vE 1) (cE (.int 2))) (consE (cE (.int 1)) (consE (cE (.int 9)) nilE)))))))
def f_is_smith : Fd := fnF 2 g_is_smith
theorem sc_is_smith : FnScope n_is_smith ["halls", "thing"] (defScope (top 57)) := ⟨rfl, rfl, rfl, by decide +kernel, rfl, by decide +kernel, by decide +kernel⟩
theorem ok_is_smith (M : Mo mg) (D : Dn K mg "is_smith" (top 57)) (F_are_some : FnAt P w K mg base 1 "are_some" ["thing", "low", "high"] (spD K 3 f_are_some)) (F_is_among : FnAt P w K mg base 2 "is_among" ["thing", "low", "high"] (spD K 3 f_is_among)) : FnAt P w K mg base 3 "is_smith" ["halls", "thing"] (spD K 2 f_is_smith) := by
  obtain ⟨f, fd, F, hm⟩ := D.ex
  refine fn_data (N := n_is_smith) (g := g_is_smith) F hm (F.bindsN fun _ _ _ _ _ _ us hl => match us, hl with | [_, _], _ => rfl) sc_is_smith (fun cdv A outer s H E hr => ?_)
  exact (ssd_cons (sd_if (PW.pt (wd_or (td_not (td_val (pd_fn (F_are_some.mono (by decide)) hr rfl (pd_cons (pd_var 1 (pv 1)) (pd_cons pd_int (pd_cons pd_int pd_nil))) (consE_len (consE_len (consE_len nilE_len)))))) (wd_or1 (td_not (td_val (pd_fn (F_is_among.mono (by decide)) hr rfl (pd_cons (pd_ix (pd_var 1 (pv 1)) pd_int) (pd_cons pd_int (pd_cons (pd_sub (pd_var 0 (pv 0)) pd_int) pd_nil))) (consE_len (consE_len (consE_len nilE_len))))))))) (ssd_one (sd_ret pd_bl)) ssd_nil) (ssd_one (sd_ret (pd_and (pd_fn (F_is_among.mono (by decide)) hr rfl (pd_cons (pd_ix (pd_var 1 (pv 1)) pd_int) (pd_cons pd_int (pd_cons (pd_gI M.MOST_HEIGHT) pd_nil))) (consE_len (consE_len (consE_len nilE_len)))) (pd_one (pd_fn (F_is_among.mono (by decide)) hr rfl (pd_cons (pd_ix (pd_var 1 (pv 1)) pd_int) (pd_cons pd_int (pd_cons (pd_gI M.MOST_PRICE) pd_nil))) (consE_len (consE_len (consE_len nilE_len)))))))))
abbrev n_are_benches : List Str := ["halls", "thing", "one"]
def g_are_benches : Es := (rtS (andE (bE (isE .tuple (vE 1))) (andE (callE allF (consE (lcE (seqI (vE 1)) (nmP 2) yesB (callE f_is_among (consE (vE 2) (consE (cE (.int 0)) (consE (op2 subD (vE 0) (cE (.int 1))) nilE)))) [2]) nilE)) (callE f_rises (consE (vE 1) nilE)))))
def f_are_benches : Fd := fnF 3 g_are_benches
theorem sc_are_benches : FnScope n_are_benches ["halls", "thing"] (defScope (top 58)) := ⟨rfl, rfl, rfl, by decide +kernel, rfl, by decide +kernel, by decide +kernel⟩
theorem ok_are_benches (M : Mo mg) (D : Dn K mg "are_benches" (top 58)) (F_is_among : FnAt P w K mg base 2 "is_among" ["thing", "low", "high"] (spD K 3 f_is_among)) (F_rises : FnAt P w K mg base 1 "rises" ["thing"] (spD K 1 f_rises)) : FnAt P w K mg base 3 "are_benches" ["halls", "thing"] (spD K 2 f_are_benches) := by
  obtain ⟨f, fd, F, hm⟩ := D.ex
  refine fn_data (N := n_are_benches) (g := g_are_benches) F hm (F.bindsN fun _ _ _ _ _ _ us hl => match us, hl with | [_, _], _ => rfl) sc_are_benches (fun cdv A outer s H E hr => ?_)
  exact (ssd_one (sd_ret (pd_and (pd_isi .tuple M.b_isinstance M.b_tuple bb_tuple (pd_var 1 (pv 1))) (pd_and (pd_all M.b_all (pd_cons (pd_lc (own := [("one", 2)]) sc_are_benches.nd (id_seq (pd_var 1 (pv 1))) (blkOk_by (own := [("one", 2)]) (N := n_are_benches) (sc := defScope (top 58)) (by decide +kernel)) (fun _ _ _ _ _ => (gd_name 2 (pg_name (i := 2) sc_are_benches.nd rfl (by first | exact Or.inl rfl | exact Or.inr rfl)))) (fun _ _ _ _ _ => tsd_nil) (fun _ _ _ _ _ => (pd_fn (F_is_among.mono (by decide)) hr rfl (pd_cons (pd_var 2 (pv 2)) (pd_cons pd_int (pd_cons (pd_sub (pd_var 0 (pv 0)) pd_int) pd_nil))) (consE_len (consE_len (consE_len nilE_len))))) (by decide)) pd_nil)) (pd_one (pd_fn (F_rises.mono (by decide)) hr rfl (pd_cons (pd_var 1 (pv 1)) pd_nil) (consE_len nilE_len)))))))
abbrev n_are_smiths : List Str := ["halls", "thing", "one"]
def g_are_smiths : Es := (sqS (ifS (orB (notB (tE (bE (isE .tuple (vE 1))))) (notB (tE (callE allF (consE (lcE (seqI (vE 1)) (nmP 2) yesB (callE f_is_smith (consE (vE 0) (consE (vE 2) nilE))) [2]) nilE))))) (rtS (cE (.bool false))) skS) (rtS (callE f_rises (consE (lcE (seqI (vE 1)) (nmP 2) yesB (op2 ixD (vE 2) (cE (.int 0))) [2]) nilE))))
def f_are_smiths : Fd := fnF 3 g_are_smiths
theorem sc_are_smiths : FnScope n_are_smiths ["halls", "thing"] (defScope (top 59)) := ⟨rfl, rfl, rfl, by decide +kernel, rfl, by decide +kernel, by decide +kernel⟩
theorem ok_are_smiths (M : Mo mg) (D : Dn K mg "are_smiths" (top 59)) (F_is_smith : FnAt P w K mg base 3 "is_smith" ["halls", "thing"] (spD K 2 f_is_smith)) (F_rises : FnAt P w K mg base 1 "rises" ["thing"] (spD K 1 f_rises)) : FnAt P w K mg base 4 "are_smiths" ["halls", "thing"] (spD K 2 f_are_smiths) := by
  obtain ⟨f, fd, F, hm⟩ := D.ex
  refine fn_data (N := n_are_smiths) (g := g_are_smiths) F hm (F.bindsN fun _ _ _ _ _ _ us hl => match us, hl with | [_, _], _ => rfl) sc_are_smiths (fun cdv A outer s H E hr => ?_)
  exact (ssd_cons (sd_if (PW.pt (wd_or (td_not (td_val (pd_isi .tuple M.b_isinstance M.b_tuple bb_tuple (pd_var 1 (pv 1))))) (wd_or1 (td_not (td_val (pd_all M.b_all (pd_cons (pd_lc (own := [("one", 2)]) sc_are_smiths.nd (id_seq (pd_var 1 (pv 1))) (blkOk_by (own := [("one", 2)]) (N := n_are_smiths) (sc := defScope (top 59)) (by decide +kernel)) (fun _ _ _ _ _ => (gd_name 2 (pg_name (i := 2) sc_are_smiths.nd rfl (by first | exact Or.inl rfl | exact Or.inr rfl)))) (fun _ _ _ _ _ => tsd_nil) (fun _ _ _ _ _ => (pd_fn (F_is_smith.mono (by decide)) hr rfl (pd_cons (pd_var 0 (pv 0)) (pd_cons (pd_var 2 (pv 2)) pd_nil)) (consE_len (consE_len nilE_len)))) (by decide)) pd_nil))))))) (ssd_one (sd_ret pd_bl)) ssd_nil) (ssd_one (sd_ret (pd_fn (F_rises.mono (by decide)) hr rfl (pd_cons (pd_lc (own := [("one", 2)]) sc_are_smiths.nd (id_seq (pd_var 1 (pv 1))) (blkOk_by (own := [("one", 2)]) (N := n_are_smiths) (sc := defScope (top 59)) (by decide +kernel)) (fun _ _ _ _ _ => (gd_name 2 (pg_name (i := 2) sc_are_smiths.nd rfl (by first | exact Or.inl rfl | exact Or.inr rfl)))) (fun _ _ _ _ _ => tsd_nil) (fun _ _ _ _ _ => (pd_ix (pd_var 2 (pv 2)) pd_int)) (by decide)) pd_nil) (consE_len nilE_len)))))
abbrev n_is_house : List Str := ["thing", "teeth", "halls", "wears", "doors", "benches", "smiths", "one"]
def g_is_house : Es := (sqS (ifS (orB (notB (tE (callE f_are_some (consE (vE 0) (consE (cE (.int 6)) (consE (cE (.int 6)) nilE)))))) (orB (notB (tE (callE f_is_among (consE (op2 ixD (vE 0) (cE (.int 0))) (consE (cE (.int 1)) (consE (cE (.int 3)) nilE)))))) (notB (tE (callE f_is_among (consE (op2 ixD (vE 0) (cE (.int 1))) (consE (cE (.int 1)) (consE (cE (.int 6)) nilE)))))))) (rtS (cE (.bool false))) skS) (sqS (asS (tpP (csP (nmP 1) (csP (nmP 2) (csP (nmP 3) (csP (nmP 4) (csP (nmP 5) (csP (nmP 6) nlP))))))) (vE 0)) (sqS (ifS (orB (notB (tE (callE f_are_some (consE (vE 3) (consE (cE (.int 1)) (consE (cE (.int 6)) nilE)))))) (notB (tE (callE allF (consE (lcE (seqI (vE 3)) (nmP 7) yesB (callE f_is_wear (consE (vE 1) (consE (vE 7) nilE))) [7]) nilE))))) (rtS (cE (.bool false))) skS) (sqS (ifS (notB (tE (callE f_are_doors (consE (vE 1) (consE (vE 2) (consE (callE lenF (consE (vE 3) nilE)) (consE (vE 4) nilE))))))) (rtS (cE (.bool false))) skS) (rtS (andE (callE f_are_benches (consE (vE 2) (consE (vE 5) nilE))) (callE f_are_smiths (consE (vE 2) (consE (vE 6) nilE)))))))))
def f_is_house : Fd := fnF 8 g_is_house
theorem sc_is_house : FnScope n_is_house ["thing"] (defScope (top 60)) := ⟨rfl, rfl, rfl, by decide +kernel, rfl, by decide +kernel, by decide +kernel⟩
theorem ok_is_house (M : Mo mg) (D : Dn K mg "is_house" (top 60)) (F_are_some : FnAt P w K mg base 1 "are_some" ["thing", "low", "high"] (spD K 3 f_are_some)) (F_is_among : FnAt P w K mg base 2 "is_among" ["thing", "low", "high"] (spD K 3 f_is_among)) (F_is_wear : FnAt P w K mg base 3 "is_wear" ["teeth", "thing"] (spD K 2 f_is_wear)) (F_are_doors : FnAt P w K mg base 7 "are_doors" ["teeth", "halls", "letters", "thing"] (spD K 4 f_are_doors)) (F_are_benches : FnAt P w K mg base 3 "are_benches" ["halls", "thing"] (spD K 2 f_are_benches)) (F_are_smiths : FnAt P w K mg base 4 "are_smiths" ["halls", "thing"] (spD K 2 f_are_smiths)) : FnAt P w K mg base 8 "is_house" ["thing"] (spD K 1 f_is_house) := by
  obtain ⟨f, fd, F, hm⟩ := D.ex
  refine fn_data (N := n_is_house) (g := g_is_house) F hm (F.bindsN fun _ _ _ _ _ _ us hl => match us, hl with | [_], _ => rfl) sc_is_house (fun cdv A outer s H E hr => ?_)
  exact (ssd_cons (sd_if (PW.pt (wd_or (td_not (td_val (pd_fn (F_are_some.mono (by decide)) hr rfl (pd_cons (pd_var 0 (pv 0)) (pd_cons pd_int (pd_cons pd_int pd_nil))) (consE_len (consE_len (consE_len nilE_len)))))) (wd_or (td_not (td_val (pd_fn (F_is_among.mono (by decide)) hr rfl (pd_cons (pd_ix (pd_var 0 (pv 0)) pd_int) (pd_cons pd_int (pd_cons (pd_gI M.MOST_TEETH) pd_nil))) (consE_len (consE_len (consE_len nilE_len)))))) (wd_or1 (td_not (td_val (pd_fn (F_is_among.mono (by decide)) hr rfl (pd_cons (pd_ix (pd_var 0 (pv 0)) pd_int) (pd_cons pd_int (pd_cons (pd_gI M.MOST_HALLS) pd_nil))) (consE_len (consE_len (consE_len nilE_len)))))))))) (ssd_one (sd_ret pd_bl)) ssd_nil) (ssd_cons (sd_asg (pd_var 0 (pv 0)) (gd_tup (gd_cons (gd_name 1 (pg_name (i := 1) sc_is_house.nd rfl (by first | exact Or.inl rfl | exact Or.inr rfl))) (gd_cons (gd_name 2 (pg_name (i := 2) sc_is_house.nd rfl (by first | exact Or.inl rfl | exact Or.inr rfl))) (gd_cons (gd_name 3 (pg_name (i := 3) sc_is_house.nd rfl (by first | exact Or.inl rfl | exact Or.inr rfl))) (gd_cons (gd_name 4 (pg_name (i := 4) sc_is_house.nd rfl (by first | exact Or.inl rfl | exact Or.inr rfl))) (gd_cons (gd_name 5 (pg_name (i := 5) sc_is_house.nd rfl (by first | exact Or.inl rfl | exact Or.inr rfl))) (gd_cons (gd_name 6 (pg_name (i := 6) sc_is_house.nd rfl (by first | exact Or.inl rfl | exact Or.inr rfl))) gd_nil)))))) (csP_len (csP_len (csP_len (csP_len (csP_len (csP_len nlP_len)))))))) (ssd_cons (sd_if (PW.pt (wd_or (td_not (td_val (pd_fn (F_are_some.mono (by decide)) hr rfl (pd_cons (pd_var 3 (pv 3)) (pd_cons pd_int (pd_cons (pd_gI M.MOST_LETTERS) pd_nil))) (consE_len (consE_len (consE_len nilE_len)))))) (wd_or1 (td_not (td_val (pd_all M.b_all (pd_cons (pd_lc (own := [("one", 7)]) sc_is_house.nd (id_seq (pd_var 3 (pv 3))) (blkOk_by (own := [("one", 7)]) (N := n_is_house) (sc := defScope (top 60)) (by decide +kernel)) (fun _ _ _ _ _ => (gd_name 7 (pg_name (i := 7) sc_is_house.nd rfl (by first | exact Or.inl rfl | exact Or.inr rfl)))) (fun _ _ _ _ _ => tsd_nil) (fun _ _ _ _ _ => (pd_fn (F_is_wear.mono (by decide)) hr rfl (pd_cons (pd_var 1 (pv 1)) (pd_cons (pd_var 7 (pv 7)) pd_nil)) (consE_len (consE_len nilE_len)))) (by decide)) pd_nil))))))) (ssd_one (sd_ret pd_bl)) ssd_nil) (ssd_cons (sd_if (td_not (td_val (pd_fn (F_are_doors.mono (by decide)) hr rfl (pd_cons (pd_var 1 (pv 1)) (pd_cons (pd_var 2 (pv 2)) (pd_cons (pd_len M.b_len (pd_cons (pd_var 3 (pv 3)) pd_nil)) (pd_cons (pd_var 4 (pv 4)) pd_nil)))) (consE_len (consE_len (consE_len (consE_len nilE_len))))))) (ssd_one (sd_ret pd_bl)) ssd_nil) (ssd_one (sd_ret (pd_and (pd_fn (F_are_benches.mono (by decide)) hr rfl (pd_cons (pd_var 2 (pv 2)) (pd_cons (pd_var 5 (pv 5)) pd_nil)) (consE_len (consE_len nilE_len))) (pd_one (pd_fn (F_are_smiths.mono (by decide)) hr rfl (pd_cons (pd_var 2 (pv 2)) (pd_cons (pd_var 6 (pv 6)) pd_nil)) (consE_len (consE_len nilE_len)))))))))))
abbrev n_need_house : List Str := ["thing"]
def g_need_house : Es := (ifS (notB (tE (callE f_is_house (consE (vE 0) nilE)))) noS skS)
def f_need_house : Fd := fnF 1 g_need_house
theorem sc_need_house : FnScope n_need_house ["thing"] (defScope (top 61)) := ⟨rfl, rfl, rfl, by decide +kernel, rfl, by decide +kernel, by decide +kernel⟩
theorem ok_need_house (M : Mo mg) (D : Dn K mg "need_house" (top 61)) (F_is_house : FnAt P w K mg base 8 "is_house" ["thing"] (spD K 1 f_is_house)) : FnAt P w K mg base 9 "need_house" ["thing"] (spD K 1 f_need_house) := by
  obtain ⟨f, fd, F, hm⟩ := D.ex
  refine fn_data (N := n_need_house) (g := g_need_house) F hm (F.bindsN fun _ _ _ _ _ _ us hl => match us, hl with | [_], _ => rfl) sc_need_house (fun cdv A outer s H E hr => ?_)
  exact (ssd_one (sd_if (td_not (td_val (pd_fn (F_is_house.mono (by decide)) hr rfl (pd_cons (pd_var 0 (pv 0)) pd_nil) (consE_len nilE_len)))) ssd_no ssd_nil))
abbrev n_is_hall : List Str := ["house", "thing"]
def g_is_hall : Es := (rtS (callE f_is_among (consE (vE 1) (consE (cE (.int 0)) (consE (op2 subD (op2 ixD (vE 0) (cE (.int 1))) (cE (.int 1))) nilE)))))
def f_is_hall : Fd := fnF 2 g_is_hall
theorem sc_is_hall : FnScope n_is_hall ["house", "thing"] (defScope (top 62)) := ⟨rfl, rfl, rfl, by decide +kernel, rfl, by decide +kernel, by decide +kernel⟩
theorem ok_is_hall (M : Mo mg) (D : Dn K mg "is_hall" (top 62)) (F_is_among : FnAt P w K mg base 2 "is_among" ["thing", "low", "high"] (spD K 3 f_is_among)) : FnAt P w K mg base 3 "is_hall" ["house", "thing"] (spD K 2 f_is_hall) := by
  obtain ⟨f, fd, F, hm⟩ := D.ex
  refine fn_data (N := n_is_hall) (g := g_is_hall) F hm (F.bindsN fun _ _ _ _ _ _ us hl => match us, hl with | [_, _], _ => rfl) sc_is_hall (fun cdv A outer s H E hr => ?_)
  exact (ssd_one (sd_ret (pd_fn (F_is_among.mono (by decide)) hr rfl (pd_cons (pd_var 1 (pv 1)) (pd_cons pd_int (pd_cons (pd_sub (pd_ix (pd_var 0 (pv 0)) pd_int) pd_int) pd_nil))) (consE_len (consE_len (consE_len nilE_len))))))
abbrev n_is_stand : List Str := ["house", "thing"]
def g_is_stand : Es := (rtS (andE (callE f_are_some (consE (vE 1) (consE (cE (.int 2)) (consE (cE (.int 2)) nilE)))) (andE (callE f_is_hall (consE (vE 0) (consE (op2 ixD (vE 1) (cE (.int 0))) nilE))) (callE f_is_key_by (consE (op2 ixD (vE 0) (cE (.int 0))) (consE (op2 ixD (vE 1) (cE (.int 1))) nilE))))))
def f_is_stand : Fd := fnF 2 g_is_stand
theorem sc_is_stand : FnScope n_is_stand ["house", "thing"] (defScope (top 63)) := ⟨rfl, rfl, rfl, by decide +kernel, rfl, by decide +kernel, by decide +kernel⟩
theorem ok_is_stand (M : Mo mg) (D : Dn K mg "is_stand" (top 63)) (F_are_some : FnAt P w K mg base 1 "are_some" ["thing", "low", "high"] (spD K 3 f_are_some)) (F_is_hall : FnAt P w K mg base 3 "is_hall" ["house", "thing"] (spD K 2 f_is_hall)) (F_is_key_by : FnAt P w K mg base 4 "is_key_by" ["teeth", "thing"] (spD K 2 f_is_key_by)) : FnAt P w K mg base 5 "is_stand" ["house", "thing"] (spD K 2 f_is_stand) := by
  obtain ⟨f, fd, F, hm⟩ := D.ex
  refine fn_data (N := n_is_stand) (g := g_is_stand) F hm (F.bindsN fun _ _ _ _ _ _ us hl => match us, hl with | [_, _], _ => rfl) sc_is_stand (fun cdv A outer s H E hr => ?_)
  exact (ssd_one (sd_ret (pd_and (pd_fn (F_are_some.mono (by decide)) hr rfl (pd_cons (pd_var 1 (pv 1)) (pd_cons pd_int (pd_cons pd_int pd_nil))) (consE_len (consE_len (consE_len nilE_len)))) (pd_and (pd_fn (F_is_hall.mono (by decide)) hr rfl (pd_cons (pd_var 0 (pv 0)) (pd_cons (pd_ix (pd_var 1 (pv 1)) pd_int) pd_nil)) (consE_len (consE_len nilE_len))) (pd_one (pd_fn (F_is_key_by.mono (by decide)) hr rfl (pd_cons (pd_ix (pd_var 0 (pv 0)) pd_int) (pd_cons (pd_ix (pd_var 1 (pv 1)) pd_int) pd_nil)) (consE_len (consE_len nilE_len))))))))
abbrev n_need_stand : List Str := ["house", "thing"]
def g_need_stand : Es := (sqS (drS (callE f_need_house (consE (vE 0) nilE))) (ifS (notB (tE (callE f_is_stand (consE (vE 0) (consE (vE 1) nilE))))) noS skS))
def f_need_stand : Fd := fnF 2 g_need_stand
theorem sc_need_stand : FnScope n_need_stand ["house", "thing"] (defScope (top 64)) := ⟨rfl, rfl, rfl, by decide +kernel, rfl, by decide +kernel, by decide +kernel⟩
theorem ok_need_stand (M : Mo mg) (D : Dn K mg "need_stand" (top 64)) (F_need_house : FnAt P w K mg base 9 "need_house" ["thing"] (spD K 1 f_need_house)) (F_is_stand : FnAt P w K mg base 5 "is_stand" ["house", "thing"] (spD K 2 f_is_stand)) : FnAt P w K mg base 10 "need_stand" ["house", "thing"] (spD K 2 f_need_stand) := by
  obtain ⟨f, fd, F, hm⟩ := D.ex
  refine fn_data (N := n_need_stand) (g := g_need_stand) F hm (F.bindsN fun _ _ _ _ _ _ us hl => match us, hl with | [_, _], _ => rfl) sc_need_stand (fun cdv A outer s H E hr => ?_)
  exact (ssd_cons (sd_drop (pd_fn (F_need_house.mono (by decide)) hr rfl (pd_cons (pd_var 0 (pv 0)) pd_nil) (consE_len nilE_len))) (ssd_one (sd_if (td_not (td_val (pd_fn (F_is_stand.mono (by decide)) hr rfl (pd_cons (pd_var 0 (pv 0)) (pd_cons (pd_var 1 (pv 1)) pd_nil)) (consE_len (consE_len nilE_len))))) ssd_no ssd_nil)))
abbrev n_is_deed : List Str := ["house", "thing"]
def g_is_deed : Es := (sqS (ifS (orB (notB (tE (callE f_are_some (consE (vE 1) (consE (cE (.int 2)) (consE (cE (.int 2)) nilE)))))) (orB (notB (tE (bE (isE .str (op2 ixD (vE 1) (cE (.int 0))))))) (cmp2 niB (op2 ixD (vE 1) (cE (.int 0))) (tupE (consE (cE (.str "go")) (consE (cE (.str "file")) (consE (cE (.str "lift")) nilE))))))) (rtS (cE (.bool false))) skS) (rtS (callE f_is_among (consE (op2 ixD (vE 1) (cE (.int 1))) (consE (cE (.int 0)) (consE (op2 subD (ifE (cmp2 eqB (op2 ixD (vE 1) (cE (.int 0))) (cE (.str "go"))) (callE lenF (consE (op2 ixD (vE 0) (cE (.int 2))) nilE)) (op2 ixD (vE 0) (cE (.int 0)))) (cE (.int 1))) nilE))))))
def f_is_deed : Fd := fnF 2 g_is_deed
theorem sc_is_deed : FnScope n_is_deed ["house", "thing"] (defScope (top 65)) := ⟨rfl, rfl, rfl, by decide +kernel, rfl, by decide +kernel, by decide +kernel⟩
theorem ok_is_deed (M : Mo mg) (D : Dn K mg "is_deed" (top 65)) (F_are_some : FnAt P w K mg base 1 "are_some" ["thing", "low", "high"] (spD K 3 f_are_some)) (F_is_among : FnAt P w K mg base 2 "is_among" ["thing", "low", "high"] (spD K 3 f_is_among)) : FnAt P w K mg base 3 "is_deed" ["house", "thing"] (spD K 2 f_is_deed) := by
  obtain ⟨f, fd, F, hm⟩ := D.ex
  refine fn_data (N := n_is_deed) (g := g_is_deed) F hm (F.bindsN fun _ _ _ _ _ _ us hl => match us, hl with | [_, _], _ => rfl) sc_is_deed (fun cdv A outer s H E hr => ?_)
  exact (ssd_cons (sd_if (PW.pt (wd_or (td_not (td_val (pd_fn (F_are_some.mono (by decide)) hr rfl (pd_cons (pd_var 1 (pv 1)) (pd_cons pd_int (pd_cons pd_int pd_nil))) (consE_len (consE_len (consE_len nilE_len)))))) (wd_or (td_not (td_val (pd_isi .str M.b_isinstance M.b_str bb_str (pd_ix (pd_var 1 (pv 1)) pd_int)))) (wd_or1 (td_ni hr.units (pd_ix (pd_var 1 (pv 1)) pd_int) (pd_tup (pd_cons (pd_gS M.GO) (pd_cons (pd_gS M.FILE) (pd_cons (pd_gS M.LIFT) pd_nil))))))))) (ssd_one (sd_ret pd_bl)) ssd_nil) (ssd_one (sd_ret (pd_fn (F_is_among.mono (by decide)) hr rfl (pd_cons (pd_ix (pd_var 1 (pv 1)) pd_int) (pd_cons pd_int (pd_cons (pd_sub (pd_if (td_eq hr.units (pd_ix (pd_var 1 (pv 1)) pd_int) (pd_gS M.GO)) (pd_len M.b_len (pd_cons (pd_ix (pd_var 0 (pv 0)) pd_int) pd_nil)) (pd_ix (pd_var 0 (pv 0)) pd_int)) pd_int) pd_nil))) (consE_len (consE_len (consE_len nilE_len)))))))
abbrev n_all_deeds : List Str := ["house", "teeth", "letters", "found", "tooth", "letter"]
def g_all_deeds : Es := (sqS (p2S 1 2 (lrE (op2 ixD (vE 0) (cE (.int 0)))) (lrE (callE lenF (consE (op2 ixD (vE 0) (cE (.int 2))) nilE)))) (sqS (stS 3 (op2 addD (lcE (seqI (vE 1)) (nmP 4) yesB (tupE (consE (cE (.str "file")) (consE (vE 4) nilE))) [4]) (lcE (seqI (vE 2)) (nmP 5) yesB (tupE (consE (cE (.str "go")) (consE (vE 5) nilE))) [5]))) (rtS (op2 addD (vE 3) (lcE (seqI (vE 1)) (nmP 4) yesB (tupE (consE (cE (.str "lift")) (consE (vE 4) nilE))) [4])))))
def f_all_deeds : Fd := fnF 6 g_all_deeds
theorem sc_all_deeds : FnScope n_all_deeds ["house"] (defScope (top 67)) := ⟨rfl, rfl, rfl, by decide +kernel, rfl, by decide +kernel, by decide +kernel⟩
theorem ok_all_deeds (M : Mo mg) (D : Dn K mg "all_deeds" (top 67)) : FnAt P w K mg base 1 "all_deeds" ["house"] (spD K 1 f_all_deeds) := by
  obtain ⟨f, fd, F, hm⟩ := D.ex
  refine fn_data (N := n_all_deeds) (g := g_all_deeds) F hm (F.bindsN fun _ _ _ _ _ _ us hl => match us, hl with | [_], _ => rfl) sc_all_deeds (fun cdv A outer s H E hr => ?_)
  exact (ssd_cons (sd_par2 (i := 1) (j := 2) sc_all_deeds.nd (by decide) (pd_lr M.b_list M.b_range (pd_ix (pd_var 0 (pv 0)) pd_int)) (pd_lr M.b_list M.b_range (pd_len M.b_len (pd_cons (pd_ix (pd_var 0 (pv 0)) pd_int) pd_nil))) rfl) (ssd_cons (sd_set 3 sc_all_deeds.nd (pd_add (pd_lc (own := [("tooth", 4)]) sc_all_deeds.nd (id_seq (pd_var 1 (pv 1))) (blkOk_by (own := [("tooth", 4)]) (N := n_all_deeds) (sc := defScope (top 67)) (by decide +kernel)) (fun _ _ _ _ _ => (gd_name 4 (pg_name (i := 4) sc_all_deeds.nd rfl (by first | exact Or.inl rfl | exact Or.inr rfl)))) (fun _ _ _ _ _ => tsd_nil) (fun _ _ _ _ _ => (pd_tup (pd_cons (pd_gS M.FILE) (pd_cons (pd_var 4 (pv 4)) pd_nil)))) (by decide)) (pd_lc (own := [("letter", 5)]) sc_all_deeds.nd (id_seq (pd_var 2 (pv 2))) (blkOk_by (own := [("letter", 5)]) (N := n_all_deeds) (sc := defScope (top 67)) (by decide +kernel)) (fun _ _ _ _ _ => (gd_name 5 (pg_name (i := 5) sc_all_deeds.nd rfl (by first | exact Or.inl rfl | exact Or.inr rfl)))) (fun _ _ _ _ _ => tsd_nil) (fun _ _ _ _ _ => (pd_tup (pd_cons (pd_gS M.GO) (pd_cons (pd_var 5 (pv 5)) pd_nil)))) (by decide)))) (ssd_one (sd_ret (pd_add (pd_var 3 (pv 3)) (pd_lc (own := [("tooth", 4)]) sc_all_deeds.nd (id_seq (pd_var 1 (pv 1))) (blkOk_by (own := [("tooth", 4)]) (N := n_all_deeds) (sc := defScope (top 67)) (by decide +kernel)) (fun _ _ _ _ _ => (gd_name 4 (pg_name (i := 4) sc_all_deeds.nd rfl (by first | exact Or.inl rfl | exact Or.inr rfl)))) (fun _ _ _ _ _ => tsd_nil) (fun _ _ _ _ _ => (pd_tup (pd_cons (pd_gS M.LIFT) (pd_cons (pd_var 4 (pv 4)) pd_nil)))) (by decide)))))))
abbrev n_door_at : List Str := ["house", "hall", "letter", "number", "door"]
def g_door_at : Es := (sqS (foS (enI (op2 ixD (vE 0) (cE (.int 3)))) (tpP (csP (nmP 3) (csP (nmP 4) nlP))) (ifS (cmp2 eqB (slE (vE 4) noO (soO (cE (.int 2)))) (tupE (consE (vE 1) (consE (vE 2) nilE)))) (rtS (vE 3)) skS)) (rtS (cE .none)))
def f_door_at : Fd := fnF 5 g_door_at
theorem sc_door_at : FnScope n_door_at ["house", "hall", "letter"] (defScope (top 68)) := ⟨rfl, rfl, rfl, by decide +kernel, rfl, by decide +kernel, by decide +kernel⟩
theorem ok_door_at (M : Mo mg) (D : Dn K mg "door_at" (top 68)) : FnAt P w K mg base 1 "door_at" ["house", "hall", "letter"] (spD K 3 f_door_at) := by
  obtain ⟨f, fd, F, hm⟩ := D.ex
  refine fn_data (N := n_door_at) (g := g_door_at) F hm (F.bindsN fun _ _ _ _ _ _ us hl => match us, hl with | [_, _, _], _ => rfl) sc_door_at (fun cdv A outer s H E hr => ?_)
  exact (ssd_cons (sd_for PassesOwn.never (id_enum M.b_enumerate (pd_ix (pd_var 0 (pv 0)) pd_int)) (gd_tup (gd_cons (gd_name 3 (pg_name (i := 3) sc_door_at.nd rfl (by first | exact Or.inl rfl | exact Or.inr rfl))) (gd_cons (gd_name 4 (pg_name (i := 4) sc_door_at.nd rfl (by first | exact Or.inl rfl | exact Or.inr rfl))) gd_nil)) (csP_len (csP_len nlP_len))) (ssd_one (sd_if (td_eq hr.units (pd_sl (pd_var 4 (pv 4)) od_none (od_some pd_int)) (pd_tup (pd_cons (pd_var 1 (pv 1)) (pd_cons (pd_var 2 (pv 2)) pd_nil)))) (ssd_one (sd_ret (pd_var 3 (pv 3)))) ssd_nil))) (ssd_one (sd_ret pd_non)))
abbrev n_smith_at : List Str := ["house", "hall", "smith"]
def g_smith_at : Es := (sqS (foS (seqI (op2 ixD (vE 0) (cE (.int 5)))) (nmP 2) (ifS (cmp2 eqB (op2 ixD (vE 2) (cE (.int 0))) (vE 1)) (rtS (vE 2)) skS)) (rtS (cE .none)))
def f_smith_at : Fd := fnF 3 g_smith_at
theorem sc_smith_at : FnScope n_smith_at ["house", "hall"] (defScope (top 69)) := ⟨rfl, rfl, rfl, by decide +kernel, rfl, by decide +kernel, by decide +kernel⟩
theorem ok_smith_at (M : Mo mg) (D : Dn K mg "smith_at" (top 69)) : FnAt P w K mg base 1 "smith_at" ["house", "hall"] (spD K 2 f_smith_at) := by
  obtain ⟨f, fd, F, hm⟩ := D.ex
  refine fn_data (N := n_smith_at) (g := g_smith_at) F hm (F.bindsN fun _ _ _ _ _ _ us hl => match us, hl with | [_, _], _ => rfl) sc_smith_at (fun cdv A outer s H E hr => ?_)
  exact (ssd_cons (sd_for PassesOwn.never (id_seq (pd_ix (pd_var 0 (pv 0)) pd_int)) (gd_name 2 (pg_name (i := 2) sc_smith_at.nd rfl (by first | exact Or.inl rfl | exact Or.inr rfl))) (ssd_one (sd_if (td_eq hr.units (pd_ix (pd_var 2 (pv 2)) pd_int) (pd_var 1 (pv 1))) (ssd_one (sd_ret (pd_var 2 (pv 2)))) ssd_nil))) (ssd_one (sd_ret pd_non)))
abbrev n_is_away : List Str := ["house", "hall", "deed"]
def g_is_away : Es := (sqS (ifS (cmp2 eqB (op2 ixD (vE 2) (cE (.int 0))) (cE (.str "go"))) (rtS (bE (isNE (callE f_door_at (consE (vE 0) (consE (vE 1) (consE (op2 ixD (vE 2) (cE (.int 1))) nilE))))))) skS) (rtS (ifE (cmp2 eqB (op2 ixD (vE 2) (cE (.int 0))) (cE (.str "file"))) (bE (cmp2 niB (vE 1) (op2 ixD (vE 0) (cE (.int 4))))) (bE (isNE (callE f_smith_at (consE (vE 0) (consE (vE 1) nilE))))))))
def f_is_away : Fd := fnF 3 g_is_away
theorem sc_is_away : FnScope n_is_away ["house", "hall", "deed"] (defScope (top 70)) := ⟨rfl, rfl, rfl, by decide +kernel, rfl, by decide +kernel, by decide +kernel⟩
theorem ok_is_away (M : Mo mg) (D : Dn K mg "is_away" (top 70)) (F_door_at : FnAt P w K mg base 1 "door_at" ["house", "hall", "letter"] (spD K 3 f_door_at)) (F_smith_at : FnAt P w K mg base 1 "smith_at" ["house", "hall"] (spD K 2 f_smith_at)) : FnAt P w K mg base 2 "is_away" ["house", "hall", "deed"] (spD K 3 f_is_away) := by
  obtain ⟨f, fd, F, hm⟩ := D.ex
  refine fn_data (N := n_is_away) (g := g_is_away) F hm (F.bindsN fun _ _ _ _ _ _ us hl => match us, hl with | [_, _, _], _ => rfl) sc_is_away (fun cdv A outer s H E hr => ?_)
  exact (ssd_cons (sd_if (td_eq hr.units (pd_ix (pd_var 2 (pv 2)) pd_int) (pd_gS M.GO)) (ssd_one (sd_ret (pd_isN (pd_fn (F_door_at.mono (by decide)) hr rfl (pd_cons (pd_var 0 (pv 0)) (pd_cons (pd_var 1 (pv 1)) (pd_cons (pd_ix (pd_var 2 (pv 2)) pd_int) pd_nil))) (consE_len (consE_len (consE_len nilE_len))))))) ssd_nil) (ssd_one (sd_ret (pd_if (td_eq hr.units (pd_ix (pd_var 2 (pv 2)) pd_int) (pd_gS M.FILE)) (pd_ni hr.units (pd_var 1 (pv 1)) (pd_ix (pd_var 0 (pv 0)) pd_int)) (pd_isN (pd_fn (F_smith_at.mono (by decide)) hr rfl (pd_cons (pd_var 0 (pv 0)) (pd_cons (pd_var 1 (pv 1)) pd_nil)) (consE_len (consE_len nilE_len))))))))
abbrev n_hall_behind : List Str := ["house", "hall", "deed"]
def g_hall_behind : Es := (rtS (ifE (cmp2 eqB (op2 ixD (vE 2) (cE (.int 0))) (cE (.str "go"))) (op2 ixD (op2 ixD (op2 ixD (vE 0) (cE (.int 3))) (callE f_door_at (consE (vE 0) (consE (vE 1) (consE (op2 ixD (vE 2) (cE (.int 1))) nilE))))) (cE (.int 2))) (vE 1)))
def f_hall_behind : Fd := fnF 3 g_hall_behind
theorem sc_hall_behind : FnScope n_hall_behind ["house", "hall", "deed"] (defScope (top 71)) := ⟨rfl, rfl, rfl, by decide +kernel, rfl, by decide +kernel, by decide +kernel⟩
theorem ok_hall_behind (M : Mo mg) (D : Dn K mg "hall_behind" (top 71)) (F_door_at : FnAt P w K mg base 1 "door_at" ["house", "hall", "letter"] (spD K 3 f_door_at)) : FnAt P w K mg base 2 "hall_behind" ["house", "hall", "deed"] (spD K 3 f_hall_behind) := by
  obtain ⟨f, fd, F, hm⟩ := D.ex
  refine fn_data (N := n_hall_behind) (g := g_hall_behind) F hm (F.bindsN fun _ _ _ _ _ _ us hl => match us, hl with | [_, _, _], _ => rfl) sc_hall_behind (fun cdv A outer s H E hr => ?_)
  exact (ssd_one (sd_ret (pd_if (td_eq hr.units (pd_ix (pd_var 2 (pv 2)) pd_int) (pd_gS M.GO)) (pd_ix (pd_ix (pd_ix (pd_var 0 (pv 0)) pd_int) (pd_fn (F_door_at.mono (by decide)) hr rfl (pd_cons (pd_var 0 (pv 0)) (pd_cons (pd_var 1 (pv 1)) (pd_cons (pd_ix (pd_var 2 (pv 2)) pd_int) pd_nil))) (consE_len (consE_len (consE_len nilE_len))))) pd_int) (pd_var 1 (pv 1)))))
abbrev n_wear_of : List Str := ["house", "deed", "tooth"]
def g_wear_of : Es := (sqS (ifS (cmp2 eqB (op2 ixD (vE 1) (cE (.int 0))) (cE (.str "go"))) (rtS (op2 ixD (op2 ixD (op2 ixD (vE 0) (cE (.int 2))) (op2 ixD (vE 1) (cE (.int 1)))) (vE 2))) skS) (rtS (ifE (cmp2 eqB (op2 ixD (vE 1) (cE (.int 0))) (cE (.str "file"))) (callE intF (consE (bE (cmp2 eqB (op2 ixD (vE 1) (cE (.int 1))) (vE 2))) nilE)) (op2 subD (cE (.int 0)) (callE intF (consE (bE (cmp2 eqB (op2 ixD (vE 1) (cE (.int 1))) (vE 2))) nilE))))))
def f_wear_of : Fd := fnF 3 g_wear_of
theorem sc_wear_of : FnScope n_wear_of ["house", "deed", "tooth"] (defScope (top 72)) := ⟨rfl, rfl, rfl, by decide +kernel, rfl, by decide +kernel, by decide +kernel⟩
theorem ok_wear_of (M : Mo mg) (D : Dn K mg "wear_of" (top 72)) : FnAt P w K mg base 1 "wear_of" ["house", "deed", "tooth"] (spD K 3 f_wear_of) := by
  obtain ⟨f, fd, F, hm⟩ := D.ex
  refine fn_data (N := n_wear_of) (g := g_wear_of) F hm (F.bindsN fun _ _ _ _ _ _ us hl => match us, hl with | [_, _, _], _ => rfl) sc_wear_of (fun cdv A outer s H E hr => ?_)
  exact (ssd_cons (sd_if (td_eq hr.units (pd_ix (pd_var 1 (pv 1)) pd_int) (pd_gS M.GO)) (ssd_one (sd_ret (pd_ix (pd_ix (pd_ix (pd_var 0 (pv 0)) pd_int) (pd_ix (pd_var 1 (pv 1)) pd_int)) (pd_var 2 (pv 2))))) ssd_nil) (ssd_one (sd_ret (pd_if (td_eq hr.units (pd_ix (pd_var 1 (pv 1)) pd_int) (pd_gS M.FILE)) (pd_int1 M.b_int (pd_cons (pd_eq hr.units (pd_ix (pd_var 1 (pv 1)) pd_int) (pd_var 2 (pv 2))) pd_nil)) (pd_sub pd_int (pd_int1 M.b_int (pd_cons (pd_eq hr.units (pd_ix (pd_var 1 (pv 1)) pd_int) (pd_var 2 (pv 2))) pd_nil)))))))
abbrev n_gap_of : List Str := ["house", "hall", "deed", "tooth"]
def g_gap_of : Es := (sqS (ifS (cmp2 eqB (op2 ixD (vE 2) (cE (.int 0))) (cE (.str "go"))) (rtS (op2 ixD (op2 ixD (op2 ixD (op2 ixD (vE 0) (cE (.int 3))) (callE f_door_at (consE (vE 0) (consE (vE 1) (consE (op2 ixD (vE 2) (cE (.int 1))) nilE))))) (cE (.int 3))) (vE 3))) skS) (sqS (ifS (cmp2 neB (op2 ixD (vE 2) (cE (.int 1))) (vE 3)) (rtS (tupE (consE (cE (.int 0)) (consE (cE (.int 6)) nilE)))) skS) (rtS (ifE (cmp2 eqB (op2 ixD (vE 2) (cE (.int 0))) (cE (.str "file"))) (tupE (consE (cE (.int 1)) (consE (cE (.int 6)) nilE))) (tupE (consE (cE (.int 0)) (consE (op2 subD (op2 ixD (callE f_smith_at (consE (vE 0) (consE (vE 1) nilE))) (cE (.int 1))) (cE (.int 1))) nilE)))))))
def f_gap_of : Fd := fnF 4 g_gap_of
theorem sc_gap_of : FnScope n_gap_of ["house", "hall", "deed", "tooth"] (defScope (top 73)) := ⟨rfl, rfl, rfl, by decide +kernel, rfl, by decide +kernel, by decide +kernel⟩
theorem ok_gap_of (M : Mo mg) (D : Dn K mg "gap_of" (top 73)) (F_door_at : FnAt P w K mg base 1 "door_at" ["house", "hall", "letter"] (spD K 3 f_door_at)) (F_smith_at : FnAt P w K mg base 1 "smith_at" ["house", "hall"] (spD K 2 f_smith_at)) : FnAt P w K mg base 2 "gap_of" ["house", "hall", "deed", "tooth"] (spD K 4 f_gap_of) := by
  obtain ⟨f, fd, F, hm⟩ := D.ex
  refine fn_data (N := n_gap_of) (g := g_gap_of) F hm (F.bindsN fun _ _ _ _ _ _ us hl => match us, hl with | [_, _, _, _], _ => rfl) sc_gap_of (fun cdv A outer s H E hr => ?_)
  exact (ssd_cons (sd_if (td_eq hr.units (pd_ix (pd_var 2 (pv 2)) pd_int) (pd_gS M.GO)) (ssd_one (sd_ret (pd_ix (pd_ix (pd_ix (pd_ix (pd_var 0 (pv 0)) pd_int) (pd_fn (F_door_at.mono (by decide)) hr rfl (pd_cons (pd_var 0 (pv 0)) (pd_cons (pd_var 1 (pv 1)) (pd_cons (pd_ix (pd_var 2 (pv 2)) pd_int) pd_nil))) (consE_len (consE_len (consE_len nilE_len))))) pd_int) (pd_var 3 (pv 3))))) ssd_nil) (ssd_cons (sd_if (td_ne hr.units (pd_ix (pd_var 2 (pv 2)) pd_int) (pd_var 3 (pv 3))) (ssd_one (sd_ret (pd_tup (pd_cons pd_int (pd_cons (pd_gI M.MOST_HEIGHT) pd_nil))))) ssd_nil) (ssd_one (sd_ret (pd_if (td_eq hr.units (pd_ix (pd_var 2 (pv 2)) pd_int) (pd_gS M.FILE)) (pd_tup (pd_cons pd_int (pd_cons (pd_gI M.MOST_HEIGHT) pd_nil))) (pd_tup (pd_cons pd_int (pd_cons (pd_sub (pd_ix (pd_fn (F_smith_at.mono (by decide)) hr rfl (pd_cons (pd_var 0 (pv 0)) (pd_cons (pd_var 1 (pv 1)) pd_nil)) (consE_len (consE_len nilE_len))) pd_int) pd_int) pd_nil))))))))
abbrev n_bar_of : List Str := ["house", "stand", "deed", "hall", "key", "tooth", "height", "low", "high"]
def g_bar_of : Es := (sqS (asS (tpP (csP (nmP 3) (csP (nmP 4) nlP))) (vE 1)) (sqS (ifS (tE (callE f_is_away (consE (vE 0) (consE (vE 3) (consE (vE 2) nilE))))) (rtS (tupE (consE (cE (.str "away")) (consE (cE .none) nilE)))) skS) (sqS (foS (enI (vE 4)) (tpP (csP (nmP 5) (csP (nmP 6) nlP))) (sqS (asS (tpP (csP (nmP 7) (csP (nmP 8) nlP))) (callE f_gap_of (consE (vE 0) (consE (vE 3) (consE (vE 2) (consE (vE 5) nilE)))))) (sqS (ifS (cmp2 ltB (vE 6) (vE 7)) (rtS (tupE (consE (cE (.str "low")) (consE (vE 5) nilE)))) skS) (ifS (cmp2 gtB (vE 6) (vE 8)) (rtS (tupE (consE (cE (.str "high")) (consE (vE 5) nilE)))) skS)))) (rtS (cE .none)))))
def f_bar_of : Fd := fnF 9 g_bar_of
theorem sc_bar_of : FnScope n_bar_of ["house", "stand", "deed"] (defScope (top 74)) := ⟨rfl, rfl, rfl, by decide +kernel, rfl, by decide +kernel, by decide +kernel⟩
theorem ok_bar_of (M : Mo mg) (D : Dn K mg "bar_of" (top 74)) (F_is_away : FnAt P w K mg base 2 "is_away" ["house", "hall", "deed"] (spD K 3 f_is_away)) (F_gap_of : FnAt P w K mg base 2 "gap_of" ["house", "hall", "deed", "tooth"] (spD K 4 f_gap_of)) : FnAt P w K mg base 3 "bar_of" ["house", "stand", "deed"] (spD K 3 f_bar_of) := by
  obtain ⟨f, fd, F, hm⟩ := D.ex
  refine fn_data (N := n_bar_of) (g := g_bar_of) F hm (F.bindsN fun _ _ _ _ _ _ us hl => match us, hl with | [_, _, _], _ => rfl) sc_bar_of (fun cdv A outer s H E hr => ?_)
  exact (ssd_cons (sd_asg (pd_var 1 (pv 1)) (gd_tup (gd_cons (gd_name 3 (pg_name (i := 3) sc_bar_of.nd rfl (by first | exact Or.inl rfl | exact Or.inr rfl))) (gd_cons (gd_name 4 (pg_name (i := 4) sc_bar_of.nd rfl (by first | exact Or.inl rfl | exact Or.inr rfl))) gd_nil)) (csP_len (csP_len nlP_len)))) (ssd_cons (sd_if (td_val (pd_fn (F_is_away.mono (by decide)) hr rfl (pd_cons (pd_var 0 (pv 0)) (pd_cons (pd_var 3 (pv 3)) (pd_cons (pd_var 2 (pv 2)) pd_nil))) (consE_len (consE_len (consE_len nilE_len))))) (ssd_one (sd_ret (pd_tup (pd_cons (pd_gS M.AWAY) (pd_cons pd_non pd_nil))))) ssd_nil) (ssd_cons (sd_for PassesOwn.never (id_enum M.b_enumerate (pd_var 4 (pv 4))) (gd_tup (gd_cons (gd_name 5 (pg_name (i := 5) sc_bar_of.nd rfl (by first | exact Or.inl rfl | exact Or.inr rfl))) (gd_cons (gd_name 6 (pg_name (i := 6) sc_bar_of.nd rfl (by first | exact Or.inl rfl | exact Or.inr rfl))) gd_nil)) (csP_len (csP_len nlP_len))) (ssd_cons (sd_asg (pd_fn (F_gap_of.mono (by decide)) hr rfl (pd_cons (pd_var 0 (pv 0)) (pd_cons (pd_var 3 (pv 3)) (pd_cons (pd_var 2 (pv 2)) (pd_cons (pd_var 5 (pv 5)) pd_nil)))) (consE_len (consE_len (consE_len (consE_len nilE_len))))) (gd_tup (gd_cons (gd_name 7 (pg_name (i := 7) sc_bar_of.nd rfl (by first | exact Or.inl rfl | exact Or.inr rfl))) (gd_cons (gd_name 8 (pg_name (i := 8) sc_bar_of.nd rfl (by first | exact Or.inl rfl | exact Or.inr rfl))) gd_nil)) (csP_len (csP_len nlP_len)))) (ssd_cons (sd_if (td_lt hr.units (pd_var 6 (pv 6)) (pd_var 7 (pv 7))) (ssd_one (sd_ret (pd_tup (pd_cons (pd_gS M.LOW) (pd_cons (pd_var 5 (pv 5)) pd_nil))))) ssd_nil) (ssd_one (sd_if (td_gt (pd_var 6 (pv 6)) (pd_var 8 (pv 8))) (ssd_one (sd_ret (pd_tup (pd_cons (pd_gS M.HIGH) (pd_cons (pd_var 5 (pv 5)) pd_nil))))) ssd_nil))))) (ssd_one (sd_ret pd_non)))))
abbrev n_done_by : List Str := ["house", "stand", "deed", "hall", "key", "later", "tooth", "height"]
def g_done_by : Es := (sqS (asS (tpP (csP (nmP 3) (csP (nmP 4) nlP))) (vE 1)) (sqS (stS 5 (callE tupleF (consE (lcE (enI (vE 4)) (tpP (csP (nmP 6) (csP (nmP 7) nlP))) yesB (callE maxF (consE (cE (.int 0)) (consE (op2 subD (vE 7) (callE f_wear_of (consE (vE 0) (consE (vE 2) (consE (vE 6) nilE))))) nilE))) [6, 7]) nilE))) (rtS (tupE (consE (callE f_hall_behind (consE (vE 0) (consE (vE 3) (consE (vE 2) nilE)))) (consE (vE 5) nilE))))))
def f_done_by : Fd := fnF 8 g_done_by
theorem sc_done_by : FnScope n_done_by ["house", "stand", "deed"] (defScope (top 75)) := ⟨rfl, rfl, rfl, by decide +kernel, rfl, by decide +kernel, by decide +kernel⟩
theorem ok_done_by (M : Mo mg) (D : Dn K mg "done_by" (top 75)) (F_wear_of : FnAt P w K mg base 1 "wear_of" ["house", "deed", "tooth"] (spD K 3 f_wear_of)) (F_hall_behind : FnAt P w K mg base 2 "hall_behind" ["house", "hall", "deed"] (spD K 3 f_hall_behind)) : FnAt P w K mg base 3 "done_by" ["house", "stand", "deed"] (spD K 3 f_done_by) := by
  obtain ⟨f, fd, F, hm⟩ := D.ex
  refine fn_data (N := n_done_by) (g := g_done_by) F hm (F.bindsN fun _ _ _ _ _ _ us hl => match us, hl with | [_, _, _], _ => rfl) sc_done_by (fun cdv A outer s H E hr => ?_)
  exact (ssd_cons (sd_asg (pd_var 1 (pv 1)) (gd_tup (gd_cons (gd_name 3 (pg_name (i := 3) sc_done_by.nd rfl (by first | exact Or.inl rfl | exact Or.inr rfl))) (gd_cons (gd_name 4 (pg_name (i := 4) sc_done_by.nd rfl (by first | exact Or.inl rfl | exact Or.inr rfl))) gd_nil)) (csP_len (csP_len nlP_len)))) (ssd_cons (sd_set 5 sc_done_by.nd (pd_tuple M.b_tuple (pd_cons (pd_lc (own := [("tooth", 6), ("height", 7)]) sc_done_by.nd (id_enum M.b_enumerate (pd_var 4 (pv 4))) (blkOk_by (own := [("tooth", 6), ("height", 7)]) (N := n_done_by) (sc := defScope (top 75)) (by decide +kernel)) (fun _ _ _ _ _ => (gd_tup (gd_cons (gd_name 6 (pg_name (i := 6) sc_done_by.nd rfl (by first | exact Or.inl rfl | exact Or.inr rfl))) (gd_cons (gd_name 7 (pg_name (i := 7) sc_done_by.nd rfl (by first | exact Or.inl rfl | exact Or.inr rfl))) gd_nil)) (csP_len (csP_len nlP_len)))) (fun _ _ _ _ _ => tsd_nil) (fun _ _ _ _ _ => (pd_max M.b_max (pd_cons pd_int (pd_cons (pd_sub (pd_var 7 (pv 7)) (pd_fn (F_wear_of.mono (by decide)) hr rfl (pd_cons (pd_var 0 (pv 0)) (pd_cons (pd_var 2 (pv 2)) (pd_cons (pd_var 6 (pv 6)) pd_nil))) (consE_len (consE_len (consE_len nilE_len))))) pd_nil)))) (by decide)) pd_nil))) (ssd_one (sd_ret (pd_tup (pd_cons (pd_fn (F_hall_behind.mono (by decide)) hr rfl (pd_cons (pd_var 0 (pv 0)) (pd_cons (pd_var 3 (pv 3)) (pd_cons (pd_var 2 (pv 2)) pd_nil))) (consE_len (consE_len (consE_len nilE_len)))) (pd_cons (pd_var 5 (pv 5)) pd_nil)))))))
abbrev n_need_row : List Str := ["house", "thing", "deed"]
def g_need_row : Es := (ifS (orB (notB (tE (bE (isE .tuple (vE 1))))) (notB (tE (callE allF (consE (lcE (seqI (vE 1)) (nmP 2) yesB (callE f_is_deed (consE (vE 0) (consE (vE 2) nilE))) [2]) nilE))))) noS skS)
def f_need_row : Fd := fnF 3 g_need_row
theorem sc_need_row : FnScope n_need_row ["house", "thing"] (defScope (top 77)) := ⟨rfl, rfl, rfl, by decide +kernel, rfl, by decide +kernel, by decide +kernel⟩
theorem ok_need_row (M : Mo mg) (D : Dn K mg "need_row" (top 77)) (F_is_deed : FnAt P w K mg base 3 "is_deed" ["house", "thing"] (spD K 2 f_is_deed)) : FnAt P w K mg base 4 "need_row" ["house", "thing"] (spD K 2 f_need_row) := by
  obtain ⟨f, fd, F, hm⟩ := D.ex
  refine fn_data (N := n_need_row) (g := g_need_row) F hm (F.bindsN fun _ _ _ _ _ _ us hl => match us, hl with | [_, _], _ => rfl) sc_need_row (fun cdv A outer s H E hr => ?_)
  exact (ssd_one (sd_if (PW.pt (wd_or (td_not (td_val (pd_isi .tuple M.b_isinstance M.b_tuple bb_tuple (pd_var 1 (pv 1))))) (wd_or1 (td_not (td_val (pd_all M.b_all (pd_cons (pd_lc (own := [("deed", 2)]) sc_need_row.nd (id_seq (pd_var 1 (pv 1))) (blkOk_by (own := [("deed", 2)]) (N := n_need_row) (sc := defScope (top 77)) (by decide +kernel)) (fun _ _ _ _ _ => (gd_name 2 (pg_name (i := 2) sc_need_row.nd rfl (by first | exact Or.inl rfl | exact Or.inr rfl)))) (fun _ _ _ _ _ => tsd_nil) (fun _ _ _ _ _ => (pd_fn (F_is_deed.mono (by decide)) hr rfl (pd_cons (pd_var 0 (pv 0)) (pd_cons (pd_var 2 (pv 2)) pd_nil)) (consE_len (consE_len nilE_len)))) (by decide)) pd_nil))))))) ssd_no ssd_nil))
abbrev n_bar_at : List Str := ["house", "stand", "row", "place", "deed", "bar"]
def g_bar_at : Es := (sqS (foS (enI (vE 2)) (tpP (csP (nmP 3) (csP (nmP 4) nlP))) (sqS (stS 5 (callE f_bar_of (consE (vE 0) (consE (vE 1) (consE (vE 4) nilE))))) (sqS (ifS (notNE (vE 5)) (rtS (op2 addD (tupE (consE (vE 3) nilE)) (vE 5))) skS) (stS 1 (callE f_done_by (consE (vE 0) (consE (vE 1) (consE (vE 4) nilE)))))))) (rtS (cE .none)))
def f_bar_at : Fd := fnF 6 g_bar_at
theorem sc_bar_at : FnScope n_bar_at ["house", "stand", "row"] (defScope (top 78)) := ⟨rfl, rfl, rfl, by decide +kernel, rfl, by decide +kernel, by decide +kernel⟩
theorem ok_bar_at (M : Mo mg) (D : Dn K mg "bar_at" (top 78)) (F_bar_of : FnAt P w K mg base 3 "bar_of" ["house", "stand", "deed"] (spD K 3 f_bar_of)) (F_done_by : FnAt P w K mg base 3 "done_by" ["house", "stand", "deed"] (spD K 3 f_done_by)) : FnAt P w K mg base 4 "bar_at" ["house", "stand", "row"] (spD K 3 f_bar_at) := by
  obtain ⟨f, fd, F, hm⟩ := D.ex
  refine fn_data (N := n_bar_at) (g := g_bar_at) F hm (F.bindsN fun _ _ _ _ _ _ us hl => match us, hl with | [_, _, _], _ => rfl) sc_bar_at (fun cdv A outer s H E hr => ?_)
  exact (ssd_cons (sd_for PassesOwn.never (id_enum M.b_enumerate (pd_var 2 (pv 2))) (gd_tup (gd_cons (gd_name 3 (pg_name (i := 3) sc_bar_at.nd rfl (by first | exact Or.inl rfl | exact Or.inr rfl))) (gd_cons (gd_name 4 (pg_name (i := 4) sc_bar_at.nd rfl (by first | exact Or.inl rfl | exact Or.inr rfl))) gd_nil)) (csP_len (csP_len nlP_len))) (ssd_cons (sd_set 5 sc_bar_at.nd (pd_fn (F_bar_of.mono (by decide)) hr rfl (pd_cons (pd_var 0 (pv 0)) (pd_cons (pd_var 1 (pv 1)) (pd_cons (pd_var 4 (pv 4)) pd_nil))) (consE_len (consE_len (consE_len nilE_len))))) (ssd_cons (sd_if (td_notN (pd_var 5 (pv 5))) (ssd_one (sd_ret (pd_add (pd_tup (pd_cons (pd_var 3 (pv 3)) pd_nil)) (pd_var 5 (pv 5))))) ssd_nil) (ssd_one (sd_set 1 sc_bar_at.nd (pd_fn (F_done_by.mono (by decide)) hr rfl (pd_cons (pd_var 0 (pv 0)) (pd_cons (pd_var 1 (pv 1)) (pd_cons (pd_var 4 (pv 4)) pd_nil))) (consE_len (consE_len (consE_len nilE_len))))))))) (ssd_one (sd_ret pd_non)))
abbrev n_behind_by : List Str := ["house", "stand", "row", "deed"]
def g_behind_by : Es := (sqS (foS (seqI (vE 2)) (nmP 3) (stS 1 (callE f_done_by (consE (vE 0) (consE (vE 1) (consE (vE 3) nilE)))))) (rtS (vE 1)))
def f_behind_by : Fd := fnF 4 g_behind_by
theorem sc_behind_by : FnScope n_behind_by ["house", "stand", "row"] (defScope (top 79)) := ⟨rfl, rfl, rfl, by decide +kernel, rfl, by decide +kernel, by decide +kernel⟩
theorem ok_behind_by (M : Mo mg) (D : Dn K mg "behind_by" (top 79)) (F_done_by : FnAt P w K mg base 3 "done_by" ["house", "stand", "deed"] (spD K 3 f_done_by)) : FnAt P w K mg base 4 "behind_by" ["house", "stand", "row"] (spD K 3 f_behind_by) := by
  obtain ⟨f, fd, F, hm⟩ := D.ex
  refine fn_data (N := n_behind_by) (g := g_behind_by) F hm (F.bindsN fun _ _ _ _ _ _ us hl => match us, hl with | [_, _, _], _ => rfl) sc_behind_by (fun cdv A outer s H E hr => ?_)
  exact (ssd_cons (sd_for PassesOwn.never (id_seq (pd_var 2 (pv 2))) (gd_name 3 (pg_name (i := 3) sc_behind_by.nd rfl (by first | exact Or.inl rfl | exact Or.inr rfl))) (ssd_one (sd_set 1 sc_behind_by.nd (pd_fn (F_done_by.mono (by decide)) hr rfl (pd_cons (pd_var 0 (pv 0)) (pd_cons (pd_var 1 (pv 1)) (pd_cons (pd_var 3 (pv 3)) pd_nil))) (consE_len (consE_len (consE_len nilE_len))))))) (ssd_one (sd_ret (pd_var 1 (pv 1)))))
abbrev n_coins_by : List Str := ["house", "hall", "row", "found", "deed"]
def g_coins_by : Es := (sqS (stS 3 (cE (.int 0))) (sqS (foS (seqI (vE 2)) (nmP 4) (sqS (auS 3 (ifE (cmp2 eqB (op2 ixD (vE 4) (cE (.int 0))) (cE (.str "lift"))) (op2 ixD (callE f_smith_at (consE (vE 0) (consE (vE 1) nilE))) (cE (.int 2))) (cE (.int 0)))) (stS 1 (callE f_hall_behind (consE (vE 0) (consE (vE 1) (consE (vE 4) nilE))))))) (rtS (vE 3))))
def f_coins_by : Fd := fnF 5 g_coins_by
theorem sc_coins_by : FnScope n_coins_by ["house", "hall", "row"] (defScope (top 80)) := ⟨rfl, rfl, rfl, by decide +kernel, rfl, by decide +kernel, by decide +kernel⟩
theorem ok_coins_by (M : Mo mg) (D : Dn K mg "coins_by" (top 80)) (F_smith_at : FnAt P w K mg base 1 "smith_at" ["house", "hall"] (spD K 2 f_smith_at)) (F_hall_behind : FnAt P w K mg base 2 "hall_behind" ["house", "hall", "deed"] (spD K 3 f_hall_behind)) : FnAt P w K mg base 3 "coins_by" ["house", "hall", "row"] (spD K 3 f_coins_by) := by
  obtain ⟨f, fd, F, hm⟩ := D.ex
  refine fn_data (N := n_coins_by) (g := g_coins_by) F hm (F.bindsN fun _ _ _ _ _ _ us hl => match us, hl with | [_, _, _], _ => rfl) sc_coins_by (fun cdv A outer s H E hr => ?_)
  exact (ssd_cons (sd_set 3 sc_coins_by.nd pd_int) (ssd_cons (sd_for PassesOwn.never (id_seq (pd_var 2 (pv 2))) (gd_name 4 (pg_name (i := 4) sc_coins_by.nd rfl (by first | exact Or.inl rfl | exact Or.inr rfl))) (ssd_cons (sd_aug 3 sc_coins_by.nd (pd_if (td_eq hr.units (pd_ix (pd_var 4 (pv 4)) pd_int) (pd_gS M.LIFT)) (pd_ix (pd_fn (F_smith_at.mono (by decide)) hr rfl (pd_cons (pd_var 0 (pv 0)) (pd_cons (pd_var 1 (pv 1)) pd_nil)) (consE_len (consE_len nilE_len))) pd_int) pd_int)) (ssd_one (sd_set 1 sc_coins_by.nd (pd_fn (F_hall_behind.mono (by decide)) hr rfl (pd_cons (pd_var 0 (pv 0)) (pd_cons (pd_var 1 (pv 1)) (pd_cons (pd_var 4 (pv 4)) pd_nil))) (consE_len (consE_len (consE_len nilE_len)))))))) (ssd_one (sd_ret (pd_var 3 (pv 3))))))
abbrev n_is_goal : List Str := ["house", "thing"]
def g_is_goal : Es := (rtS (andE (callE f_are_some (consE (vE 1) (consE (cE (.int 2)) (consE (cE (.int 2)) nilE)))) (andE (callE f_is_hall (consE (vE 0) (consE (op2 ixD (vE 1) (cE (.int 0))) nilE))) (callE f_is_box_by (consE (op2 ixD (vE 0) (cE (.int 0))) (consE (op2 ixD (vE 1) (cE (.int 1))) nilE))))))
def f_is_goal : Fd := fnF 2 g_is_goal
theorem sc_is_goal : FnScope n_is_goal ["house", "thing"] (defScope (top 84)) := ⟨rfl, rfl, rfl, by decide +kernel, rfl, by decide +kernel, by decide +kernel⟩
theorem ok_is_goal (M : Mo mg) (D : Dn K mg "is_goal" (top 84)) (F_are_some : FnAt P w K mg base 1 "are_some" ["thing", "low", "high"] (spD K 3 f_are_some)) (F_is_hall : FnAt P w K mg base 3 "is_hall" ["house", "thing"] (spD K 2 f_is_hall)) (F_is_box_by : FnAt P w K mg base 5 "is_box_by" ["teeth", "thing"] (spD K 2 f_is_box_by)) : FnAt P w K mg base 6 "is_goal" ["house", "thing"] (spD K 2 f_is_goal) := by
  obtain ⟨f, fd, F, hm⟩ := D.ex
  refine fn_data (N := n_is_goal) (g := g_is_goal) F hm (F.bindsN fun _ _ _ _ _ _ us hl => match us, hl with | [_, _], _ => rfl) sc_is_goal (fun cdv A outer s H E hr => ?_)
  exact (ssd_one (sd_ret (pd_and (pd_fn (F_are_some.mono (by decide)) hr rfl (pd_cons (pd_var 1 (pv 1)) (pd_cons pd_int (pd_cons pd_int pd_nil))) (consE_len (consE_len (consE_len nilE_len)))) (pd_and (pd_fn (F_is_hall.mono (by decide)) hr rfl (pd_cons (pd_var 0 (pv 0)) (pd_cons (pd_ix (pd_var 1 (pv 1)) pd_int) pd_nil)) (consE_len (consE_len nilE_len))) (pd_one (pd_fn (F_is_box_by.mono (by decide)) hr rfl (pd_cons (pd_ix (pd_var 0 (pv 0)) pd_int) (pd_cons (pd_ix (pd_var 1 (pv 1)) pd_int) pd_nil)) (consE_len (consE_len nilE_len))))))))
abbrev n_need_goal : List Str := ["house", "thing"]
def g_need_goal : Es := (ifS (notB (tE (callE f_is_goal (consE (vE 0) (consE (vE 1) nilE))))) noS skS)
def f_need_goal : Fd := fnF 2 g_need_goal
theorem sc_need_goal : FnScope n_need_goal ["house", "thing"] (defScope (top 85)) := ⟨rfl, rfl, rfl, by decide +kernel, rfl, by decide +kernel, by decide +kernel⟩
theorem ok_need_goal (M : Mo mg) (D : Dn K mg "need_goal" (top 85)) (F_is_goal : FnAt P w K mg base 6 "is_goal" ["house", "thing"] (spD K 2 f_is_goal)) : FnAt P w K mg base 7 "need_goal" ["house", "thing"] (spD K 2 f_need_goal) := by
  obtain ⟨f, fd, F, hm⟩ := D.ex
  refine fn_data (N := n_need_goal) (g := g_need_goal) F hm (F.bindsN fun _ _ _ _ _ _ us hl => match us, hl with | [_, _], _ => rfl) sc_need_goal (fun cdv A outer s H E hr => ?_)
  exact (ssd_one (sd_if (td_not (td_val (pd_fn (F_is_goal.mono (by decide)) hr rfl (pd_cons (pd_var 0 (pv 0)) (pd_cons (pd_var 1 (pv 1)) pd_nil)) (consE_len (consE_len nilE_len))))) ssd_no ssd_nil))
abbrev n_need_wish : List Str := ["house", "stand", "goal"]
def g_need_wish : Es := (sqS (drS (callE f_need_stand (consE (vE 0) (consE (vE 1) nilE)))) (drS (callE f_need_goal (consE (vE 0) (consE (vE 2) nilE)))))
def f_need_wish : Fd := fnF 3 g_need_wish
theorem sc_need_wish : FnScope n_need_wish ["house", "stand", "goal"] (defScope (top 86)) := ⟨rfl, rfl, rfl, by decide +kernel, rfl, by decide +kernel, by decide +kernel⟩
theorem ok_need_wish (M : Mo mg) (D : Dn K mg "need_wish" (top 86)) (F_need_stand : FnAt P w K mg base 10 "need_stand" ["house", "thing"] (spD K 2 f_need_stand)) (F_need_goal : FnAt P w K mg base 7 "need_goal" ["house", "thing"] (spD K 2 f_need_goal)) : FnAt P w K mg base 11 "need_wish" ["house", "stand", "goal"] (spD K 3 f_need_wish) := by
  obtain ⟨f, fd, F, hm⟩ := D.ex
  refine fn_data (N := n_need_wish) (g := g_need_wish) F hm (F.bindsN fun _ _ _ _ _ _ us hl => match us, hl with | [_, _, _], _ => rfl) sc_need_wish (fun cdv A outer s H E hr => ?_)
  exact (ssd_cons (sd_drop (pd_fn (F_need_stand.mono (by decide)) hr rfl (pd_cons (pd_var 0 (pv 0)) (pd_cons (pd_var 1 (pv 1)) pd_nil)) (consE_len (consE_len nilE_len)))) (ssd_one (sd_drop (pd_fn (F_need_goal.mono (by decide)) hr rfl (pd_cons (pd_var 0 (pv 0)) (pd_cons (pd_var 2 (pv 2)) pd_nil)) (consE_len (consE_len nilE_len))))))
abbrev n_is_there : List Str := ["goal", "stand"]
def g_is_there : Es := (rtS (andE (bE (cmp2 eqB (op2 ixD (vE 1) (cE (.int 0))) (op2 ixD (vE 0) (cE (.int 0))))) (callE f_has_key (consE (op2 ixD (vE 0) (cE (.int 1))) (consE (op2 ixD (vE 1) (cE (.int 1))) nilE)))))
def f_is_there : Fd := fnF 2 g_is_there
theorem sc_is_there : FnScope n_is_there ["goal", "stand"] (defScope (top 87)) := ⟨rfl, rfl, rfl, by decide +kernel, rfl, by decide +kernel, by decide +kernel⟩
theorem ok_is_there (M : Mo mg) (D : Dn K mg "is_there" (top 87)) (F_has_key : FnAt P w K mg base 1 "has_key" ["box", "key"] (spD K 2 f_has_key)) : FnAt P w K mg base 2 "is_there" ["goal", "stand"] (spD K 2 f_is_there) := by
  obtain ⟨f, fd, F, hm⟩ := D.ex
  refine fn_data (N := n_is_there) (g := g_is_there) F hm (F.bindsN fun _ _ _ _ _ _ us hl => match us, hl with | [_, _], _ => rfl) sc_is_there (fun cdv A outer s H E hr => ?_)
  exact (ssd_one (sd_ret (pd_and (pd_eq hr.units (pd_ix (pd_var 1 (pv 1)) pd_int) (pd_ix (pd_var 0 (pv 0)) pd_int)) (pd_one (pd_fn (F_has_key.mono (by decide)) hr rfl (pd_cons (pd_ix (pd_var 0 (pv 0)) pd_int) (pd_cons (pd_ix (pd_var 1 (pv 1)) pd_int) pd_nil)) (consE_len (consE_len nilE_len)))))))
abbrev n_next_ones : List Str := ["house", "stand", "deeds", "deed"]
def g_next_ones : Es := (sqS (stS 2 (lcE (seqI (callE f_all_deeds (consE (vE 0) nilE))) (nmP 3) (isNE (callE f_bar_of (consE (vE 0) (consE (vE 1) (consE (vE 3) nilE))))) (vE 3) [3])) (rtS (lcE (seqI (vE 2)) (nmP 3) yesB (tupE (consE (vE 3) (consE (callE f_done_by (consE (vE 0) (consE (vE 1) (consE (vE 3) nilE)))) nilE))) [3])))
def f_next_ones : Fd := fnF 4 g_next_ones
theorem sc_next_ones : FnScope n_next_ones ["house", "stand"] (defScope (top 88)) := ⟨rfl, rfl, rfl, by decide +kernel, rfl, by decide +kernel, by decide +kernel⟩
theorem ok_next_ones (M : Mo mg) (D : Dn K mg "next_ones" (top 88)) (F_all_deeds : FnAt P w K mg base 1 "all_deeds" ["house"] (spD K 1 f_all_deeds)) (F_bar_of : FnAt P w K mg base 3 "bar_of" ["house", "stand", "deed"] (spD K 3 f_bar_of)) (F_done_by : FnAt P w K mg base 3 "done_by" ["house", "stand", "deed"] (spD K 3 f_done_by)) : FnAt P w K mg base 4 "next_ones" ["house", "stand"] (spD K 2 f_next_ones) := by
  obtain ⟨f, fd, F, hm⟩ := D.ex
  refine fn_data (N := n_next_ones) (g := g_next_ones) F hm (F.bindsN fun _ _ _ _ _ _ us hl => match us, hl with | [_, _], _ => rfl) sc_next_ones (fun cdv A outer s H E hr => ?_)
  exact (ssd_cons (sd_setLc 2 (own := [("deed", 3)]) sc_next_ones.nd (sw_true rfl rfl rfl (by decide +kernel)) (id_seq (pd_fn (F_all_deeds.mono (by decide)) hr rfl (pd_cons (pd_var 0 (pv 0)) pd_nil) (consE_len nilE_len))) (blkOk_by (own := [("deed", 3)]) (N := n_next_ones) (sc := defScope (top 88)) (by decide +kernel)) (fun _ _ _ _ _ => (gd_name 3 (pg_name (i := 3) sc_next_ones.nd rfl (by first | exact Or.inl rfl | exact Or.inr rfl)))) (fun _ _ _ _ _ => (tsd_one (td_isN (pd_fn (F_bar_of.mono (by decide)) hr rfl (pd_cons (pd_var 0 (pv 0)) (pd_cons (pd_var 1 (pv 1)) (pd_cons (pd_var 3 (pv 3)) pd_nil))) (consE_len (consE_len (consE_len nilE_len))))))) (fun _ _ _ _ _ => (pd_var 3 (pv 3))) (by decide)) (ssd_one (sd_ret (pd_lc (own := [("deed", 3)]) sc_next_ones.nd (id_seq (pd_var 2 (pv 2))) (blkOk_by (own := [("deed", 3)]) (N := n_next_ones) (sc := defScope (top 88)) (by decide +kernel)) (fun _ _ _ _ _ => (gd_name 3 (pg_name (i := 3) sc_next_ones.nd rfl (by first | exact Or.inl rfl | exact Or.inr rfl)))) (fun _ _ _ _ _ => tsd_nil) (fun _ _ _ _ _ => (pd_tup (pd_cons (pd_var 3 (pv 3)) (pd_cons (pd_fn (F_done_by.mono (by decide)) hr rfl (pd_cons (pd_var 0 (pv 0)) (pd_cons (pd_var 1 (pv 1)) (pd_cons (pd_var 3 (pv 3)) pd_nil))) (consE_len (consE_len (consE_len nilE_len)))) pd_nil)))) (by decide)))))
abbrev n_price_of : List Str := ["house", "hall", "deed"]
def g_price_of : Es := (rtS (ifE (cmp2 eqB (op2 ixD (vE 2) (cE (.int 0))) (cE (.str "lift"))) (op2 ixD (callE f_smith_at (consE (vE 0) (consE (vE 1) nilE))) (cE (.int 2))) (cE (.int 0))))
def f_price_of : Fd := fnF 3 g_price_of
theorem sc_price_of : FnScope n_price_of ["house", "hall", "deed"] (defScope (top 94)) := ⟨rfl, rfl, rfl, by decide +kernel, rfl, by decide +kernel, by decide +kernel⟩
theorem ok_price_of (M : Mo mg) (D : Dn K mg "price_of" (top 94)) (F_smith_at : FnAt P w K mg base 1 "smith_at" ["house", "hall"] (spD K 2 f_smith_at)) : FnAt P w K mg base 2 "price_of" ["house", "hall", "deed"] (spD K 3 f_price_of) := by
  obtain ⟨f, fd, F, hm⟩ := D.ex
  refine fn_data (N := n_price_of) (g := g_price_of) F hm (F.bindsN fun _ _ _ _ _ _ us hl => match us, hl with | [_, _, _], _ => rfl) sc_price_of (fun cdv A outer s H E hr => ?_)
  exact (ssd_one (sd_ret (pd_if (td_eq hr.units (pd_ix (pd_var 2 (pv 2)) pd_int) (pd_gS M.LIFT)) (pd_ix (pd_fn (F_smith_at.mono (by decide)) hr rfl (pd_cons (pd_var 0 (pv 0)) (pd_cons (pd_var 1 (pv 1)) pd_nil)) (consE_len (consE_len nilE_len))) pd_int) pd_int)))
abbrev n_law_deeds : List Str := ["_law_house_here", "_law_teeth", "_law_found", "_law_tooth", "_law_letter"]
def g_law_deeds : Es := (sqS (stS 1 (lrE (op2 ixD (vE 0) (cE (.int 0))))) (sqS (stS 2 (op2 addD (lcE (seqI (vE 1)) (nmP 3) yesB (tupE (consE (cE (.str "file")) (consE (vE 3) nilE))) [3]) (lcE (rgI (callE lenF (consE (op2 ixD (vE 0) (cE (.int 2))) nilE))) (nmP 4) yesB (tupE (consE (cE (.str "go")) (consE (vE 4) nilE))) [4]))) (rtS (op2 addD (vE 2) (lcE (seqI (vE 1)) (nmP 3) yesB (tupE (consE (cE (.str "lift")) (consE (vE 3) nilE))) [3])))))
def f_law_deeds : Fd := fnF 5 g_law_deeds
theorem sc_law_deeds : FnScope n_law_deeds ["_law_house_here"] (defScope (top 110)) := ⟨rfl, rfl, rfl, by decide +kernel, rfl, by decide +kernel, by decide +kernel⟩
theorem ok_law_deeds (M : Mo mg) (D : Dn K mg "_law_deeds" (top 110)) : FnAt P w K mg base 1 "_law_deeds" ["_law_house_here"] (spD K 1 f_law_deeds) := by
  obtain ⟨f, fd, F, hm⟩ := D.ex
  refine fn_data (N := n_law_deeds) (g := g_law_deeds) F hm (F.bindsN fun _ _ _ _ _ _ us hl => match us, hl with | [_], _ => rfl) sc_law_deeds (fun cdv A outer s H E hr => ?_)
  exact (ssd_cons (sd_set 1 sc_law_deeds.nd (pd_lr M.b_list M.b_range (pd_ix (pd_var 0 (pv 0)) pd_int))) (ssd_cons (sd_set 2 sc_law_deeds.nd (pd_add (pd_lc (own := [("_law_tooth", 3)]) sc_law_deeds.nd (id_seq (pd_var 1 (pv 1))) (blkOk_by (own := [("_law_tooth", 3)]) (N := n_law_deeds) (sc := defScope (top 110)) (by decide +kernel)) (fun _ _ _ _ _ => (gd_name 3 (pg_name (i := 3) sc_law_deeds.nd rfl (by first | exact Or.inl rfl | exact Or.inr rfl)))) (fun _ _ _ _ _ => tsd_nil) (fun _ _ _ _ _ => (pd_tup (pd_cons pd_str (pd_cons (pd_var 3 (pv 3)) pd_nil)))) (by decide)) (pd_lc (own := [("_law_letter", 4)]) sc_law_deeds.nd (id_range M.b_range (pd_len M.b_len (pd_cons (pd_ix (pd_var 0 (pv 0)) pd_int) pd_nil))) (blkOk_by (own := [("_law_letter", 4)]) (N := n_law_deeds) (sc := defScope (top 110)) (by decide +kernel)) (fun _ _ _ _ _ => (gd_name 4 (pg_name (i := 4) sc_law_deeds.nd rfl (by first | exact Or.inl rfl | exact Or.inr rfl)))) (fun _ _ _ _ _ => tsd_nil) (fun _ _ _ _ _ => (pd_tup (pd_cons pd_str (pd_cons (pd_var 4 (pv 4)) pd_nil)))) (by decide)))) (ssd_one (sd_ret (pd_add (pd_var 2 (pv 2)) (pd_lc (own := [("_law_tooth", 3)]) sc_law_deeds.nd (id_seq (pd_var 1 (pv 1))) (blkOk_by (own := [("_law_tooth", 3)]) (N := n_law_deeds) (sc := defScope (top 110)) (by decide +kernel)) (fun _ _ _ _ _ => (gd_name 3 (pg_name (i := 3) sc_law_deeds.nd rfl (by first | exact Or.inl rfl | exact Or.inr rfl)))) (fun _ _ _ _ _ => tsd_nil) (fun _ _ _ _ _ => (pd_tup (pd_cons pd_str (pd_cons (pd_var 3 (pv 3)) pd_nil)))) (by decide)))))))
abbrev n_law_door : List Str := ["_law_house_here", "_law_hall", "_law_letter", "_law_some", "_law_door_here"]
def g_law_door : Es := (sqS (stS 3 (lcE (seqI (op2 ixD (vE 0) (cE (.int 3)))) (nmP 4) (andB (cmp2 eqB (op2 ixD (vE 4) (cE (.int 0))) (vE 1)) (cmp2 eqB (op2 ixD (vE 4) (cE (.int 1))) (vE 2))) (vE 4) [4])) (rtS (ifE (cmp2 neB (vE 3) (lstE nilE)) (op2 ixD (vE 3) (cE (.int 0))) (cE .none))))
def f_law_door : Fd := fnF 5 g_law_door
theorem sc_law_door : FnScope n_law_door ["_law_house_here", "_law_hall", "_law_letter"] (defScope (top 111)) := ⟨rfl, rfl, rfl, by decide +kernel, rfl, by decide +kernel, by decide +kernel⟩
theorem ok_law_door (M : Mo mg) (D : Dn K mg "_law_door" (top 111)) : FnAt P w K mg base 1 "_law_door" ["_law_house_here", "_law_hall", "_law_letter"] (spD K 3 f_law_door) := by
  obtain ⟨f, fd, F, hm⟩ := D.ex
  refine fn_data (N := n_law_door) (g := g_law_door) F hm (F.bindsN fun _ _ _ _ _ _ us hl => match us, hl with | [_, _, _], _ => rfl) sc_law_door (fun cdv A outer s H E hr => ?_)
  exact (ssd_cons (sd_setLc 3 (own := [("_law_door_here", 4)]) sc_law_door.nd (sw_true rfl rfl rfl (by decide +kernel)) (id_seq (pd_ix (pd_var 0 (pv 0)) pd_int)) (blkOk_by (own := [("_law_door_here", 4)]) (N := n_law_door) (sc := defScope (top 111)) (by decide +kernel)) (fun _ _ _ _ _ => (gd_name 4 (pg_name (i := 4) sc_law_door.nd rfl (by first | exact Or.inl rfl | exact Or.inr rfl)))) (fun _ _ _ _ _ => (tsd_one (PW.pt (wd_and (td_eq hr.units (pd_ix (pd_var 4 (pv 4)) pd_int) (pd_var 1 (pv 1))) (wd_and1 (td_eq hr.units (pd_ix (pd_var 4 (pv 4)) pd_int) (pd_var 2 (pv 2)))))))) (fun _ _ _ _ _ => (pd_var 4 (pv 4))) (by decide)) (ssd_one (sd_ret (pd_if (td_ne hr.units (pd_var 3 (pv 3)) (pd_lst pd_nil)) (pd_ix (pd_var 3 (pv 3)) pd_int) pd_non))))
abbrev n_law_behind : List Str := ["_law_house_here", "_law_stand_here", "_law_deed", "_law_hall", "_law_key_here", "_law_word_here", "_law_at", "_law_door_here", "_law_able", "_law_by", "_law_smiths", "_law_one", "_law_low", "_law_high", "_law_less", "_law_smith"]
def g_law_behind : Es := (sqS (asS (tpP (csP (tpP (csP (nmP 3) (csP (nmP 4) nlP))) (csP (tpP (csP (nmP 5) (csP (nmP 6) nlP))) nlP))) (tupE (consE (vE 1) (consE (vE 2) nilE)))) (sqS (ifS (cmp2 eqB (vE 5) (cE (.str "go"))) (sqS (stS 7 (callE f_law_door (consE (vE 0) (consE (vE 3) (consE (vE 6) nilE))))) (sqS (ifS (isNE (vE 7)) (rtS (cE .none)) skS) (sqS (ifS (cmp2 neB (lcE (zipI (vE 4) (op2 ixD (vE 7) (cE (.int 3)))) (tpP (csP (nmP 11) (csP (tpP (csP (nmP 12) (csP (nmP 13) nlP))) nlP))) (notB (chE leB leB (vE 12) (vE 11) (vE 13))) (cE (.int 1)) [11, 12, 13]) (lstE nilE)) (rtS (cE .none)) skS) (rtS (tupE (consE (op2 ixD (vE 7) (cE (.int 2))) (consE (callE tupleF (consE (lcE (zipI (vE 4) (op2 ixD (op2 ixD (vE 0) (cE (.int 2))) (vE 6))) (tpP (csP (nmP 11) (csP (nmP 14) nlP))) yesB (callE maxF (consE (cE (.int 0)) (consE (op2 subD (vE 11) (vE 14)) nilE))) [11, 14]) nilE)) nilE))))))) skS) (sqS (ifS (cmp2 eqB (vE 5) (cE (.str "file"))) (p2S 8 9 (andE (bE (cmp2 inB (vE 3) (op2 ixD (vE 0) (cE (.int 4))))) (bE (cmp2 gtB (op2 ixD (vE 4) (vE 6)) (cE (.int 0))))) (cE (.int (-1)))) (sqS (stS 10 (lcE (seqI (op2 ixD (vE 0) (cE (.int 5)))) (nmP 15) (cmp2 eqB (op2 ixD (vE 15) (cE (.int 0))) (vE 3)) (op2 ixD (vE 15) (cE (.int 1))) [15])) (p2S 8 9 (andE (bE (cmp2 neB (vE 10) (lstE nilE))) (bE (cmp2 ltB (op2 ixD (vE 4) (vE 6)) (op2 ixD (vE 10) (cE (.int 0)))))) (cE (.int 1))))) (sqS (ifS (notB (tE (vE 8))) (rtS (cE .none)) skS) (rtS (tupE (consE (vE 3) (consE (op2 addD (op2 addD (slE (vE 4) noO (soO (vE 6))) (tupE (consE (op2 addD (op2 ixD (vE 4) (vE 6)) (vE 9)) nilE))) (slE (vE 4) (soO (op2 addD (vE 6) (cE (.int 1)))) noO)) nilE))))))))
def f_law_behind : Fd := fnF 16 g_law_behind
theorem sc_law_behind : FnScope n_law_behind ["_law_house_here", "_law_stand_here", "_law_deed"] (defScope (top 112)) := ⟨rfl, rfl, rfl, by decide +kernel, rfl, by decide +kernel, by decide +kernel⟩
theorem ok_law_behind (M : Mo mg) (D : Dn K mg "_law_behind" (top 112)) (F_law_door : FnAt P w K mg base 1 "_law_door" ["_law_house_here", "_law_hall", "_law_letter"] (spD K 3 f_law_door)) : FnAt P w K mg base 2 "_law_behind" ["_law_house_here", "_law_stand_here", "_law_deed"] (spD K 3 f_law_behind) := by
  obtain ⟨f, fd, F, hm⟩ := D.ex
  refine fn_data (N := n_law_behind) (g := g_law_behind) F hm (F.bindsN fun _ _ _ _ _ _ us hl => match us, hl with | [_, _, _], _ => rfl) sc_law_behind (fun cdv A outer s H E hr => ?_)
  exact (ssd_cons (sd_asg (pd_tup (pd_cons (pd_var 1 (pv 1)) (pd_cons (pd_var 2 (pv 2)) pd_nil))) (gd_tup (gd_cons (gd_tup (gd_cons (gd_name 3 (pg_name (i := 3) sc_law_behind.nd rfl (by first | exact Or.inl rfl | exact Or.inr rfl))) (gd_cons (gd_name 4 (pg_name (i := 4) sc_law_behind.nd rfl (by first | exact Or.inl rfl | exact Or.inr rfl))) gd_nil)) (csP_len (csP_len nlP_len))) (gd_cons (gd_tup (gd_cons (gd_name 5 (pg_name (i := 5) sc_law_behind.nd rfl (by first | exact Or.inl rfl | exact Or.inr rfl))) (gd_cons (gd_name 6 (pg_name (i := 6) sc_law_behind.nd rfl (by first | exact Or.inl rfl | exact Or.inr rfl))) gd_nil)) (csP_len (csP_len nlP_len))) gd_nil)) (csP_len (csP_len nlP_len)))) (ssd_cons (sd_if (td_eq hr.units (pd_var 5 (pv 5)) pd_str) (ssd_cons (sd_set 7 sc_law_behind.nd (pd_fn (F_law_door.mono (by decide)) hr rfl (pd_cons (pd_var 0 (pv 0)) (pd_cons (pd_var 3 (pv 3)) (pd_cons (pd_var 6 (pv 6)) pd_nil))) (consE_len (consE_len (consE_len nilE_len))))) (ssd_cons (sd_if (td_isN (pd_var 7 (pv 7))) (ssd_one (sd_ret pd_non)) ssd_nil) (ssd_cons (sd_if (td_ne hr.units (pd_lc (own := [("_law_one", 11), ("_law_low", 12), ("_law_high", 13)]) sc_law_behind.nd (id_zip M.b_zip (pd_var 4 (pv 4)) (pd_ix (pd_var 7 (pv 7)) pd_int)) (blkOk_by (own := [("_law_one", 11), ("_law_low", 12), ("_law_high", 13)]) (N := n_law_behind) (sc := defScope (top 112)) (by decide +kernel)) (fun _ _ _ _ _ => (gd_tup (gd_cons (gd_name 11 (pg_name (i := 11) sc_law_behind.nd rfl (by first | exact Or.inl rfl | exact Or.inr rfl))) (gd_cons (gd_tup (gd_cons (gd_name 12 (pg_name (i := 12) sc_law_behind.nd rfl (by first | exact Or.inl rfl | exact Or.inr rfl))) (gd_cons (gd_name 13 (pg_name (i := 13) sc_law_behind.nd rfl (by first | exact Or.inl rfl | exact Or.inr rfl))) gd_nil)) (csP_len (csP_len nlP_len))) gd_nil)) (csP_len (csP_len nlP_len)))) (fun _ _ _ _ _ => (tsd_one (td_not (td_lele (pd_var 12 (pv 12)) (pd_var 11 (pv 11)) (pd_var 13 (pv 13)))))) (fun _ _ _ _ _ => pd_int) (by decide)) (pd_lst pd_nil)) (ssd_one (sd_ret pd_non)) ssd_nil) (ssd_one (sd_ret (pd_tup (pd_cons (pd_ix (pd_var 7 (pv 7)) pd_int) (pd_cons (pd_tuple M.b_tuple (pd_cons (pd_lc (own := [("_law_one", 11), ("_law_less", 14)]) sc_law_behind.nd (id_zip M.b_zip (pd_var 4 (pv 4)) (pd_ix (pd_ix (pd_var 0 (pv 0)) pd_int) (pd_var 6 (pv 6)))) (blkOk_by (own := [("_law_one", 11), ("_law_less", 14)]) (N := n_law_behind) (sc := defScope (top 112)) (by decide +kernel)) (fun _ _ _ _ _ => (gd_tup (gd_cons (gd_name 11 (pg_name (i := 11) sc_law_behind.nd rfl (by first | exact Or.inl rfl | exact Or.inr rfl))) (gd_cons (gd_name 14 (pg_name (i := 14) sc_law_behind.nd rfl (by first | exact Or.inl rfl | exact Or.inr rfl))) gd_nil)) (csP_len (csP_len nlP_len)))) (fun _ _ _ _ _ => tsd_nil) (fun _ _ _ _ _ => (pd_max M.b_max (pd_cons pd_int (pd_cons (pd_sub (pd_var 11 (pv 11)) (pd_var 14 (pv 14))) pd_nil)))) (by decide)) pd_nil)) pd_nil)))))))) ssd_nil) (ssd_cons (sd_if (td_eq hr.units (pd_var 5 (pv 5)) pd_str) (ssd_one (sd_par2 (i := 8) (j := 9) sc_law_behind.nd (by decide) (pd_and (pd_in hr.units (pd_var 3 (pv 3)) (pd_ix (pd_var 0 (pv 0)) pd_int)) (pd_one (pd_gt (pd_ix (pd_var 4 (pv 4)) (pd_var 6 (pv 6))) pd_int))) (pd_neg 1) rfl)) (ssd_cons (sd_setLc 10 (own := [("_law_smith", 15)]) sc_law_behind.nd (sw_true rfl rfl rfl (by decide +kernel)) (id_seq (pd_ix (pd_var 0 (pv 0)) pd_int)) (blkOk_by (own := [("_law_smith", 15)]) (N := n_law_behind) (sc := defScope (top 112)) (by decide +kernel)) (fun _ _ _ _ _ => (gd_name 15 (pg_name (i := 15) sc_law_behind.nd rfl (by first | exact Or.inl rfl | exact Or.inr rfl)))) (fun _ _ _ _ _ => (tsd_one (td_eq hr.units (pd_ix (pd_var 15 (pv 15)) pd_int) (pd_var 3 (pv 3))))) (fun _ _ _ _ _ => (pd_ix (pd_var 15 (pv 15)) pd_int)) (by decide)) (ssd_one (sd_par2 (i := 8) (j := 9) sc_law_behind.nd (by decide) (pd_and (pd_ne hr.units (pd_var 10 (pv 10)) (pd_lst pd_nil)) (pd_one (pd_lt hr.units (pd_ix (pd_var 4 (pv 4)) (pd_var 6 (pv 6))) (pd_ix (pd_var 10 (pv 10)) pd_int)))) pd_int rfl)))) (ssd_cons (sd_if (td_not (td_val (pd_var 8 (pv 8)))) (ssd_one (sd_ret pd_non)) ssd_nil) (ssd_one (sd_ret (pd_tup (pd_cons (pd_var 3 (pv 3)) (pd_cons (pd_add (pd_add (pd_sl (pd_var 4 (pv 4)) od_none (od_some (pd_var 6 (pv 6)))) (pd_tup (pd_cons (pd_add (pd_ix (pd_var 4 (pv 4)) (pd_var 6 (pv 6))) (pd_var 9 (pv 9))) pd_nil))) (pd_sl (pd_var 4 (pv 4)) (od_some (pd_add (pd_var 6 (pv 6)) pd_int)) od_none)) pd_nil)))))))))
abbrev n_law_may : List Str := ["_law_house_here", "_law_stand_here", "_law_deed"]
def g_law_may : Es := (rtS (lcE (seqI (callE f_law_deeds (consE (vE 0) nilE))) (nmP 2) (notNE (callE f_law_behind (consE (vE 0) (consE (vE 1) (consE (vE 2) nilE))))) (vE 2) [2]))
def f_law_may : Fd := fnF 3 g_law_may
theorem sc_law_may : FnScope n_law_may ["_law_house_here", "_law_stand_here"] (defScope (top 113)) := ⟨rfl, rfl, rfl, by decide +kernel, rfl, by decide +kernel, by decide +kernel⟩
theorem ok_law_may (M : Mo mg) (D : Dn K mg "_law_may" (top 113)) (F_law_deeds : FnAt P w K mg base 1 "_law_deeds" ["_law_house_here"] (spD K 1 f_law_deeds)) (F_law_behind : FnAt P w K mg base 2 "_law_behind" ["_law_house_here", "_law_stand_here", "_law_deed"] (spD K 3 f_law_behind)) : FnAt P w K mg base 3 "_law_may" ["_law_house_here", "_law_stand_here"] (spD K 2 f_law_may) := by
  obtain ⟨f, fd, F, hm⟩ := D.ex
  refine fn_data (N := n_law_may) (g := g_law_may) F hm (F.bindsN fun _ _ _ _ _ _ us hl => match us, hl with | [_, _], _ => rfl) sc_law_may (fun cdv A outer s H E hr => ?_)
  exact (ssd_one (sd_ret (pd_lc (own := [("_law_deed", 2)]) sc_law_may.nd (id_seq (pd_fn (F_law_deeds.mono (by decide)) hr rfl (pd_cons (pd_var 0 (pv 0)) pd_nil) (consE_len nilE_len))) (blkOk_by (own := [("_law_deed", 2)]) (N := n_law_may) (sc := defScope (top 113)) (by decide +kernel)) (fun _ _ _ _ _ => (gd_name 2 (pg_name (i := 2) sc_law_may.nd rfl (by first | exact Or.inl rfl | exact Or.inr rfl)))) (fun _ _ _ _ _ => (tsd_one (td_notN (pd_fn (F_law_behind.mono (by decide)) hr rfl (pd_cons (pd_var 0 (pv 0)) (pd_cons (pd_var 1 (pv 1)) (pd_cons (pd_var 2 (pv 2)) pd_nil))) (consE_len (consE_len (consE_len nilE_len))))))) (fun _ _ _ _ _ => (pd_var 2 (pv 2))) (by decide))))
end
end Wk

set_option maxHeartbeats 2000000
namespace Wk
open PySem L2
/-! ### the combinators, applied: for simp -/
section
variable {ρ : DE} {f g h fa fb fc : Ev} {b c : EvB} {fs : EvL} {i j k : Nat} {d x y : PyData} {ds es : List PyData} {m n : Int}
@[simp] theorem vE_eq : vE i ρ = (ρ[i]?).getD none := rfl
@[simp] theorem cE_eq : cE d ρ = some d := rfl
@[simp] theorem bE_eq : bE b ρ = (b ρ).map .bool := rfl
@[simp] theorem nilE_eq : nilE ρ = some [] := rfl
@[simp] theorem consE_eq : consE f fs ρ = (f ρ).bind fun x => (fs ρ).map (x :: ·) := rfl
@[simp] theorem op2_eq {o : PyData → PyData → Option PyData} : op2 o fa fb ρ = (fa ρ).bind fun x => (fb ρ).bind fun y => o x y := rfl
@[simp] theorem cmp2_eq {o : PyData → PyData → Option Bool} : cmp2 o fa fb ρ = (fa ρ).bind fun x => (fb ρ).bind fun y => o x y := rfl
@[simp] theorem callE_eq {o : Fd} : callE o fs ρ = (fs ρ).bind o := rfl
@[simp] theorem addD_int : addD (.int m) (.int n) = some (.int (m + n)) := rfl
@[simp] theorem subD_int : subD (.int m) (.int n) = some (.int (m - n)) := rfl
@[simp] theorem leB_int : leB (.int m) (.int n) = some (decide (m ≤ n)) := rfl
@[simp] theorem gtB_int : gtB (.int m) (.int n) = some (decide (n < m)) := rfl
@[simp] theorem geB_int : geB (.int m) (.int n) = some (decide (n ≤ m)) := rfl
@[simp] theorem ltB_int : ltB (.int m) (.int n) = some (decide (m < n)) := rfl
@[simp] theorem eqB_int : eqB (.int m) (.int n) = some (decide (m = n)) := rfl
@[simp] theorem eqB_str {s t : Str} : eqB (.str s) (.str t) = some (decide (s = t)) := rfl
@[simp] theorem neB_eq : neB x y = (eqB x y).map (!·) := rfl
@[simp] theorem niB_eq : niB x y = (inB x y).map (!·) := rfl
@[simp] theorem chE_eq {p q : PyData → PyData → Option Bool} : chE p q fa fb fc ρ = (fa ρ).bind fun x => (fb ρ).bind fun y => (p x y).bind fun k => if k then (fc ρ).bind fun z => q y z else some false := rfl
@[simp] theorem isNE_eq : isNE f ρ = (f ρ).map isN := rfl
@[simp] theorem notNE_eq : notNE f ρ = (f ρ).map fun d => !isN d := rfl
@[simp] theorem isN_none : isN .none = true := rfl
@[simp] theorem isN_int : isN (.int m) = false := rfl
@[simp] theorem isN_tup : isN (.tuple ds) = false := rfl
@[simp] theorem andB_eq : andB b c ρ = (b ρ).bind fun k => if k then c ρ else some false := rfl
@[simp] theorem orB_eq : orB b c ρ = (b ρ).bind fun k => if k then some true else c ρ := rfl
@[simp] theorem notB_eq : notB b ρ = (b ρ).map (!·) := rfl
@[simp] theorem ifE_eq : ifE b f g ρ = (b ρ).bind fun k => if k then f ρ else g ρ := rfl
theorem andE_bool {k : Bool} (hf : f ρ = some (.bool k)) : andE f g ρ = if k then g ρ else some (.bool false) := by
  unfold andE
  rw [hf]
  cases k <;> rfl
theorem orE_bool {k : Bool} (hf : f ρ = some (.bool k)) : orE f g ρ = if k then some (.bool true) else g ρ := by
  unfold orE
  rw [hf]
  cases k <;> rfl
theorem notE_bool {k : Bool} (hf : f ρ = some (.bool k)) : notE f ρ = some (.bool (!k)) := by
  unfold notE
  rw [hf]
  rfl
theorem tE_bool {k : Bool} (hf : f ρ = some (.bool k)) : tE f ρ = some k := by
  unfold tE
  rw [hf]
@[simp] theorem tE_bE : tE (bE b) ρ = b ρ := by
  unfold tE bE
  cases b ρ <;> rfl
@[simp] theorem tupE_eq : tupE fs ρ = (fs ρ).bind tupF := rfl
@[simp] theorem lstE_eq : lstE fs ρ = (fs ρ).bind lstF := rfl
@[simp] theorem isL_int : isL (.int m) = false := rfl
@[simp] theorem isL_bool {k : Bool} : isL (.bool k) = false := rfl
@[simp] theorem isL_str {s : Str} : isL (.str s) = false := rfl
@[simp] theorem isL_none : isL .none = false := rfl
@[simp] theorem isL_tup : isL (.tuple ds) = false := rfl
@[simp] theorem noO_eq : noO ρ = some none := rfl
theorem soO_int (hf : f ρ = some (.int m)) : soO f ρ = some (some m) := by
  unfold soO
  rw [hf]
@[simp] theorem slE_eq {l u : EvO} : slE f l u ρ = (f ρ).bind fun d => (l ρ).bind fun l => (u ρ).bind fun h => slD d l h := rfl
@[simp] theorem slD_tup {l u : Option Int} : slD (.tuple ds) l u = some (.tuple (cutG ds l u)) := rfl
@[simp] theorem slD_lst {l u : Option Int} : slD (.list ds) l u = some (.list (cutG ds l u)) := rfl
@[simp] theorem lenF_tup : lenF [.tuple ds] = some (.int ds.length) := rfl
@[simp] theorem lenF_lst : lenF [.list ds] = some (.int ds.length) := rfl
@[simp] theorem tupleF_lst : tupleF [.list ds] = some (.tuple ds) := rfl
@[simp] theorem tupleF_tup : tupleF [.tuple ds] = some (.tuple ds) := rfl
@[simp] theorem intF_bool {k : Bool} : intF [.bool k] = some (.int (if k then 1 else 0)) := rfl
@[simp] theorem maxF_eq : maxF [.int m, .int n] = some (.int (if n > m then n else m)) := rfl
@[simp] theorem minF_eq : minF [.int m, .int n] = some (.int (if n < m then n else m)) := rfl
@[simp] theorem allF_eq : allF [.list ds] = (boolsOf ds).map fun bs => .bool (bs.all id) := rfl
@[simp] theorem lrE_eq : lrE f ρ = (f ρ).bind lrF := rfl
@[simp] theorem isE_eq {T : Ty} : isE T f ρ = (f ρ).map (isTy T) := rfl
@[simp] theorem nmP_eq : nmP i d ρ = some (ρ.set i (some d)) := rfl
@[simp] theorem tpP_eq {g : PatL} : tpP g (.tuple ds) ρ = g ds ρ := rfl
@[simp] theorem nlP_eq : nlP [] ρ = some ρ := rfl
@[simp] theorem csP_eq {f : PatF} {g : PatL} : csP f g (d :: ds) ρ = (f d ρ).bind (g ds) := rfl
@[simp] theorem yesB_eq : yesB ρ = some true := rfl
theorem seqI_tup (hf : f ρ = some (.tuple ds)) : seqI f ρ = some ds := by
  unfold seqI
  rw [hf]
theorem seqI_lst (hf : f ρ = some (.list ds)) : seqI f ρ = some ds := by
  unfold seqI
  rw [hf]
theorem enI_tup (hf : f ρ = some (.tuple ds)) : enI f ρ = some (enD ds) := by
  unfold enI
  rw [hf]
theorem zipI_tup (h1 : f ρ = some (.tuple ds)) (h2 : g ρ = some (.tuple es)) : zipI f g ρ = some (zipD ds es) := by
  unfold zipI
  rw [h1, h2]
  rfl
theorem zipI_lst (h1 : f ρ = some (.list ds)) (h2 : g ρ = some (.list es)) : zipI f g ρ = some (zipD ds es) := by
  unfold zipI
  rw [h1, h2]
  rfl
theorem rgI_int (hf : f ρ = some (.int m)) (h1 : m ≤ 100000) (h2 : -100000 ≤ m) : rgI f ρ = some (intsD m.toNat) := by
  unfold rgI
  rw [hf]
  show (if m ≤ 100000 ∧ -100000 ≤ m then some (intsD m.toNat) else none) = _
  rw [if_pos ⟨h1, h2⟩]
/-! statements -/
variable {s t : Es}
@[simp] theorem skS_eq : skS ρ = some (.nx ρ) := rfl
theorem sqS_nx {ρ' : DE} (hs : s ρ = some (.nx ρ')) : sqS s t ρ = t ρ' := by
  unfold sqS
  rw [hs]
theorem sqS_rt (hs : s ρ = some (.rt d)) : sqS s t ρ = some (.rt d) := by
  unfold sqS
  rw [hs]
@[simp] theorem rtS_eq : rtS f ρ = (f ρ).map .rt := rfl
@[simp] theorem stS_eq : stS i f ρ = (f ρ).map fun d => .nx (ρ.set i (some d)) := rfl
@[simp] theorem ifS_eq : ifS b s t ρ = (b ρ).bind fun k => if k then s ρ else t ρ := rfl
@[simp] theorem drS_eq : drS f ρ = (f ρ).map fun _ => .nx ρ := rfl
@[simp] theorem asS_eq {p : PatF} : asS p f ρ = (f ρ).bind fun d => if isL d then none else (p d ρ).map .nx := rfl
@[simp] theorem p2S_eq : p2S i j f g ρ = (f ρ).bind fun d => (g ρ).map fun e => .nx ((ρ.set i (some d)).set j (some e)) := rfl
@[simp] theorem foS_eq {fi : EvL} {p : PatF} : foS fi p s ρ = (fi ρ).bind fun ds => foL p s ds ρ := rfl
theorem fnF_rt {N : Nat} {g : Es} (h : g (ds.map some ++ List.replicate (N - ds.length) none) = some (.rt d)) : fnF N g ds = some d := by
  unfold fnF
  rw [h]
theorem fnF_nx {N : Nat} {g : Es} {ρ' : DE} (h : g (ds.map some ++ List.replicate (N - ds.length) none) = some (.nx ρ')) : fnF N g ds = some .none := by
  unfold fnF
  rw [h]
@[simp] theorem lcL_nil {p : PatF} {c : EvB} {e : Ev} : lcL p c e ρ [] = some [] := rfl
/-- a comprehension over a mapped list -/
theorem lcL_map {α : Type} {p : PatF} {c : EvB} {e : Ev} {F : α → PyData} {q : α → Bool} {G : α → PyData} : ∀ {l : List α}, (∀ x ∈ l, ∃ ρ1, p (F x) ρ = some ρ1 ∧ c ρ1 = some (q x) ∧ (q x = true → e ρ1 = some (G x) ∧ isL (G x) = false)) → lcL p c e ρ (l.map F) = some ((l.filter q).map G)
  | [], _ => rfl
  | x :: l, h => by
    obtain ⟨ρ1, h1, h2, h3⟩ := h x List.mem_cons_self
    have ih := lcL_map (l := l) fun y hy => h y (List.mem_cons_of_mem _ hy)
    rw [List.map_cons]
    unfold lcL
    rw [h1]
    show (match c ρ1 with
      | none => none
      | some false => lcL p c e ρ (l.map F)
      | some true => match e ρ1 with
        | none => none
        | some x => match isL x with
          | true => none
          | false => (lcL p c e ρ (l.map F)).map (x :: ·)) = _
    rw [h2]
    cases hq : q x with
    | false =>
      show lcL p c e ρ (l.map F) = _
      rw [ih, List.filter_cons, if_neg (by rw [hq]; decide)]
    | true =>
      obtain ⟨h4, h5⟩ := h3 hq
      show (match e ρ1 with
        | none => none
        | some x => match isL x with
          | true => none
          | false => (lcL p c e ρ (l.map F)).map (x :: ·)) = _
      rw [h4]
      show (match isL (G x) with
          | true => none
          | false => (lcL p c e ρ (l.map F)).map (G x :: ·)) = _
      rw [h5, ih, List.filter_cons, if_pos (by rw [hq])]
      rfl
theorem lcL_all {α : Type} {p : PatF} {e : Ev} {F : α → PyData} {G : α → PyData} {l : List α} (h : ∀ x ∈ l, ∃ ρ1, p (F x) ρ = some ρ1 ∧ e ρ1 = some (G x) ∧ isL (G x) = false) : lcL p yesB e ρ (l.map F) = some (l.map G) := by
  have h2 := lcL_map (c := yesB) (q := fun _ => true) (ρ := ρ) (p := p) (e := e) (F := F) (G := G) (l := l) fun x hx => by
    obtain ⟨ρ1, h1, h2, h3⟩ := h x hx
    exact ⟨ρ1, h1, rfl, fun _ => ⟨h2, h3⟩⟩
  rw [h2, List.filter_eq_self.mpr (fun _ _ => rfl)]

theorem lcE_some {fi : EvL} {p : PatF} {c : EvB} {e : Ev} {vs : List Nat} {res : List PyData} (h1 : fi ρ = some ds) (h2 : ds.length ≤ 10000) (h3 : lcL p c e (wipeE ρ vs) ds = some res) : lcE fi p c e vs ρ = some (.list res) := by
  unfold lcE
  rw [h1]
  show (if ds.length ≤ 10000 then (lcL p c e (wipeE ρ vs) ds).map PyData.list else none) = _
  rw [if_pos h2, h3]
  rfl
theorem boolsOf_map {α : Type} {F : α → Bool} : ∀ l : List α, boolsOf (l.map fun x => .bool (F x)) = some (l.map F)
  | [] => rfl
  | x :: l => by
    rw [List.map_cons]
    unfold boolsOf
    rw [boolsOf_map l]
    rfl
theorem tupF_of (h : ds.any isL = false) (h2 : ds.length ≤ 1000) : tupF ds = some (.tuple ds) := by
  unfold tupF
  rw [if_neg (by rw [h]; simp; omega)]
theorem lstF_of (h : ds.any isL = false) (h2 : ds.length ≤ 1000) : lstF ds = some (.list ds) := by
  unfold lstF
  rw [if_neg (by rw [h]; simp; omega)]
theorem addD_tup (h : ds.length + es.length ≤ 10000) : addD (.tuple ds) (.tuple es) = some (.tuple (ds ++ es)) := by
  unfold addD
  exact if_pos h
theorem addD_lst (h : ds.length + es.length ≤ 10000) : addD (.list ds) (.list es) = some (.list (ds ++ es)) := by
  unfold addD
  exact if_pos h
theorem ixD_tup (h : ds[i]? = some d) : ixD (.tuple ds) (.int (i : Nat)) = some d := by
  unfold ixD
  show (if (0 : Int) ≤ (i : Nat) then ds[((i : Nat) : Int).toNat]? else none) = _
  rw [if_pos (by omega), Int.toNat_natCast]
  exact h
theorem ixD_lst (h : ds[i]? = some d) : ixD (.list ds) (.int (i : Nat)) = some d := by
  unfold ixD
  show (if (0 : Int) ≤ (i : Nat) then ds[((i : Nat) : Int).toNat]? else none) = _
  rw [if_pos (by omega), Int.toNat_natCast]
  exact h
@[simp] theorem ixD_t0 : ixD (.tuple (d :: ds)) (.int 0) = some d := rfl
@[simp] theorem ixD_t1 : ixD (.tuple (d :: x :: ds)) (.int 1) = some x := rfl
@[simp] theorem ixD_t2 : ixD (.tuple (d :: x :: y :: ds)) (.int 2) = some y := rfl
@[simp] theorem ixD_t3 {z : PyData} : ixD (.tuple (d :: x :: y :: z :: ds)) (.int 3) = some z := rfl
@[simp] theorem ixD_t4 {z u : PyData} : ixD (.tuple (d :: x :: y :: z :: u :: ds)) (.int 4) = some u := rfl
@[simp] theorem ixD_t5 {z u v : PyData} : ixD (.tuple (d :: x :: y :: z :: u :: v :: ds)) (.int 5) = some v := rfl
@[simp] theorem ixD_l0 : ixD (.list (d :: ds)) (.int 0) = some d := rfl
theorem cutG_to {α : Type} (xs : List α) (n : Nat) : cutG xs none (some (n : Int)) = xs.take n := by
  unfold cutG
  rw [HT.sIx_none, HT.sIx_nat, List.drop_zero, Nat.sub_zero]
  by_cases hn : n ≤ xs.length
  · rw [Nat.min_eq_left hn]
  · rw [Nat.min_eq_right (by omega), List.take_of_length_le (Nat.le_refl _), List.take_of_length_le (by omega)]
theorem cutG_from {α : Type} (xs : List α) (n : Nat) : cutG xs (some (n : Int)) none = xs.drop n := by
  unfold cutG
  rw [HT.sIx_none, HT.sIx_nat]
  by_cases hn : n ≤ xs.length
  · rw [Nat.min_eq_left hn, List.take_of_length_le (by rw [List.length_drop]; omega)]
  · rw [Nat.min_eq_right (by omega), List.drop_length, List.drop_eq_nil_of_le (by omega)]
    simp
end
end Wk

set_option maxHeartbeats 2000000
namespace Wk
open PySem L2
/-! ### houses, stands, deeds -/
abbrev nD (n : Nat) : PyData := .int (n : Int)
structure Door where
  hall : Nat
  letter : Nat
  to : Nat
  gaps : List (Nat × Nat)
structure House where
  teeth : Nat
  halls : Nat
  wears : List (List Nat)
  doors : List Door
  benches : List Nat
  smiths : List (Nat × Nat × Nat)
inductive Deed where
  | go (l : Nat)
  | file (t : Nat)
  | lift (t : Nat)
  deriving DecidableEq
abbrev Stand := Nat × List Nat
abbrev Box := List (Nat × Nat)
def keyD (k : List Nat) : PyData := .tuple (k.map nD)
def gapD (g : Nat × Nat) : PyData := .tuple [nD g.1, nD g.2]
def boxD (b : Box) : PyData := .tuple (b.map gapD)
def doorD (d : Door) : PyData := .tuple [nD d.hall, nD d.letter, nD d.to, boxD d.gaps]
def smithD (s : Nat × Nat × Nat) : PyData := .tuple [nD s.1, nD s.2.1, nD s.2.2]
def houseD (h : House) : PyData := .tuple [nD h.teeth, nD h.halls, .tuple (h.wears.map keyD), .tuple (h.doors.map doorD), .tuple (h.benches.map nD), .tuple (h.smiths.map smithD)]
def deedD : Deed → PyData
  | .go l => .tuple [.str "go", nD l]
  | .file t => .tuple [.str "file", nD t]
  | .lift t => .tuple [.str "lift", nD t]
def standD (s : Stand) : PyData := .tuple [nD s.1, keyD s.2]
def rowD (r : List Deed) : PyData := .tuple (r.map deedD)
def goalD (g : Nat × Box) : PyData := .tuple [nD g.1, boxD g.2]
structure Good (h : House) : Prop where
  t1 : 1 ≤ h.teeth
  t3 : h.teeth ≤ 3
  h1 : 1 ≤ h.halls
  h6 : h.halls ≤ 6
  w1 : 1 ≤ h.wears.length
  w6 : h.wears.length ≤ 6
  wl : ∀ w ∈ h.wears, w.length = h.teeth ∧ ∀ x ∈ w, x ≤ 3
  d10 : h.doors.length ≤ 10
  dg : ∀ d ∈ h.doors, d.hall < h.halls ∧ d.letter < h.wears.length ∧ d.to < h.halls ∧ d.gaps.length = h.teeth ∧ ∀ g ∈ d.gaps, g.1 ≤ g.2 ∧ g.2 ≤ 6
  ds : h.doors.Pairwise (fun a b => a.hall < b.hall ∨ (a.hall = b.hall ∧ a.letter < b.letter))
  bl : h.benches.length ≤ 100
  bg : ∀ b ∈ h.benches, b < h.halls
  bs : h.benches.Pairwise (· < ·)
  sl : h.smiths.length ≤ 100
  sg : ∀ s ∈ h.smiths, s.1 < h.halls ∧ 1 ≤ s.2.1 ∧ s.2.1 ≤ 6 ∧ 1 ≤ s.2.2 ∧ s.2.2 ≤ 9
  ss : h.smiths.Pairwise (fun a b => a.1 < b.1)
structure GoodS (h : House) (s : Stand) : Prop where
  hall : s.1 < h.halls
  len : s.2.length = h.teeth
  six : ∀ x ∈ s.2, x ≤ 6
def GoodD (h : House) : Deed → Prop
  | .go l => l < h.wears.length
  | .file t => t < h.teeth
  | .lift t => t < h.teeth
def GoodB (n : Nat) (b : Box) : Prop := b.length = n ∧ ∀ g ∈ b, g.1 ≤ g.2 ∧ g.2 ≤ 6
/-! ### looks -/
theorem F_is_whole (i : Int) : f_is_whole [.int i] = some (.bool true) := rfl
theorem F_is_among (x lo hi : Int) : f_is_among [.int x, .int lo, .int hi] = some (.bool (decide (lo ≤ x) && decide (x ≤ hi))) := by
  refine fnF_rt (N := 3) ?_
  show g_is_among [some (.int x), some (.int lo), some (.int hi)] = _
  unfold g_is_among
  rw [rtS_eq, andE_bool (k := true) (by simp [F_is_whole]), if_pos rfl]
  simp
  by_cases h : lo ≤ x <;> simp [h]
theorem among {x lo hi : Int} (h1 : lo ≤ x) (h2 : x ≤ hi) : f_is_among [.int x, .int lo, .int hi] = some (.bool true) := by
  rw [F_is_among, decide_eq_true h1, decide_eq_true h2]
  rfl
theorem F_are_some (ds : List PyData) (lo hi : Int) : f_are_some [.tuple ds, .int lo, .int hi] = some (.bool (decide (lo ≤ ds.length) && decide (ds.length ≤ hi))) := by
  refine fnF_rt (N := 3) ?_
  show g_are_some [some (.tuple ds), some (.int lo), some (.int hi)] = _
  unfold g_are_some
  rw [rtS_eq, andE_bool (k := true) (by simp [isTy]), if_pos rfl]
  simp
  by_cases h : lo ≤ ds.length <;> simp [h]
theorem some_ {ds : List PyData} {lo hi : Int} (h1 : lo ≤ ds.length) (h2 : ds.length ≤ hi) : f_are_some [.tuple ds, .int lo, .int hi] = some (.bool true) := by
  rw [F_are_some, decide_eq_true h1, decide_eq_true h2]
  rfl
theorem height {x : Nat} (h : x ≤ 6) : f_is_height [nD x] = some (.bool true) := by
  refine fnF_rt (N := 1) ?_
  show g_is_height [some (nD x)] = _
  unfold g_is_height
  simp [among (x := x) (lo := 0) (hi := 6) (by omega) (by omega)]
/-- all([..]) of a list all of which hold -/
theorem all_true {α : Type} {ρ : DE} {fi : EvL} {p : PatF} {e : Ev} {vs : List Nat} {F : α → PyData} {l : List α} (h1 : fi ρ = some (l.map F)) (h2 : l.length ≤ 10000) (h3 : ∀ x ∈ l, ∃ ρ1, p (F x) (wipeE ρ vs) = some ρ1 ∧ e ρ1 = some (.bool true)) :
    callE allF (consE (lcE fi p yesB e vs) nilE) ρ = some (.bool true) := by
  have h4 : lcL p yesB e (wipeE ρ vs) (l.map F) = some (l.map fun _ => PyData.bool true) := lcL_all fun x hx => by
    obtain ⟨ρ1, q1, q2⟩ := h3 x hx
    exact ⟨ρ1, q1, q2, rfl⟩
  have h5 := lcE_some (c := yesB) (vs := vs) (p := p) (e := e) h1 (by rw [List.length_map]; exact h2) h4
  simp [h5, boolsOf_map]
theorem all_bool {α : Type} {ρ : DE} {fi : EvL} {p : PatF} {e : Ev} {vs : List Nat} {F : α → PyData} {l : List α} (B : α → Bool) (h1 : fi ρ = some (l.map F)) (h2 : l.length ≤ 10000) (h3 : ∀ x ∈ l, ∃ ρ1, p (F x) (wipeE ρ vs) = some ρ1 ∧ e ρ1 = some (.bool (B x))) :
    callE allF (consE (lcE fi p yesB e vs) nilE) ρ = some (.bool (l.all B)) := by
  have h4 : lcL p yesB e (wipeE ρ vs) (l.map F) = some (l.map fun x => PyData.bool (B x)) := lcL_all fun x hx => by
    obtain ⟨ρ1, q1, q2⟩ := h3 x hx
    exact ⟨ρ1, q1, q2, rfl⟩
  have h5 := lcE_some (c := yesB) (vs := vs) (p := p) (e := e) h1 (by rw [List.length_map]; exact h2) h4
  rw [callE_eq, consE_eq, h5]
  simp [boolsOf_map]
theorem key_by {n : Nat} {k : List Nat} (h1 : k.length = n) (h2 : n ≤ 1000) (h3 : ∀ x ∈ k, x ≤ 6) : f_is_key_by [nD n, keyD k] = some (.bool true) := by
  refine fnF_rt (N := 3) ?_
  show g_is_key_by [some (nD n), some (keyD k), none] = _
  unfold g_is_key_by
  rw [rtS_eq, andE_bool (k := true) (by simp [keyD, some_ (ds := k.map nD) (lo := n) (hi := n) (by simp [h1]) (by simp [h1])]), if_pos rfl, all_true (F := nD) (l := k) (seqI_tup rfl) (by omega) fun x hx => ⟨_, rfl, ?_⟩]
  · rfl
  · simp [wipeE, height (h3 x hx)]
theorem gap_ {g : Nat × Nat} (h1 : g.1 ≤ g.2) (h2 : g.2 ≤ 6) : f_is_gap [gapD g] = some (.bool true) := by
  refine fnF_rt (N := 2) ?_
  show g_is_gap [some (gapD g), none] = _
  unfold g_is_gap
  rw [rtS_eq, andE_bool (k := true) (by simp [gapD, some_ (ds := [nD g.1, nD g.2]) (lo := 2) (hi := 2) (by simp) (by simp)]), if_pos rfl,
    andE_bool (k := true) (all_true (F := nD) (l := [g.1, g.2]) (seqI_tup rfl) (by simp) fun x hx => ⟨_, rfl, ?_⟩), if_pos rfl]
  · simp [gapD]
    omega
  · have hx6 : x ≤ 6 := by
      simp at hx
      omega
    simp [wipeE, height hx6]
theorem box_by {n : Nat} {b : Box} (h : GoodB n b) (h2 : n ≤ 1000) : f_is_box_by [nD n, boxD b] = some (.bool true) := by
  obtain ⟨h1, h3⟩ := h
  refine fnF_rt (N := 3) ?_
  show g_is_box_by [some (nD n), some (boxD b), none] = _
  unfold g_is_box_by
  rw [rtS_eq, andE_bool (k := true) (by simp [boxD, some_ (ds := b.map gapD) (lo := n) (hi := n) (by simp [h1]) (by simp [h1])]), if_pos rfl, all_true (F := gapD) (l := b) (seqI_tup rfl) (by omega) fun x hx => ⟨_, rfl, ?_⟩]
  · rfl
  · simp [wipeE, gap_ (h3 x hx).1 (h3 x hx).2]
theorem zipD_map {α β : Type} {F : α → PyData} {G : β → PyData} : ∀ (l : List α) (m : List β), zipD (l.map F) (m.map G) = (l.zip m).map fun p => .tuple [F p.1, G p.2]
  | [], _ => rfl
  | _ :: _, [] => rfl
  | x :: l, y :: m => by
    have ih := zipD_map (F := F) (G := G) l m
    show PyData.tuple [F x, G y] :: zipD (l.map F) (m.map G) = _
    rw [ih]
    rfl
theorem pairs_of {α : Type} {R : α → α → Prop} : ∀ {l : List α}, l.Pairwise R → ∀ p ∈ l.zip (l.drop 1), R p.1 p.2
  | [], _, p, hp => by simp at hp
  | [x], _, p, hp => by simp at hp
  | x :: y :: l, h, p, hp => by
    rw [List.pairwise_cons] at h
    have e : (x :: y :: l).zip ((x :: y :: l).drop 1) = (x, y) :: (y :: l).zip ((y :: l).drop 1) := rfl
    rw [e] at hp
    rcases List.mem_cons.mp hp with e | hp
    · rw [e]
      exact h.1 y List.mem_cons_self
    · exact pairs_of h.2 p hp
theorem drop1 {α : Type} {F : α → PyData} (l : List α) : cutG (l.map F) (some 1) none = (l.drop 1).map F := by
  have h := cutG_from (l.map F) 1
  rw [← List.map_drop] at h
  exact h
theorem rises_in {α : Type} {F : α → PyData} {R : α → α → Prop} {l : List α} {d : PyData} (hd : d = .tuple (l.map F) ∨ d = .list (l.map F)) (h : l.Pairwise R) (hl : l.length ≤ 1000) (hR : ∀ a b, R a b → ltB (F a) (F b) = some true) : f_rises [d] = some (.bool true) := by
  refine fnF_rt (N := 3) ?_
  show g_rises [some d, none, none] = _
  unfold g_rises
  have hs : soO (cE (.int 1)) [some d, none, none] = some (some 1) := rfl
  have hz : zipI (vE 0) (slE (vE 0) (soO (cE (.int 1))) noO) [some d, none, none] = some ((l.zip (l.drop 1)).map fun p => .tuple [F p.1, F p.2]) := by
    rw [← zipD_map]
    rcases hd with rfl | rfl
    · refine zipI_tup rfl ?_
      simp [hs, drop1]
    · refine zipI_lst rfl ?_
      simp [hs, drop1]
  rw [rtS_eq, all_true (F := fun p : α × α => PyData.tuple [F p.1, F p.2]) (l := l.zip (l.drop 1)) hz (by rw [List.length_zip]; omega) fun p hp => ⟨_, rfl, ?_⟩]
  · rfl
  · simp [wipeE, hR _ _ (pairs_of h p hp)]
section
variable {h : House} (G : Good h)
include G
theorem wear_ok {x : List Nat} (hx : x ∈ h.wears) : f_is_wear [nD h.teeth, keyD x] = some (.bool true) := by
  obtain ⟨h1, h2⟩ := G.wl x hx
  have t3 := G.t3
  refine fnF_rt (N := 3) ?_
  show g_is_wear [some (nD h.teeth), some (keyD x), none] = _
  unfold g_is_wear
  rw [rtS_eq, andE_bool (k := true) (by simp [keyD, some_ (ds := x.map nD) (lo := h.teeth) (hi := h.teeth) (by simp [h1]) (by simp [h1])]), if_pos rfl, all_true (F := nD) (l := x) (seqI_tup rfl) (by omega) fun y hy => ⟨_, rfl, ?_⟩]
  · rfl
  · have := h2 y hy
    simp [wipeE, among (x := y) (lo := 0) (hi := 3) (by omega) (by omega)]
theorem door_ok {d : Door} (hd : d ∈ h.doors) : f_is_door [nD h.teeth, nD h.halls, nD h.wears.length, doorD d] = some (.bool true) := by
  obtain ⟨h1, h2, h3, h4, h5⟩ := G.dg d hd
  have t3 := G.t3
  refine fnF_rt (N := 5) ?_
  show g_is_door [some (nD h.teeth), some (nD h.halls), some (nD h.wears.length), some (doorD d), none] = _
  unfold g_is_door
  have e1 : orB (notB (tE (callE f_are_some (consE (vE 3) (consE (cE (.int 4)) (consE (cE (.int 4)) nilE)))))) (notB (tE (callE allF (consE (lcE (seqI (tupE (consE (op2 ixD (vE 3) (cE (.int 0))) (consE (op2 ixD (vE 3) (cE (.int 2))) nilE)))) (nmP 4) yesB (callE f_is_among (consE (vE 4) (consE (cE (.int 0)) (consE (op2 subD (vE 1) (cE (.int 1))) nilE)))) [4]) nilE)))) [some (nD h.teeth), some (nD h.halls), some (nD h.wears.length), some (doorD d), none] = some false := by
    rw [orB_eq, notB_eq, tE_bool (k := true) (by simp [doorD, some_]), notB_eq, tE_bool (k := true) (all_true (F := nD) (l := [d.hall, d.to]) (seqI_tup (by simp [doorD, tupF_of])) (by simp) fun y hy => ⟨_, rfl, ?_⟩)]
    · rfl
    · have hy2 : y < h.halls := by
        simp at hy
        omega
      simp [wipeE, among (x := y) (lo := 0) (hi := (h.halls : Int) - 1) (by omega) (by omega)]
  rw [sqS_nx (ρ' := [some (nD h.teeth), some (nD h.halls), some (nD h.wears.length), some (doorD d), none]) (by rw [ifS_eq, e1]; rfl), rtS_eq, andE_bool (k := true) (by simp [doorD, among (x := d.letter) (lo := 0) (hi := (h.wears.length : Int) - 1) (by omega) (by omega)]), if_pos rfl]
  simp [doorD, box_by (n := h.teeth) (b := d.gaps) ⟨h4, h5⟩ (by omega)]
theorem doors_ok : f_are_doors [nD h.teeth, nD h.halls, nD h.wears.length, .tuple (h.doors.map doorD)] = some (.bool true) := by
  have d10 := G.d10
  refine fnF_rt (N := 6) ?_
  show g_are_doors [some (nD h.teeth), some (nD h.halls), some (nD h.wears.length), some (.tuple (h.doors.map doorD)), none, none] = _
  unfold g_are_doors
  rw [sqS_nx (ρ' := [some (nD h.teeth), some (nD h.halls), some (nD h.wears.length), some (.tuple (h.doors.map doorD)), none, none]) ?_]
  · have h4 : lcE (seqI (vE 3)) (nmP 5) yesB (slE (vE 5) noO (soO (cE (.int 2)))) [5] [some (nD h.teeth), some (nD h.halls), some (nD h.wears.length), some (.tuple (h.doors.map doorD)), none, none] = some (.list (h.doors.map fun d => .tuple [nD d.hall, nD d.letter])) := by
      refine lcE_some (seqI_tup rfl) (by rw [List.length_map]; omega) (lcL_all fun d hd => ⟨_, rfl, ?_, rfl⟩)
      have hs : soO (cE (.int 2)) = fun _ => some (some 2) := rfl
      have hc := cutG_to [nD d.hall, nD d.letter, nD d.to, boxD d.gaps] 2
      simp [wipeE, hs, doorD]
      exact hc
    have h5 := rises_in (F := fun d : Door => PyData.tuple [nD d.hall, nD d.letter]) (.inr rfl) G.ds (by omega) (fun a b r => by
      have e : ltB (.tuple [nD a.hall, nD a.letter]) (.tuple [nD b.hall, nD b.letter]) = some (HT.lexLt [(a.hall : Int), a.letter] [(b.hall : Int), b.letter]) := rfl
      rw [e, HT.lexLt_cons, HT.lexLt_cons]
      rcases r with r | ⟨r1, r2⟩
      · rw [if_neg (by omega), decide_eq_true (by omega)]
      · rw [if_pos (by omega), if_neg (by omega), decide_eq_true (by omega)])
    simp [h4, h5]
  · rw [ifS_eq, orB_eq, notB_eq, tE_bool (k := true) (by simp [some_ (ds := h.doors.map doorD) (lo := 0) (hi := 10) (by simp) (by simp; omega)]), notB_eq, tE_bool (k := true) (all_true (F := doorD) (l := h.doors) (seqI_tup rfl) (by omega) fun y hy => ⟨_, rfl, by simp [wipeE, door_ok G hy]⟩)]
    rfl
theorem smith_ok {s : Nat × Nat × Nat} (hs : s ∈ h.smiths) : f_is_smith [nD h.halls, smithD s] = some (.bool true) := by
  obtain ⟨h1, h2, h3, h4, h5⟩ := G.sg s hs
  refine fnF_rt (N := 2) ?_
  show g_is_smith [some (nD h.halls), some (smithD s)] = _
  unfold g_is_smith
  rw [sqS_nx (ρ' := [some (nD h.halls), some (smithD s)]) (by
    rw [ifS_eq, orB_eq, notB_eq, tE_bool (k := true) (by simp [smithD, some_]), notB_eq, tE_bool (k := true) (by simp [smithD, among (x := s.1) (lo := 0) (hi := (h.halls : Int) - 1) (by omega) (by omega)])]
    rfl), rtS_eq, andE_bool (k := true) (by simp [smithD, among (x := s.2.1) (lo := 1) (hi := 6) (by omega) (by omega)]), if_pos rfl]
  simp [smithD, among (x := s.2.2) (lo := 1) (hi := 9) (by omega) (by omega)]
theorem smiths_ok : f_are_smiths [nD h.halls, .tuple (h.smiths.map smithD)] = some (.bool true) := by
  have sl := G.sl
  refine fnF_rt (N := 3) ?_
  show g_are_smiths [some (nD h.halls), some (.tuple (h.smiths.map smithD)), none] = _
  unfold g_are_smiths
  rw [sqS_nx (ρ' := [some (nD h.halls), some (.tuple (h.smiths.map smithD)), none]) ?_]
  · have h4 : lcE (seqI (vE 1)) (nmP 2) yesB (op2 ixD (vE 2) (cE (.int 0))) [2] [some (nD h.halls), some (.tuple (h.smiths.map smithD)), none] = some (.list (h.smiths.map fun s => nD s.1)) :=
      lcE_some (seqI_tup rfl) (by rw [List.length_map]; omega) (lcL_all fun d hd => ⟨_, rfl, by simp [wipeE, smithD], rfl⟩)
    have h5 := rises_in (F := fun s : Nat × Nat × Nat => nD s.1) (.inr rfl) G.ss (by omega) (fun a b r => by simp; omega)
    simp [h4, h5]
  · rw [ifS_eq, orB_eq, notB_eq, tE_bool (k := true) (by simp [isTy]), notB_eq, tE_bool (k := true) (all_true (F := smithD) (l := h.smiths) (seqI_tup rfl) (by omega) fun y hy => ⟨_, rfl, by simp [wipeE, smith_ok G hy]⟩)]
    rfl
theorem benches_ok : f_are_benches [nD h.halls, .tuple (h.benches.map nD)] = some (.bool true) := by
  have bl := G.bl
  refine fnF_rt (N := 3) ?_
  show g_are_benches [some (nD h.halls), some (.tuple (h.benches.map nD)), none] = _
  unfold g_are_benches
  rw [rtS_eq, andE_bool (k := true) (by simp [isTy]), if_pos rfl, andE_bool (k := true) (all_true (F := nD) (l := h.benches) (seqI_tup rfl) (by omega) fun y hy => ⟨_, rfl, by
    have := G.bg y hy
    simp [wipeE, among (x := y) (lo := 0) (hi := (h.halls : Int) - 1) (by omega) (by omega)]⟩), if_pos rfl]
  have h5 := rises_in (F := nD) (.inl rfl) G.bs (by omega) (fun a b r => by simp; omega)
  simp [h5]
theorem house_ok : f_is_house [houseD h] = some (.bool true) := by
  have t1 := G.t1
  have t3 := G.t3
  have h1 := G.h1
  have h6 := G.h6
  have w1 := G.w1
  have w6 := G.w6
  refine fnF_rt (N := 8) ?_
  show g_is_house [some (houseD h), none, none, none, none, none, none, none] = _
  unfold g_is_house
  rw [sqS_nx (ρ' := [some (houseD h), none, none, none, none, none, none, none]) (by
    rw [ifS_eq, orB_eq, notB_eq, tE_bool (k := true) (by simp [houseD, some_]), orB_eq, notB_eq, tE_bool (k := true) (by simp [houseD, among (x := h.teeth) (lo := 1) (hi := 3) (by omega) (by omega)]), notB_eq, tE_bool (k := true) (by simp [houseD, among (x := h.halls) (lo := 1) (hi := 6) (by omega) (by omega)])]
    rfl)]
  rw [sqS_nx (ρ' := [some (houseD h), some (nD h.teeth), some (nD h.halls), some (.tuple (h.wears.map keyD)), some (.tuple (h.doors.map doorD)), some (.tuple (h.benches.map nD)), some (.tuple (h.smiths.map smithD)), none]) rfl]
  rw [sqS_nx (ρ' := [some (houseD h), some (nD h.teeth), some (nD h.halls), some (.tuple (h.wears.map keyD)), some (.tuple (h.doors.map doorD)), some (.tuple (h.benches.map nD)), some (.tuple (h.smiths.map smithD)), none]) (by
    rw [ifS_eq, orB_eq, notB_eq, tE_bool (k := true) (by simp [some_ (ds := h.wears.map keyD) (lo := 1) (hi := 6) (by simp; omega) (by simp; omega)]), notB_eq, tE_bool (k := true) (all_true (F := keyD) (l := h.wears) (seqI_tup rfl) (by omega) fun y hy => ⟨_, rfl, by simp [wipeE, wear_ok G hy]⟩)]
    rfl)]
  rw [sqS_nx (ρ' := [some (houseD h), some (nD h.teeth), some (nD h.halls), some (.tuple (h.wears.map keyD)), some (.tuple (h.doors.map doorD)), some (.tuple (h.benches.map nD)), some (.tuple (h.smiths.map smithD)), none]) (by
    rw [ifS_eq, notB_eq, tE_bool (k := true) (by simp [doors_ok G])]
    rfl)]
  rw [rtS_eq, andE_bool (k := true) (by simp [benches_ok G]), if_pos rfl]
  simp [smiths_ok G]
theorem need_house_ok : f_need_house [houseD h] = some .none := by
  refine fnF_nx (N := 1) (ρ' := [some (houseD h)]) ?_
  show g_need_house [some (houseD h)] = _
  unfold g_need_house
  rw [ifS_eq, notB_eq, tE_bool (k := true) (by simp [house_ok G])]
  rfl
theorem hall_ok {x : Nat} (hx : x < h.halls) : f_is_hall [houseD h, nD x] = some (.bool true) := by
  refine fnF_rt (N := 2) ?_
  show g_is_hall [some (houseD h), some (nD x)] = _
  unfold g_is_hall
  simp [houseD, among (x := x) (lo := 0) (hi := (h.halls : Int) - 1) (by omega) (by omega)]
theorem stand_ok {s : Stand} (hs : GoodS h s) : f_is_stand [houseD h, standD s] = some (.bool true) := by
  have t3 := G.t3
  refine fnF_rt (N := 2) ?_
  show g_is_stand [some (houseD h), some (standD s)] = _
  unfold g_is_stand
  rw [rtS_eq, andE_bool (k := true) (by simp [standD, some_]), if_pos rfl, andE_bool (k := true) (by simp [standD, hall_ok G hs.hall]), if_pos rfl]
  simp [houseD, standD, key_by hs.len (by omega) hs.six]
theorem need_stand_ok {s : Stand} (hs : GoodS h s) : f_need_stand [houseD h, standD s] = some .none := by
  refine fnF_nx (N := 2) (ρ' := [some (houseD h), some (standD s)]) ?_
  show g_need_stand [some (houseD h), some (standD s)] = _
  unfold g_need_stand
  rw [sqS_nx (ρ' := [some (houseD h), some (standD s)]) (by simp [need_house_ok G]), ifS_eq, notB_eq, tE_bool (k := true) (by simp [stand_ok G hs])]
  rfl
theorem goal_ok {g : Nat × Box} (hg : g.1 < h.halls) (hb : GoodB h.teeth g.2) : f_is_goal [houseD h, goalD g] = some (.bool true) := by
  have t3 := G.t3
  refine fnF_rt (N := 2) ?_
  show g_is_goal [some (houseD h), some (goalD g)] = _
  unfold g_is_goal
  rw [rtS_eq, andE_bool (k := true) (by simp [goalD, some_]), if_pos rfl, andE_bool (k := true) (by simp [goalD, hall_ok G hg]), if_pos rfl]
  simp [houseD, goalD, box_by hb (by omega)]
theorem need_goal_ok {g : Nat × Box} (hg : g.1 < h.halls) (hb : GoodB h.teeth g.2) : f_need_goal [houseD h, goalD g] = some .none := by
  refine fnF_nx (N := 2) (ρ' := [some (houseD h), some (goalD g)]) ?_
  show g_need_goal [some (houseD h), some (goalD g)] = _
  unfold g_need_goal
  rw [ifS_eq, notB_eq, tE_bool (k := true) (by simp [goal_ok G hg hb])]
  rfl
theorem need_wish_ok {s : Stand} (hs : GoodS h s) {g : Nat × Box} (hg : g.1 < h.halls) (hb : GoodB h.teeth g.2) : f_need_wish [houseD h, standD s, goalD g] = some .none := by
  refine fnF_nx (N := 3) (ρ' := [some (houseD h), some (standD s), some (goalD g)]) ?_
  show g_need_wish [some (houseD h), some (standD s), some (goalD g)] = _
  unfold g_need_wish
  rw [sqS_nx (ρ' := [some (houseD h), some (standD s), some (goalD g)]) (by simp [need_stand_ok G hs])]
  simp [need_goal_ok G hg hb]
end
end Wk

set_option maxHeartbeats 2000000
namespace Wk
open PySem L2
/-! ### enumerations, searches -/
def enF {α : Type} (n : Nat) : List α → List (Nat × α)
  | [] => []
  | x :: r => (n, x) :: enF (n + 1) r
theorem enF_get {α : Type} : ∀ {l : List α} {n : Nat} {p : Nat × α}, p ∈ enF n l → n ≤ p.1 ∧ l[p.1 - n]? = some p.2
  | [], _, _, h => by cases h
  | x :: r, n, p, h => by
    rcases List.mem_cons.mp h with rfl | h
    · exact ⟨Nat.le_refl _, by simp⟩
    · obtain ⟨h1, h2⟩ := enF_get h
      refine ⟨by omega, ?_⟩
      rw [show p.1 - n = (p.1 - (n + 1)) + 1 by omega]
      exact h2
theorem enF_mem {α : Type} : ∀ {l : List α} {n i : Nat} {x : α}, l[i]? = some x → (n + i, x) ∈ enF n l
  | [], _, _, _, h => by simp at h
  | y :: r, n, 0, x, h => by
    simp at h
    subst h
    exact List.mem_cons_self
  | y :: r, n, i + 1, x, h => by
    have ih := enF_mem (n := n + 1) (i := i) (x := x) (l := r) (by simpa using h)
    rw [show n + (i + 1) = n + 1 + i by omega]
    exact List.mem_cons_of_mem _ ih
theorem enF_len {α : Type} : ∀ (l : List α) (n : Nat), (enF n l).length = l.length
  | [], _ => rfl
  | _ :: r, n => congrArg (· + 1) (enF_len r (n + 1))
theorem enF_snd {α : Type} : ∀ (l : List α) (n : Nat), (enF n l).map (·.2) = l
  | [], _ => rfl
  | x :: r, n => congrArg (x :: ·) (enF_snd r (n + 1))
theorem enF_find {α : Type} {q : α → Bool} : ∀ (l : List α) (n : Nat), ((enF n l).find? fun p => q p.2).map (·.2) = l.find? q
  | [], _ => rfl
  | x :: r, n => by
    show (((n, x) :: enF (n + 1) r).find? fun p => q p.2).map (·.2) = _
    rw [List.find?_cons, List.find?_cons]
    cases h : q x with
    | true => rfl
    | false => exact enF_find r (n + 1)
theorem enD_map {α : Type} {F : α → PyData} (l : List α) : enD (l.map F) = (enF 0 l).map fun p => .tuple [nD p.1, F p.2] := by
  have key : ∀ (l : List α) (n : Nat), zipD ((List.range' n l.length).map fun i => .int (i : Nat)) (l.map F) = (enF n l).map fun p => .tuple [nD p.1, F p.2] := by
    intro l
    induction l with
    | nil => intro n; rfl
    | cons x r ih =>
      intro n
      have h := ih (n + 1)
      show PyData.tuple [.int (n : Nat), F x] :: zipD ((List.range' (n + 1) r.length).map fun i => .int (i : Nat)) (r.map F) = _
      rw [h]
      rfl
  unfold enD intsD
  rw [List.length_map, List.range_eq_range']
  exact key l 0
theorem foL_search {α : Type} {p : PatF} {body : Es} {F : α → PyData} {q : α → Bool} {G : α → PyData} {J : DE → Prop} : ∀ {l : List α} {ρ : DE}, J ρ → (∀ x ∈ l, ∀ ρ, J ρ → ∃ ρ1, p (F x) ρ = some ρ1 ∧ ((q x = true ∧ body ρ1 = some (.rt (G x))) ∨ (q x = false ∧ ∃ ρ2, body ρ1 = some (.nx ρ2) ∧ J ρ2))) →
    (∃ x, l.find? q = some x ∧ foL p body (l.map F) ρ = some (.rt (G x))) ∨ (l.find? q = none ∧ ∃ ρ', J ρ' ∧ foL p body (l.map F) ρ = some (.nx ρ'))
  | [], ρ, h0, _ => .inr ⟨rfl, ρ, h0, rfl⟩
  | x :: l, ρ, h0, h => by
    obtain ⟨ρ1, h1, h2⟩ := h x List.mem_cons_self ρ h0
    rw [List.map_cons]
    unfold foL
    rw [h1]
    rcases h2 with ⟨hq, hb⟩ | ⟨hq, ρ2, hb, hj⟩
    · refine .inl ⟨x, by rw [List.find?_cons, hq], ?_⟩
      show (match body ρ1 with
        | none => none
        | some (.nx ρ2) => foL p body (l.map F) ρ2
        | some (.rt x) => some (.rt x)) = _
      rw [hb]
    · rw [List.find?_cons, hq]
      show _ ∨ (_ ∧ ∃ ρ', J ρ' ∧ (match body ρ1 with
        | none => none
        | some (.nx ρ2) => foL p body (l.map F) ρ2
        | some (.rt x) => some (.rt x)) = _)
      rcases foL_search (q := q) (G := G) (l := l) hj fun y hy => h y (List.mem_cons_of_mem _ hy) with ⟨y, h3, h4⟩ | ⟨h3, ρ', h4, h5⟩
      · refine .inl ⟨y, h3, ?_⟩
        show (match body ρ1 with
        | none => none
        | some (.nx ρ2) => foL p body (l.map F) ρ2
        | some (.rt x) => some (.rt x)) = _
        rw [hb]
        exact h4
      · exact .inr ⟨h3, ρ', h4, by rw [hb]; exact h5⟩
/-! ### what deeds do -/
def dAt (h : House) (hall l : Nat) : Option Door := h.doors.find? fun d => d.hall == hall && d.letter == l
def sAt (h : House) (hall : Nat) : Option (Nat × Nat × Nat) := h.smiths.find? fun s => s.1 == hall
def away (h : House) (hall : Nat) : Deed → Bool
  | .go l => (dAt h hall l).isNone
  | .file _ => !(h.benches.any fun b => b == hall)
  | .lift _ => (sAt h hall).isNone
def toH (h : House) (hall : Nat) : Deed → Nat
  | .go l => match dAt h hall l with
    | some d => d.to
    | none => 0
  | _ => hall
def lessD (h : House) : Deed → Nat → Int
  | .go l, t => (((h.wears.getD l []).getD t 0 : Nat) : Int)
  | .file u, t => if u = t then 1 else 0
  | .lift u, t => if u = t then -1 else 0
def gapAt (h : House) (hall : Nat) : Deed → Nat → Nat × Nat
  | .go l, t => match dAt h hall l with
    | some d => d.gaps.getD t (0, 0)
    | none => (0, 0)
  | .file u, t => if u = t then (1, 6) else (0, 6)
  | .lift u, t => if u = t then (match sAt h hall with
    | some s => (0, s.2.1 - 1)
    | none => (0, 6)) else (0, 6)
def fits (h : House) (hall : Nat) (d : Deed) (p : Nat × Nat) : Bool := decide ((gapAt h hall d p.1).1 ≤ p.2) && decide (p.2 ≤ (gapAt h hall d p.1).2)
def can (h : House) (s : Stand) (d : Deed) : Bool := !away h s.1 d && (enF 0 s.2).all (fits h s.1 d)
def done (h : House) (s : Stand) (d : Deed) : Stand := (toH h s.1 d, (enF 0 s.2).map fun p => ((p.2 : Int) - lessD h d p.1).toNat)
def price (h : House) (hall : Nat) : Deed → Nat
  | .lift _ => match sAt h hall with
    | some s => s.2.2
    | none => 0
  | _ => 0
def deeds (h : House) : List Deed := (List.range h.teeth).map .file ++ (List.range h.wears.length).map .go ++ (List.range h.teeth).map .lift
/-! ### the defs, one by one -/
theorem eqB_pair (a b c e : Nat) : eqB (.tuple [nD a, nD b]) (.tuple [nD c, nD e]) = some (a == c && b == e) := by
  show some (((a : Int) == (c : Int)) && (((b : Int) == (e : Int)) && true)) = _
  rw [Bool.and_true]
  congr 1
  congr 1 <;> (rw [Bool.eq_iff_iff]; simp; omega)
theorem ixN {ds : List PyData} {i : Nat} {d : PyData} (h : ds[i]? = some d) : ixD (.tuple ds) (nD i) = some d := ixD_tup h
section
variable {h : House}
@[simp] theorem ix_h0 : ixD (houseD h) (.int 0) = some (nD h.teeth) := rfl
@[simp] theorem ix_h1 : ixD (houseD h) (.int 1) = some (nD h.halls) := rfl
@[simp] theorem ix_h2 : ixD (houseD h) (.int 2) = some (.tuple (h.wears.map keyD)) := rfl
@[simp] theorem ix_h3 : ixD (houseD h) (.int 3) = some (.tuple (h.doors.map doorD)) := rfl
@[simp] theorem ix_h4 : ixD (houseD h) (.int 4) = some (.tuple (h.benches.map nD)) := rfl
@[simp] theorem ix_h5 : ixD (houseD h) (.int 5) = some (.tuple (h.smiths.map smithD)) := rfl
def dNo (h : House) (hall l : Nat) : Option (Nat × Door) := (enF 0 h.doors).find? fun p => p.2.hall == hall && p.2.letter == l
theorem dNo_at {hall l : Nat} {d : Door} (e : dAt h hall l = some d) : ∃ i, dNo h hall l = some (i, d) ∧ h.doors[i]? = some d := by
  have k := enF_find (q := fun d : Door => d.hall == hall && d.letter == l) h.doors 0
  unfold dAt at e
  rw [e] at k
  obtain ⟨⟨i, d'⟩, h1, h2⟩ := Option.map_eq_some_iff.mp k
  have h2 : d' = d := h2
  subst h2
  have h3 := enF_get (List.mem_of_find?_eq_some h1)
  exact ⟨i, h1, by simpa using h3.2⟩
theorem dNo_none {hall l : Nat} (e : dAt h hall l = none) : dNo h hall l = none := by
  have k := enF_find (q := fun d : Door => d.hall == hall && d.letter == l) h.doors 0
  unfold dAt at e
  rw [e] at k
  exact Option.map_eq_none_iff.mp k
theorem F_door_at (hall l : Nat) : f_door_at [houseD h, nD hall, nD l] = some (match dNo h hall l with | some p => nD p.1 | none => .none) := by
  have hs : soO (cE (.int 2)) = fun _ => some (some 2) := rfl
  have key := foL_search (p := tpP (csP (nmP 3) (csP (nmP 4) nlP))) (body := ifS (cmp2 eqB (slE (vE 4) noO (soO (cE (.int 2)))) (tupE (consE (vE 1) (consE (vE 2) nilE)))) (rtS (vE 3)) skS)
    (F := fun p : Nat × Door => PyData.tuple [nD p.1, doorD p.2]) (q := fun p => p.2.hall == hall && p.2.letter == l) (G := fun p => nD p.1)
    (J := fun ρ => ∃ a b, ρ = [some (houseD h), some (nD hall), some (nD l), a, b]) (l := enF 0 h.doors) (ρ := [some (houseD h), some (nD hall), some (nD l), none, none]) ⟨none, none, rfl⟩ (by
      rintro ⟨i, d⟩ _ ρ ⟨a, b, rfl⟩
      refine ⟨_, rfl, ?_⟩
      have hc : cutG [nD d.hall, nD d.letter, nD d.to, boxD d.gaps] none (some 2) = [nD d.hall, nD d.letter] := cutG_to _ 2
      have e : ifS (cmp2 eqB (slE (vE 4) noO (soO (cE (.int 2)))) (tupE (consE (vE 1) (consE (vE 2) nilE)))) (rtS (vE 3)) skS [some (houseD h), some (nD hall), some (nD l), some (nD i), some (doorD d)] = if (d.hall == hall && d.letter == l) = true then some (.rt (nD i)) else some (.nx [some (houseD h), some (nD hall), some (nD l), some (nD i), some (doorD d)]) := by
        simp [hs, doorD, hc, tupF_of, eqB_pair]
      cases hq : (d.hall == hall && d.letter == l) with
      | true => exact .inl ⟨rfl, by rw [hq, if_pos rfl] at e; exact e⟩
      | false => exact .inr ⟨rfl, _, by rw [hq, if_neg Bool.false_ne_true] at e; exact e, some (nD i), some (doorD d), rfl⟩)
  have e0 : enI (op2 ixD (vE 0) (cE (.int 3))) [some (houseD h), some (nD hall), some (nD l), none, none] = some ((enF 0 h.doors).map fun p => .tuple [nD p.1, doorD p.2]) := by
    rw [← enD_map]
    exact enI_tup rfl
  unfold dNo
  rcases key with ⟨x, h1, h2⟩ | ⟨h1, ρ', _, h2⟩
  · rw [h1]
    refine fnF_rt (N := 5) ?_
    show g_door_at [some (houseD h), some (nD hall), some (nD l), none, none] = _
    unfold g_door_at
    exact sqS_rt (by rw [foS_eq, e0]; exact h2)
  · rw [h1]
    refine fnF_rt (N := 5) ?_
    show g_door_at [some (houseD h), some (nD hall), some (nD l), none, none] = _
    unfold g_door_at
    rw [sqS_nx (ρ' := ρ') (by rw [foS_eq, e0]; exact h2)]
    rfl
theorem F_smith_at (hall : Nat) : f_smith_at [houseD h, nD hall] = some (match sAt h hall with | some s => smithD s | none => .none) := by
  have key := foL_search (p := nmP 2) (body := ifS (cmp2 eqB (op2 ixD (vE 2) (cE (.int 0))) (vE 1)) (rtS (vE 2)) skS)
    (F := smithD) (q := fun s => s.1 == hall) (G := smithD)
    (J := fun ρ => ∃ a, ρ = [some (houseD h), some (nD hall), a]) (l := h.smiths) (ρ := [some (houseD h), some (nD hall), none]) ⟨none, rfl⟩ (by
      rintro s _ ρ ⟨a, rfl⟩
      refine ⟨_, rfl, ?_⟩
      have e : ifS (cmp2 eqB (op2 ixD (vE 2) (cE (.int 0))) (vE 1)) (rtS (vE 2)) skS [some (houseD h), some (nD hall), some (smithD s)] = if (s.1 == hall) = true then some (.rt (smithD s)) else some (.nx [some (houseD h), some (nD hall), some (smithD s)]) := by
        simp [smithD]
        by_cases hh : s.1 = hall <;> simp [hh] <;> omega
      cases hq : s.1 == hall with
      | true => exact .inl ⟨rfl, by rw [hq, if_pos rfl] at e; exact e⟩
      | false => exact .inr ⟨rfl, _, by rw [hq, if_neg Bool.false_ne_true] at e; exact e, some (smithD s), rfl⟩)
  have e0 : seqI (op2 ixD (vE 0) (cE (.int 5))) [some (houseD h), some (nD hall), none] = some (h.smiths.map smithD) := seqI_tup rfl
  unfold sAt
  rcases key with ⟨x, h1, h2⟩ | ⟨h1, ρ', _, h2⟩
  · rw [h1]
    refine fnF_rt (N := 3) ?_
    show g_smith_at [some (houseD h), some (nD hall), none] = _
    unfold g_smith_at
    exact sqS_rt (by rw [foS_eq, e0]; exact h2)
  · rw [h1]
    refine fnF_rt (N := 3) ?_
    show g_smith_at [some (houseD h), some (nD hall), none] = _
    unfold g_smith_at
    rw [sqS_nx (ρ' := ρ') (by rw [foS_eq, e0]; exact h2)]
    rfl
theorem any_nat (l : List Nat) (x : Nat) : ((l.map nD).any fun y => PyData.eqv y (nD x)) = l.any fun b => b == x := by
  rw [List.any_map]
  congr 1
  funext b
  show ((b : Int) == (x : Int)) = _
  rw [Bool.eq_iff_iff]
  simp
  omega
theorem inB_nat (l : List Nat) (x : Nat) : inB (nD x) (.tuple (l.map nD)) = some (l.any fun b => b == x) := by
  show (if PyData.depth (nD x) ≤ 8 then some ((l.map nD).any fun y => PyData.eqv y (nD x)) else none) = _
  rw [if_pos (by show 0 ≤ 8; decide), any_nat]
theorem sfl : ("file" : Str) ≠ "go" := by decide
theorem slg : ("lift" : Str) ≠ "go" := by decide
theorem slf : ("lift" : Str) ≠ "file" := by decide
theorem F_is_away (hall : Nat) (d : Deed) : f_is_away [houseD h, nD hall, deedD d] = some (.bool (away h hall d)) := by
  refine fnF_rt (N := 3) ?_
  show g_is_away [some (houseD h), some (nD hall), some (deedD d)] = _
  unfold g_is_away
  cases d with
  | go l =>
    refine sqS_rt ?_
    simp [deedD, F_door_at]
    cases e : dAt h hall l with
    | none => simp [dNo_none e, away, e]
    | some d =>
      obtain ⟨i, h1, h2⟩ := dNo_at e
      simp [h1, away, e]
  | file t =>
    rw [sqS_nx (ρ' := [some (houseD h), some (nD hall), some (deedD (.file t))]) (by simp [deedD, sfl])]
    simp [deedD, inB_nat, away]
  | lift t =>
    rw [sqS_nx (ρ' := [some (houseD h), some (nD hall), some (deedD (.lift t))]) (by simp [deedD, slg])]
    simp [deedD, slf, F_smith_at, away]
    cases e : sAt h hall <;> simp [smithD]
theorem F_hall_behind {hall : Nat} {d : Deed} (na : away h hall d = false) : f_hall_behind [houseD h, nD hall, deedD d] = some (nD (toH h hall d)) := by
  refine fnF_rt (N := 3) ?_
  show g_hall_behind [some (houseD h), some (nD hall), some (deedD d)] = _
  unfold g_hall_behind
  cases d with
  | go l =>
    cases e : dAt h hall l with
    | none => simp [away, e] at na
    | some d =>
      obtain ⟨i, h1, h2⟩ := dNo_at e
      have h3 : ixD (.tuple (h.doors.map doorD)) (nD i) = some (doorD d) := ixN (by rw [List.getElem?_map, h2]; rfl)
      simp [deedD, F_door_at, h1, h3, doorD, toH, e]
  | file t => simp [deedD, sfl, toH]
  | lift t => simp [deedD, slg, toH]
theorem F_wear_of (G : Good h) {d : Deed} {t : Nat} (hd : GoodD h d) (ht : t < h.teeth) : f_wear_of [houseD h, deedD d, nD t] = some (.int (lessD h d t)) := by
  refine fnF_rt (N := 3) ?_
  show g_wear_of [some (houseD h), some (deedD d), some (nD t)] = _
  unfold g_wear_of
  cases d with
  | go l =>
    have hl : l < h.wears.length := hd
    have hw : h.wears[l]? = some h.wears[l] := List.getElem?_eq_getElem hl
    have hwl := (G.wl _ (List.getElem_mem hl)).1
    have h3 : ixD (.tuple (h.wears.map keyD)) (nD l) = some (keyD h.wears[l]) := ixN (by rw [List.getElem?_map, hw]; rfl)
    have h4 : ixD (keyD h.wears[l]) (nD t) = some (nD h.wears[l][t]) := ixN (by rw [List.getElem?_map, List.getElem?_eq_getElem (by omega)]; rfl)
    refine sqS_rt ?_
    have h5 : h.wears[l][t]? = some h.wears[l][t] := List.getElem?_eq_getElem (by omega)
    simp [deedD, h3, h4, lessD, hw, h5]
  | file u =>
    rw [sqS_nx (ρ' := [some (houseD h), some (deedD (.file u)), some (nD t)]) (by simp [deedD, sfl])]
    simp [deedD, lessD]
    by_cases hh : u = t <;> simp [hh] <;> omega
  | lift u =>
    rw [sqS_nx (ρ' := [some (houseD h), some (deedD (.lift u)), some (nD t)]) (by simp [deedD, slg])]
    simp [deedD, lessD, slf]
    by_cases hh : u = t <;> simp [hh] <;> omega
theorem F_gap_of (G : Good h) {hall : Nat} {d : Deed} {t : Nat} (na : away h hall d = false) (ht : t < h.teeth) : f_gap_of [houseD h, nD hall, deedD d, nD t] = some (gapD (gapAt h hall d t)) := by
  refine fnF_rt (N := 4) ?_
  show g_gap_of [some (houseD h), some (nD hall), some (deedD d), some (nD t)] = _
  unfold g_gap_of
  cases d with
  | go l =>
    cases e : dAt h hall l with
    | none => simp [away, e] at na
    | some d =>
      obtain ⟨i, h1, h2⟩ := dNo_at e
      have h3 : ixD (.tuple (h.doors.map doorD)) (nD i) = some (doorD d) := ixN (by rw [List.getElem?_map, h2]; rfl)
      have hg := (G.dg d (List.mem_of_getElem? h2)).2.2.2.1
      have h4 : ixD (boxD d.gaps) (nD t) = some (gapD d.gaps[t]) := ixN (by rw [List.getElem?_map, List.getElem?_eq_getElem (by omega)]; rfl)
      refine sqS_rt ?_
      simp [deedD, F_door_at, h1, h3, doorD, h4, gapAt, e]
      rw [List.getElem?_eq_getElem (by omega)]
      rfl
  | file u =>
    rw [sqS_nx (ρ' := [some (houseD h), some (nD hall), some (deedD (.file u)), some (nD t)]) (by simp [deedD, sfl])]
    by_cases hh : u = t
    · subst hh
      rw [sqS_nx (ρ' := [some (houseD h), some (nD hall), some (deedD (.file u)), some (nD u)]) (by simp [deedD])]
      simp [deedD, tupF_of, gapAt, gapD]
    · refine sqS_rt ?_
      have : ¬ (u : Int) = (t : Int) := by omega
      simp [deedD, this, tupF_of, gapAt, hh, gapD]
  | lift u =>
    rw [sqS_nx (ρ' := [some (houseD h), some (nD hall), some (deedD (.lift u)), some (nD t)]) (by simp [deedD, slg])]
    cases e : sAt h hall with
    | none => simp [away, e] at na
    | some s =>
      have hs := G.sg s (List.mem_of_find?_eq_some e)
      by_cases hh : u = t
      · subst hh
        rw [sqS_nx (ρ' := [some (houseD h), some (nD hall), some (deedD (.lift u)), some (nD u)]) (by simp [deedD])]
        have e1 : (s.2.1 : Int) - 1 = ((s.2.1 - 1 : Nat) : Int) := by omega
        simp [deedD, slf, F_smith_at, e, smithD, tupF_of, gapAt, gapD, e1]
      · refine sqS_rt ?_
        have : ¬ (u : Int) = (t : Int) := by omega
        simp [deedD, this, tupF_of, gapAt, hh, gapD]
theorem bar_ok (G : Good h) {s : Stand} (hs : GoodS h s) (d : Deed) : ∃ x, f_bar_of [houseD h, standD s, deedD d] = some x ∧ isN x = can h s d ∧ isL x = false := by
  obtain ⟨hall, key⟩ := s
  have hl : key.length = h.teeth := hs.len
  have s0 : sqS (asS (tpP (csP (nmP 3) (csP (nmP 4) nlP))) (vE 1)) (sqS (ifS (tE (callE f_is_away (consE (vE 0) (consE (vE 3) (consE (vE 2) nilE))))) (rtS (tupE (consE (cE (.str "away")) (consE (cE .none) nilE)))) skS) (sqS (foS (enI (vE 4)) (tpP (csP (nmP 5) (csP (nmP 6) nlP))) (sqS (asS (tpP (csP (nmP 7) (csP (nmP 8) nlP))) (callE f_gap_of (consE (vE 0) (consE (vE 3) (consE (vE 2) (consE (vE 5) nilE)))))) (sqS (ifS (cmp2 ltB (vE 6) (vE 7)) (rtS (tupE (consE (cE (.str "low")) (consE (vE 5) nilE)))) skS) (ifS (cmp2 gtB (vE 6) (vE 8)) (rtS (tupE (consE (cE (.str "high")) (consE (vE 5) nilE)))) skS)))) (rtS (cE .none)))) = g_bar_of := rfl
  have start : ∀ x : PyData, g_bar_of [some (houseD h), some (standD (hall, key)), some (deedD d), none, none, none, none, none, none] = some (.rt x) → f_bar_of [houseD h, standD (hall, key), deedD d] = some x := fun x hx => fnF_rt (N := 9) hx
  rw [← s0] at start
  have ρ1 : asS (tpP (csP (nmP 3) (csP (nmP 4) nlP))) (vE 1) [some (houseD h), some (standD (hall, key)), some (deedD d), none, none, none, none, none, none] = some (.nx [some (houseD h), some (standD (hall, key)), some (deedD d), some (nD hall), some (keyD key), none, none, none, none]) := rfl
  cases na : away h hall d with
  | true =>
    refine ⟨.tuple [.str "away", .none], start _ ?_, by simp [can, na], rfl⟩
    rw [sqS_nx ρ1]
    refine sqS_rt ?_
    rw [ifS_eq, tE_bool (k := true) (by simp [F_is_away, na])]
    rfl
  | false =>
    have e1 : ifS (tE (callE f_is_away (consE (vE 0) (consE (vE 3) (consE (vE 2) nilE))))) (rtS (tupE (consE (cE (.str "away")) (consE (cE .none) nilE)))) skS [some (houseD h), some (standD (hall, key)), some (deedD d), some (nD hall), some (keyD key), none, none, none, none] = some (.nx [some (houseD h), some (standD (hall, key)), some (deedD d), some (nD hall), some (keyD key), none, none, none, none]) := by
      rw [ifS_eq, tE_bool (k := false) (by simp [F_is_away, na])]
      rfl
    have key' := foL_search (p := tpP (csP (nmP 5) (csP (nmP 6) nlP))) (body := (sqS (asS (tpP (csP (nmP 7) (csP (nmP 8) nlP))) (callE f_gap_of (consE (vE 0) (consE (vE 3) (consE (vE 2) (consE (vE 5) nilE)))))) (sqS (ifS (cmp2 ltB (vE 6) (vE 7)) (rtS (tupE (consE (cE (.str "low")) (consE (vE 5) nilE)))) skS) (ifS (cmp2 gtB (vE 6) (vE 8)) (rtS (tupE (consE (cE (.str "high")) (consE (vE 5) nilE)))) skS))))
      (F := fun p : Nat × Nat => PyData.tuple [nD p.1, nD p.2]) (q := fun p => !fits h hall d p) (G := fun p => if p.2 < (gapAt h hall d p.1).1 then .tuple [.str "low", nD p.1] else .tuple [.str "high", nD p.1])
      (J := fun ρ => ∃ a b c e, ρ = [some (houseD h), some (standD (hall, key)), some (deedD d), some (nD hall), some (keyD key), a, b, c, e]) (l := enF 0 key) (ρ := [some (houseD h), some (standD (hall, key)), some (deedD d), some (nD hall), some (keyD key), none, none, none, none]) ⟨none, none, none, none, rfl⟩ (by
        rintro ⟨t, x⟩ hm ρ ⟨a, b, c, e, rfl⟩
        have ht : t < h.teeth := by
          have := (List.getElem?_eq_some_iff.mp (enF_get hm).2).1
          rw [← hl]
          simpa using this
        have g1 := F_gap_of G na ht
        refine ⟨_, rfl, ?_⟩
        have q1 : asS (tpP (csP (nmP 7) (csP (nmP 8) nlP))) (callE f_gap_of (consE (vE 0) (consE (vE 3) (consE (vE 2) (consE (vE 5) nilE))))) [some (houseD h), some (standD (hall, key)), some (deedD d), some (nD hall), some (keyD key), some (nD t), some (nD x), c, e] = some (.nx [some (houseD h), some (standD (hall, key)), some (deedD d), some (nD hall), some (keyD key), some (nD t), some (nD x), some (nD (gapAt h hall d t).1), some (nD (gapAt h hall d t).2)]) := by
          simp [g1, gapD]
        rw [show (([some (houseD h), some (standD (hall, key)), some (deedD d), some (nD hall), some (keyD key), a, b, c, e] : DE).set 5 (some (nD t))).set 6 (some (nD x)) = [some (houseD h), some (standD (hall, key)), some (deedD d), some (nD hall), some (keyD key), some (nD t), some (nD x), c, e] from rfl]
        rw [sqS_nx q1]
        by_cases hlow : x < (gapAt h hall d t).1
        · refine .inl ⟨by simp [fits]; omega, sqS_rt ?_⟩
          have : (x : Int) < ((gapAt h hall d t).1 : Int) := by omega
          simp [this, tupF_of, hlow]
        · have q2 : ¬ (x : Int) < ((gapAt h hall d t).1 : Int) := by omega
          rw [sqS_nx (ρ' := [some (houseD h), some (standD (hall, key)), some (deedD d), some (nD hall), some (keyD key), some (nD t), some (nD x), some (nD (gapAt h hall d t).1), some (nD (gapAt h hall d t).2)]) (by simp [q2])]
          by_cases hhigh : (gapAt h hall d t).2 < x
          · refine .inl ⟨by simp [fits]; omega, ?_⟩
            have : ((gapAt h hall d t).2 : Int) < (x : Int) := by omega
            simp [this, tupF_of, hlow]
          · refine .inr ⟨by simp [fits]; omega, [some (houseD h), some (standD (hall, key)), some (deedD d), some (nD hall), some (keyD key), some (nD t), some (nD x), some (nD (gapAt h hall d t).1), some (nD (gapAt h hall d t).2)], ?_, some (nD t), some (nD x), some (nD (gapAt h hall d t).1), some (nD (gapAt h hall d t).2), rfl⟩
            have : ¬ ((gapAt h hall d t).2 : Int) < (x : Int) := by omega
            simp [this])
    have e2 : enI (vE 4) [some (houseD h), some (standD (hall, key)), some (deedD d), some (nD hall), some (keyD key), none, none, none, none] = some ((enF 0 key).map fun p => .tuple [nD p.1, nD p.2]) := by
      rw [← enD_map]
      exact enI_tup rfl
    rcases key' with ⟨p, h1, h2⟩ | ⟨h1, ρ', _, h2⟩
    · refine ⟨if p.2 < (gapAt h hall d p.1).1 then .tuple [.str "low", nD p.1] else .tuple [.str "high", nD p.1], start _ ?_, ?_, ?_⟩
      · rw [sqS_nx ρ1, sqS_nx e1]
        refine sqS_rt ?_
        rw [foS_eq, e2]
        exact h2
      · have hp : fits h hall d p = false := by
          have := List.find?_some h1
          simpa using this
        have : (enF 0 key).all (fits h hall d) = false := List.all_eq_false.mpr ⟨p, List.mem_of_find?_eq_some h1, by rw [hp]; decide⟩
        simp only [can, na, this]
        split <;> rfl
      · show isL (if p.2 < (gapAt h hall d p.1).1 then _ else _) = false
        split <;> rfl
    · refine ⟨.none, start _ ?_, ?_, rfl⟩
      · rw [sqS_nx ρ1, sqS_nx e1, sqS_nx (ρ' := ρ') (by rw [foS_eq, e2]; exact h2)]
        rfl
      · have : (enF 0 key).all (fits h hall d) = true := List.all_eq_true.mpr fun p hp => by
          have := List.find?_eq_none.mp h1 p hp
          simpa using this
        simp [can, na, this]
theorem done_ok (G : Good h) {s : Stand} (hs : GoodS h s) {d : Deed} (hd : GoodD h d) (na : away h s.1 d = false) : f_done_by [houseD h, standD s, deedD d] = some (standD (done h s d)) := by
  obtain ⟨hall, key⟩ := s
  have hl : key.length = h.teeth := hs.len
  have t3 := G.t3
  refine fnF_rt (N := 8) ?_
  show g_done_by [some (houseD h), some (standD (hall, key)), some (deedD d), none, none, none, none, none] = _
  unfold g_done_by
  rw [sqS_nx (ρ' := [some (houseD h), some (standD (hall, key)), some (deedD d), some (nD hall), some (keyD key), none, none, none]) rfl]
  have e0 : lcE (enI (vE 4)) (tpP (csP (nmP 6) (csP (nmP 7) nlP))) yesB (callE maxF (consE (cE (.int 0)) (consE (op2 subD (vE 7) (callE f_wear_of (consE (vE 0) (consE (vE 2) (consE (vE 6) nilE))))) nilE))) [6, 7] [some (houseD h), some (standD (hall, key)), some (deedD d), some (nD hall), some (keyD key), none, none, none] = some (.list ((enF 0 key).map fun p => nD ((p.2 : Int) - lessD h d p.1).toNat)) := by
    refine lcE_some (ds := (enF 0 key).map fun p => .tuple [nD p.1, nD p.2]) (by rw [← enD_map]; exact enI_tup rfl) (by rw [List.length_map, enF_len]; omega) (lcL_all fun p hp => ⟨_, rfl, ?_, rfl⟩)
    have ht : p.1 < h.teeth := by
      have := (List.getElem?_eq_some_iff.mp (enF_get hp).2).1
      rw [← hl]
      simpa using this
    simp [wipeE, F_wear_of G hd ht]
    split <;> omega
  rw [sqS_nx (ρ' := [some (houseD h), some (standD (hall, key)), some (deedD d), some (nD hall), some (keyD key), some (keyD (done h (hall, key) d).2), none, none]) (by
    rw [stS_eq, callE_eq, consE_eq, e0]
    simp [done, keyD])]
  simp [F_hall_behind na, tupF_of, standD, done, keyD]
end
end Wk

set_option maxHeartbeats 2000000
namespace Wk
open PySem L2
def run (h : House) (s : Stand) : List Deed → Option Stand
  | [] => some s
  | d :: r => if can h s d then run h (done h s d) r else none
def coins (h : House) (hall : Nat) : List Deed → Nat
  | [] => 0
  | d :: r => price h hall d + coins h (toH h hall d) r
def nexts (h : House) (s : Stand) : List (Deed × Stand) := ((deeds h).filter (can h s)).map fun d => (d, done h s d)
def hasKey (b : Box) (k : List Nat) : Bool := (b.zip k).all fun p => decide (p.1.1 ≤ p.2) && decide (p.2 ≤ p.1.2)
def isThere (g : Nat × Box) (s : Stand) : Bool := s.1 == g.1 && hasKey g.2 s.2
theorem foL_nx {p : PatF} {body : Es} {d : PyData} {ds : List PyData} {ρ ρ1 ρ2 : DE} (hp : p d ρ = some ρ1) (hb : body ρ1 = some (.nx ρ2)) : foL p body (d :: ds) ρ = foL p body ds ρ2 := by
  rw [foL]
  rw [hp]
  show (match body ρ1 with
    | none => none
    | some (Res.nx ρ2) => foL p body ds ρ2
    | some (Res.rt x) => some (Res.rt x)) = _
  rw [hb]
section
variable {h : House}
theorem can_away {s : Stand} {d : Deed} (c : can h s d = true) : away h s.1 d = false := by
  unfold can at c
  rw [Bool.and_eq_true] at c
  simpa using c.1
theorem dAt_mem {hall l : Nat} {d : Door} (e : dAt h hall l = some d) : d ∈ h.doors ∧ d.hall = hall ∧ d.letter = l := by
  refine ⟨List.mem_of_find?_eq_some e, ?_⟩
  have := List.find?_some e
  simpa using this
theorem to_good (G : Good h) {hall : Nat} (hh : hall < h.halls) {d : Deed} (na : away h hall d = false) : toH h hall d < h.halls := by
  cases d with
  | go l =>
    cases e : dAt h hall l with
    | none => simp [away, e] at na
    | some d =>
      have := (G.dg d (dAt_mem e).1).2.2.1
      simp only [toH, e]
      exact this
  | file t => exact hh
  | lift t => exact hh
theorem done_good (G : Good h) {s : Stand} (hs : GoodS h s) {d : Deed} (c : can h s d = true) : GoodS h (done h s d) := by
  refine ⟨to_good G hs.hall (can_away c), by simp [done, enF_len, hs.len], fun x hx => ?_⟩
  obtain ⟨p, hp, rfl⟩ := List.mem_map.mp hx
  have hm := (enF_get hp).2
  have h6 := hs.six p.2 (List.mem_of_getElem? hm)
  have na := can_away c
  unfold can at c
  rw [Bool.and_eq_true] at c
  have f := List.all_eq_true.mp c.2 p hp
  unfold fits at f
  rw [Bool.and_eq_true, decide_eq_true_eq, decide_eq_true_eq] at f
  cases d with
  | go l =>
    simp only [lessD]
    omega
  | file u =>
    simp only [lessD]
    split <;> omega
  | lift u =>
    simp only [lessD]
    split
    · rename_i hu
      cases e : sAt h s.1 with
      | none => simp [away, e] at na
      | some q =>
        have hq := G.sg q (List.mem_of_find?_eq_some e)
        simp only [gapAt, hu, e, if_true] at f
        omega
    · omega
theorem deed_ok (G : Good h) {d : Deed} (hd : GoodD h d) : f_is_deed [houseD h, deedD d] = some (.bool true) := by
  have t1 := G.t1
  have w1 := G.w1
  refine fnF_rt (N := 2) ?_
  show g_is_deed [some (houseD h), some (deedD d)] = _
  unfold g_is_deed
  cases d with
  | go l =>
    have hl : l < h.wears.length := hd
    rw [sqS_nx (ρ' := [some (houseD h), some (deedD (.go l))]) (by
      rw [ifS_eq, orB_eq, notB_eq, tE_bool (k := true) (by simp [deedD, some_]), orB_eq, notB_eq, tE_bE]
      rfl)]
    simp [deedD, among (x := l) (lo := 0) (hi := (h.wears.length : Int) - 1) (by omega) (by omega)]
  | file t =>
    have hl : t < h.teeth := hd
    rw [sqS_nx (ρ' := [some (houseD h), some (deedD (.file t))]) (by
      rw [ifS_eq, orB_eq, notB_eq, tE_bool (k := true) (by simp [deedD, some_]), orB_eq, notB_eq, tE_bE]
      rfl)]
    simp [deedD, sfl, among (x := t) (lo := 0) (hi := (h.teeth : Int) - 1) (by omega) (by omega)]
  | lift t =>
    have hl : t < h.teeth := hd
    rw [sqS_nx (ρ' := [some (houseD h), some (deedD (.lift t))]) (by
      rw [ifS_eq, orB_eq, notB_eq, tE_bool (k := true) (by simp [deedD, some_]), orB_eq, notB_eq, tE_bE]
      rfl)]
    simp [deedD, slg, among (x := t) (lo := 0) (hi := (h.teeth : Int) - 1) (by omega) (by omega)]
theorem need_row_ok (G : Good h) {r : List Deed} (hr : ∀ d ∈ r, GoodD h d) (hl : r.length ≤ 10000) : f_need_row [houseD h, rowD r] = some .none := by
  refine fnF_nx (N := 3) (ρ' := [some (houseD h), some (rowD r), none]) ?_
  show g_need_row [some (houseD h), some (rowD r), none] = _
  unfold g_need_row
  rw [ifS_eq, orB_eq, notB_eq, tE_bE, notB_eq, tE_bool (k := true) (all_true (F := deedD) (l := r) (seqI_tup rfl) hl fun y hy => ⟨_, rfl, by simp [wipeE, deed_ok G (hr y hy)]⟩)]
  rfl
theorem run_all {r : List Deed} {s s' : Stand} (e : run h s r = some s') (G : Good h) (hs : GoodS h s) : GoodS h s' := by
  induction r generalizing s with
  | nil =>
    cases e
    exact hs
  | cons d r ih =>
    unfold run at e
    split at e
    · rename_i c
      exact ih e (done_good G hs c)
    · cases e
theorem bar_none (G : Good h) {s : Stand} (hs : GoodS h s) {d : Deed} (c : can h s d = true) : f_bar_of [houseD h, standD s, deedD d] = some .none := by
  obtain ⟨x, h1, h2, h3⟩ := bar_ok G hs d
  rw [h1]
  cases x <;> first | rfl | (rw [c] at h2; cases h2)
theorem bar_at_ok (G : Good h) {r : List Deed} {s s' : Stand} (hs : GoodS h s) (hr : ∀ d ∈ r, GoodD h d) (e : run h s r = some s') : f_bar_at [houseD h, standD s, rowD r] = some .none := by
  have key : ∀ (r : List Deed) (s : Stand) (n : Nat) (a b c R : Option PyData), GoodS h s → (∀ d ∈ r, GoodD h d) → run h s r = some s' → ∃ ρ', foL (tpP (csP (nmP 3) (csP (nmP 4) nlP))) (sqS (stS 5 (callE f_bar_of (consE (vE 0) (consE (vE 1) (consE (vE 4) nilE))))) (sqS (ifS (notNE (vE 5)) (rtS (op2 addD (tupE (consE (vE 3) nilE)) (vE 5))) skS) (stS 1 (callE f_done_by (consE (vE 0) (consE (vE 1) (consE (vE 4) nilE))))))) ((enF n r).map fun p => .tuple [nD p.1, deedD p.2]) [some (houseD h), some (standD s), R, a, b, c] = some (.nx ρ') := by
    intro r
    induction r with
    | nil => intro s n a b c R _ _ _; exact ⟨_, rfl⟩
    | cons d r ih =>
      intro s n a b c R hs hr e
      unfold run at e
      split at e
      · rename_i hc
        have hd := hr d List.mem_cons_self
        obtain ⟨ρ', h1⟩ := ih (done h s d) (n + 1) (some (nD n)) (some (deedD d)) (some .none) R (done_good G hs hc) (fun x hx => hr x (List.mem_cons_of_mem _ hx)) e
        refine ⟨ρ', ?_⟩
        show foL _ _ (.tuple [nD n, deedD d] :: (enF (n + 1) r).map fun p => .tuple [nD p.1, deedD p.2]) _ = _
        rw [foL_nx (ρ1 := [some (houseD h), some (standD s), R, some (nD n), some (deedD d), c]) (ρ2 := [some (houseD h), some (standD (done h s d)), R, some (nD n), some (deedD d), some .none]) rfl (by
          rw [sqS_nx (ρ' := [some (houseD h), some (standD s), R, some (nD n), some (deedD d), some .none]) (by simp [bar_none G hs hc]), sqS_nx (ρ' := [some (houseD h), some (standD s), R, some (nD n), some (deedD d), some .none]) (by simp)]
          simp [done_ok G hs hd (can_away hc)])]
        exact h1
      · cases e
  obtain ⟨ρ', h1⟩ := key r s 0 none none none (some (rowD r)) hs hr e
  refine fnF_rt (N := 6) ?_
  show g_bar_at [some (houseD h), some (standD s), some (rowD r), none, none, none] = _
  unfold g_bar_at
  have e0 : enI (vE 2) [some (houseD h), some (standD s), some (rowD r), none, none, none] = some ((enF 0 r).map fun p => .tuple [nD p.1, deedD p.2]) := by
    rw [← enD_map]
    exact enI_tup rfl
  rw [sqS_nx (ρ' := ρ') (by rw [foS_eq, e0]; exact h1)]
  rfl
theorem behind_ok (G : Good h) {r : List Deed} {s s' : Stand} (hs : GoodS h s) (hr : ∀ d ∈ r, GoodD h d) (e : run h s r = some s') : f_behind_by [houseD h, standD s, rowD r] = some (standD s') := by
  have key : ∀ (r : List Deed) (s : Stand) (a R : Option PyData), GoodS h s → (∀ d ∈ r, GoodD h d) → run h s r = some s' → ∃ b, foL (nmP 3) (stS 1 (callE f_done_by (consE (vE 0) (consE (vE 1) (consE (vE 3) nilE))))) (r.map deedD) [some (houseD h), some (standD s), R, a] = some (.nx [some (houseD h), some (standD s'), R, b]) := by
    intro r
    induction r with
    | nil =>
      intro s a R _ _ e
      cases e
      exact ⟨a, rfl⟩
    | cons d r ih =>
      intro s a R hs hr e
      unfold run at e
      split at e
      · rename_i hc
        have hd := hr d List.mem_cons_self
        obtain ⟨b, h1⟩ := ih (done h s d) (some (deedD d)) R (done_good G hs hc) (fun x hx => hr x (List.mem_cons_of_mem _ hx)) e
        refine ⟨b, ?_⟩
        rw [List.map_cons, foL_nx (ρ1 := [some (houseD h), some (standD s), R, some (deedD d)]) (ρ2 := [some (houseD h), some (standD (done h s d)), R, some (deedD d)]) rfl (by simp [done_ok G hs hd (can_away hc)])]
        exact h1
      · cases e
  obtain ⟨b, h1⟩ := key r s none (some (rowD r)) hs hr e
  refine fnF_rt (N := 4) ?_
  show g_behind_by [some (houseD h), some (standD s), some (rowD r), none] = _
  unfold g_behind_by
  rw [sqS_nx (ρ' := [some (houseD h), some (standD s'), some (rowD r), b]) (by rw [foS_eq, seqI_tup rfl]; exact h1)]
  rfl
theorem price_is {hall : Nat} {d : Deed} (na : away h hall d = false) : ifE (cmp2 eqB (op2 ixD (vE 4) (cE (.int 0))) (cE (.str "lift"))) (op2 ixD (callE f_smith_at (consE (vE 0) (consE (vE 1) nilE))) (cE (.int 2))) (cE (.int 0)) [some (houseD h), some (nD hall), R, c, some (deedD d)] = some (nD (price h hall d)) := by
  cases d with
  | go l =>
    have : ("go" : Str) ≠ "lift" := by decide
    simp [deedD, this, price]
  | file t =>
    have : ("file" : Str) ≠ "lift" := by decide
    simp [deedD, this, price]
  | lift t =>
    cases e : sAt h hall with
    | none => simp [away, e] at na
    | some q => simp [deedD, F_smith_at, e, smithD, price]
theorem coins_ok (G : Good h) {r : List Deed} {s s' : Stand} (hs : GoodS h s) (e : run h s r = some s') : f_coins_by [houseD h, nD s.1, rowD r] = some (nD (coins h s.1 r)) := by
  have key : ∀ (r : List Deed) (s : Stand) (n : Nat) (a R : Option PyData), GoodS h s → run h s r = some s' → ∃ x b, foL (nmP 4) (sqS (auS 3 (ifE (cmp2 eqB (op2 ixD (vE 4) (cE (.int 0))) (cE (.str "lift"))) (op2 ixD (callE f_smith_at (consE (vE 0) (consE (vE 1) nilE))) (cE (.int 2))) (cE (.int 0)))) (stS 1 (callE f_hall_behind (consE (vE 0) (consE (vE 1) (consE (vE 4) nilE)))))) (r.map deedD) [some (houseD h), some (nD s.1), R, some (nD n), a] = some (.nx [some (houseD h), x, R, some (nD (n + coins h s.1 r)), b]) := by
    intro r
    induction r with
    | nil =>
      intro s n a R _ e
      exact ⟨_, a, rfl⟩
    | cons d r ih =>
      intro s n a R hs e
      unfold run at e
      split at e
      · rename_i hc
        obtain ⟨x, b, h1⟩ := ih (done h s d) (n + price h s.1 d) (some (deedD d)) R (done_good G hs hc) e
        refine ⟨x, b, ?_⟩
        have e1 : n + coins h s.1 (d :: r) = n + price h s.1 d + coins h (done h s d).1 r := by
          show n + (price h s.1 d + coins h (toH h s.1 d) r) = _
          rw [Nat.add_assoc]
          rfl
        rw [e1, List.map_cons, foL_nx (ρ1 := [some (houseD h), some (nD s.1), R, some (nD n), some (deedD d)]) (ρ2 := [some (houseD h), some (nD (done h s d).1), R, some (nD (n + price h s.1 d)), some (deedD d)]) rfl (by
          rw [sqS_nx (ρ' := [some (houseD h), some (nD s.1), R, some (nD (n + price h s.1 d)), some (deedD d)]) (by
            unfold auS
            rw [price_is (can_away hc)]
            rfl)]
          simp [F_hall_behind (can_away hc), done])]
        exact h1
      · cases e
  obtain ⟨x, b, h1⟩ := key r s 0 none (some (rowD r)) hs e
  refine fnF_rt (N := 5) ?_
  show g_coins_by [some (houseD h), some (nD s.1), some (rowD r), none, none] = _
  unfold g_coins_by
  rw [sqS_nx (ρ' := [some (houseD h), some (nD s.1), some (rowD r), some (nD 0), none]) rfl, sqS_nx (ρ' := [some (houseD h), x, some (rowD r), some (nD (0 + coins h s.1 r)), b]) (by rw [foS_eq, seqI_tup rfl]; exact h1), Nat.zero_add]
  rfl
theorem intsD_is (n : Nat) : intsD n = (List.range n).map nD := rfl
theorem all_deeds_ok (G : Good h) : f_all_deeds [houseD h] = some (.list ((deeds h).map deedD)) := by
  have t3 := G.t3
  have w6 := G.w6
  have l1 : lrF (nD h.teeth) = some (.list ((List.range h.teeth).map nD)) := by
    show (if (0 : Int) ≤ h.teeth ∧ (h.teeth : Int) ≤ 1000 then some (PyData.list (intsD ((h.teeth : Int)).toNat)) else none) = _
    rw [if_pos ⟨by omega, by omega⟩, Int.toNat_natCast, intsD_is]
  have l2 : lrF (nD h.wears.length) = some (.list ((List.range h.wears.length).map nD)) := by
    show (if (0 : Int) ≤ h.wears.length ∧ (h.wears.length : Int) ≤ 1000 then some (PyData.list (intsD ((h.wears.length : Int)).toNat)) else none) = _
    rw [if_pos ⟨by omega, by omega⟩, Int.toNat_natCast, intsD_is]
  refine fnF_rt (N := 6) ?_
  show g_all_deeds [some (houseD h), none, none, none, none, none] = _
  unfold g_all_deeds
  rw [sqS_nx (ρ' := [some (houseD h), some (.list ((List.range h.teeth).map nD)), some (.list ((List.range h.wears.length).map nD)), none, none, none]) (by simp [l1, l2])]
  have e1 : lcE (seqI (vE 1)) (nmP 4) yesB (tupE (consE (cE (.str "file")) (consE (vE 4) nilE))) [4] [some (houseD h), some (.list ((List.range h.teeth).map nD)), some (.list ((List.range h.wears.length).map nD)), none, none, none] = some (.list ((List.range h.teeth).map fun t => deedD (.file t))) :=
    lcE_some (seqI_lst rfl) (by simp; omega) (lcL_all fun x _ => ⟨_, rfl, by simp [wipeE, tupF_of, deedD], rfl⟩)
  have e2 : lcE (seqI (vE 2)) (nmP 5) yesB (tupE (consE (cE (.str "go")) (consE (vE 5) nilE))) [5] [some (houseD h), some (.list ((List.range h.teeth).map nD)), some (.list ((List.range h.wears.length).map nD)), none, none, none] = some (.list ((List.range h.wears.length).map fun t => deedD (.go t))) :=
    lcE_some (seqI_lst rfl) (by simp; omega) (lcL_all fun x _ => ⟨_, rfl, by simp [wipeE, tupF_of, deedD], rfl⟩)
  have e3 : lcE (seqI (vE 1)) (nmP 4) yesB (tupE (consE (cE (.str "lift")) (consE (vE 4) nilE))) [4] [some (houseD h), some (.list ((List.range h.teeth).map nD)), some (.list ((List.range h.wears.length).map nD)), some (.list (((List.range h.teeth).map .file ++ (List.range h.wears.length).map .go : List Deed).map deedD)), none, none] = some (.list ((List.range h.teeth).map fun t => deedD (.lift t))) :=
    lcE_some (seqI_lst rfl) (by simp; omega) (lcL_all fun x _ => ⟨_, rfl, by simp [wipeE, tupF_of, deedD], rfl⟩)
  rw [sqS_nx (ρ' := [some (houseD h), some (.list ((List.range h.teeth).map nD)), some (.list ((List.range h.wears.length).map nD)), some (.list (((List.range h.teeth).map .file ++ (List.range h.wears.length).map .go : List Deed).map deedD)), none, none]) (by
    rw [stS_eq, op2_eq, e1, e2]
    show (addD (.list ((List.range h.teeth).map fun t => deedD (.file t))) (.list ((List.range h.wears.length).map fun t => deedD (.go t)))).map _ = _
    rw [addD_lst (by simp; omega), List.map_append, List.map_map, List.map_map]
    rfl)]
  rw [rtS_eq, op2_eq, e3]
  show (addD (.list (((List.range h.teeth).map .file ++ (List.range h.wears.length).map .go : List Deed).map deedD)) (.list ((List.range h.teeth).map fun t => deedD (.lift t)))).map Res.rt = _
  rw [addD_lst (by simp; omega)]
  unfold deeds
  rw [List.map_append (l₂ := (List.range h.teeth).map Deed.lift), List.map_map (f := Deed.lift)]
  rfl
theorem deeds_len (G : Good h) : (deeds h).length ≤ 12 := by
  have t3 := G.t3
  have w6 := G.w6
  unfold deeds
  simp
  omega
theorem deeds_good {d : Deed} : d ∈ deeds h ↔ GoodD h d := by
  unfold deeds
  cases d <;> simp [GoodD]
theorem next_ok (G : Good h) {s : Stand} (hs : GoodS h s) : f_next_ones [houseD h, standD s] = some (.list ((nexts h s).map fun p => .tuple [deedD p.1, standD p.2])) := by
  have dl := deeds_len G
  refine fnF_rt (N := 4) ?_
  show g_next_ones [some (houseD h), some (standD s), none, none] = _
  unfold g_next_ones
  have e1 : lcE (seqI (callE f_all_deeds (consE (vE 0) nilE))) (nmP 3) (isNE (callE f_bar_of (consE (vE 0) (consE (vE 1) (consE (vE 3) nilE))))) (vE 3) [3] [some (houseD h), some (standD s), none, none] = some (.list (((deeds h).filter (can h s)).map deedD)) :=
    lcE_some (ds := (deeds h).map deedD) (seqI_lst (by simp [all_deeds_ok G])) (by simp; omega) (lcL_map fun d hd => ⟨_, rfl, by
      obtain ⟨x, h1, h2, h3⟩ := bar_ok G hs d
      simp [wipeE, h1, h2], fun _ => ⟨by simp [wipeE], by cases d <;> rfl⟩⟩)
  rw [sqS_nx (ρ' := [some (houseD h), some (standD s), some (.list (((deeds h).filter (can h s)).map deedD)), none]) (by rw [stS_eq, e1]; rfl)]
  have e2 : lcE (seqI (vE 2)) (nmP 3) yesB (tupE (consE (vE 3) (consE (callE f_done_by (consE (vE 0) (consE (vE 1) (consE (vE 3) nilE)))) nilE))) [3] [some (houseD h), some (standD s), some (.list (((deeds h).filter (can h s)).map deedD)), none] = some (.list (((deeds h).filter (can h s)).map fun d => .tuple [deedD d, standD (done h s d)])) :=
    lcE_some (seqI_lst rfl) (by have := List.length_filter_le (can h s) (deeds h); simp; omega) (lcL_all fun d hd => ⟨_, rfl, by
      rw [List.mem_filter] at hd
      have hdd := done_ok G hs (deeds_good.mp hd.1) (can_away hd.2)
      have : isL (deedD d) = false := by cases d <;> rfl
      simp [wipeE, hdd]
      refine tupF_of ?_ (by simp)
      simp [this, standD], rfl⟩)
  rw [rtS_eq, e2]
  unfold nexts
  rw [List.map_map]
  rfl
theorem has_key_ok {b : Box} {k : List Nat} (hl : b.length ≤ 10000) : f_has_key [boxD b, keyD k] = some (.bool (hasKey b k)) := by
  refine fnF_rt (N := 5) ?_
  show g_has_key [some (boxD b), some (keyD k), none, none, none] = _
  unfold g_has_key
  have e0 : zipI (vE 0) (vE 1) [some (boxD b), some (keyD k), none, none, none] = some ((b.zip k).map fun p => .tuple [gapD p.1, nD p.2]) := by
    rw [← zipD_map]
    exact zipI_tup rfl rfl
  rw [rtS_eq, all_bool (F := fun p : (Nat × Nat) × Nat => PyData.tuple [gapD p.1, nD p.2]) (l := b.zip k) (fun p => decide (p.1.1 ≤ p.2) && decide (p.2 ≤ p.1.2)) e0 (by rw [List.length_zip]; omega) fun p hp => ⟨_, rfl, by
    simp [wipeE]
    by_cases hh : p.1.1 ≤ p.2 <;> simp [hh]⟩]
  rfl
theorem there_ok {g : Nat × Box} {s : Stand} (hl : g.2.length ≤ 10000) : f_is_there [goalD g, standD s] = some (.bool (isThere g s)) := by
  refine fnF_rt (N := 2) ?_
  show g_is_there [some (goalD g), some (standD s)] = _
  unfold g_is_there
  have e : (decide ((s.1 : Int) = (g.1 : Int))) = (s.1 == g.1) := by
    rw [Bool.eq_iff_iff]
    simp
    omega
  rw [rtS_eq, andE_bool (k := s.1 == g.1) (by simp [goalD, standD, e])]
  unfold isThere
  cases s.1 == g.1 with
  | true => simp [goalD, standD, has_key_ok hl]
  | false => rfl
theorem price_ok {hall : Nat} {d : Deed} (na : away h hall d = false) : f_price_of [houseD h, nD hall, deedD d] = some (nD (price h hall d)) := by
  refine fnF_rt (N := 3) ?_
  show g_price_of [some (houseD h), some (nD hall), some (deedD d)] = _
  unfold g_price_of
  cases d with
  | go l =>
    have : ("go" : Str) ≠ "lift" := by decide
    simp [deedD, this, price]
  | file t =>
    have : ("file" : Str) ≠ "lift" := by decide
    simp [deedD, this, price]
  | lift t =>
    cases e : sAt h hall with
    | none => simp [away, e] at na
    | some q => simp [deedD, F_smith_at, e, smithD, price]
end
end Wk

set_option maxHeartbeats 2000000
namespace Wk
open PySem L2
/-! ### the law's own deeds -/
theorem enF_at {α : Type} : ∀ (l : List α) (n i : Nat), (enF n l)[i]? = l[i]?.map fun x => (n + i, x)
  | [], _, _ => by simp [enF]
  | x :: r, n, 0 => by simp [enF]
  | x :: r, n, i + 1 => by
    have ih := enF_at r (n + 1) i
    simp only [enF, List.getElem?_cons_succ, ih]
    rw [show n + (i + 1) = n + 1 + i by omega]
theorem enF_zip {α β : Type} {l : List α} {m : List β} {d : β} (h : l.length = m.length) : (enF 0 l).map (fun p => (p.2, m.getD p.1 d)) = l.zip m := by
  apply List.ext_getElem?
  intro i
  rw [List.getElem?_map, enF_at, List.zip_eq_zipWith, List.getElem?_zipWith]
  by_cases hi : i < l.length
  · rw [List.getElem?_eq_getElem hi, List.getElem?_eq_getElem (by omega)]
    simp [List.getElem?_eq_getElem (show i < m.length by omega)]
  · rw [List.getElem?_eq_none (by omega)]
    simp
theorem enF_one {l : List Nat} {u y : Nat} {g : Nat → Nat → Nat} (hu : l[u]? = some y) (h : ∀ t x, t ≠ u → g t x = x) : (enF 0 l).map (fun p => g p.1 p.2) = l.take u ++ g u y :: l.drop (u + 1) := by
  apply List.ext_getElem?
  intro i
  rw [List.getElem?_map, enF_at]
  have hul := (List.getElem?_eq_some_iff.mp hu).1
  by_cases h1 : i < u
  · rw [List.getElem?_append_left (by rw [List.length_take]; omega), List.getElem?_take_of_lt h1, List.getElem?_eq_getElem (by omega)]
    simp [h i _ (by omega)]
  · rw [List.getElem?_append_right (by rw [List.length_take]; omega), List.length_take, Nat.min_eq_left (by omega)]
    by_cases h2 : i = u
    · subst h2
      rw [hu, Nat.sub_self]
      simp
    · rw [show i - u = (i - u - 1) + 1 by omega, List.getElem?_cons_succ, List.getElem?_drop, show u + 1 + (i - u - 1) = i by omega]
      cases hq : l[i]? with
      | none => rfl
      | some x => simp [h i x h2]
theorem depthAll_le {α : Type} {F : α → PyData} {n : Nat} : ∀ {l : List α}, (∀ x ∈ l, (F x).depth ≤ n) → PyData.depthAll (l.map F) ≤ n
  | [], _ => Nat.zero_le _
  | x :: l, h => by
    have h1 := h x List.mem_cons_self
    have h2 := depthAll_le (l := l) fun y hy => h y (List.mem_cons_of_mem _ hy)
    simp only [List.map_cons, PyData.depthAll]
    omega
theorem depth_key (k : List Nat) : (keyD k).depth ≤ 1 := by
  have := depthAll_le (F := nD) (n := 0) (l := k) fun x _ => Nat.le_refl 0
  simp only [keyD, PyData.depth]
  omega
theorem depth_gap (g : Nat × Nat) : (gapD g).depth ≤ 1 := by
  have := depthAll_le (F := nD) (n := 0) (l := [g.1, g.2]) fun x _ => Nat.le_refl 0
  show PyData.depthAll ([g.1, g.2].map nD) + 1 ≤ 1
  omega
theorem depth_box (b : Box) : (boxD b).depth ≤ 2 := by
  have := depthAll_le (F := gapD) (n := 1) (l := b) fun x _ => depth_gap x
  simp only [boxD, PyData.depth]
  omega
theorem depth_door (d : Door) : (doorD d).depth ≤ 3 := by
  have := depth_box d.gaps
  simp only [doorD, PyData.depth, PyData.depthAll]
  omega
theorem ne_nil {α : Type} {F : α → PyData} {l : List α} (h : ∀ x ∈ l, (F x).depth ≤ 7) : neB (.list (l.map F)) (.list []) = some (!l.isEmpty) := by
  have := depthAll_le (n := 7) h
  have e : eqB (.list (l.map F)) (.list []) = some l.isEmpty := by
    show (if PyData.depth (.list (l.map F)) ≤ 8 then some (PyData.eqv (.list (l.map F)) (.list [])) else none) = _
    rw [if_pos (by simp only [PyData.depth]; omega)]
    cases l <;> simp [PyData.eqv, PyData.eqvAll]
  rw [neB_eq, e]
  rfl
section
variable {h : House}
theorem law_deeds_ok (G : Good h) : f_law_deeds [houseD h] = some (.list ((deeds h).map deedD)) := by
  have t3 := G.t3
  have w6 := G.w6
  have l1 : lrF (nD h.teeth) = some (.list ((List.range h.teeth).map nD)) := by
    show (if (0 : Int) ≤ h.teeth ∧ (h.teeth : Int) ≤ 1000 then some (PyData.list (intsD ((h.teeth : Int)).toNat)) else none) = _
    rw [if_pos ⟨by omega, by omega⟩, Int.toNat_natCast, intsD_is]
  refine fnF_rt (N := 5) ?_
  show g_law_deeds [some (houseD h), none, none, none, none] = _
  unfold g_law_deeds
  rw [sqS_nx (ρ' := [some (houseD h), some (.list ((List.range h.teeth).map nD)), none, none, none]) (by simp [l1])]
  have e1 : lcE (seqI (vE 1)) (nmP 3) yesB (tupE (consE (cE (.str "file")) (consE (vE 3) nilE))) [3] [some (houseD h), some (.list ((List.range h.teeth).map nD)), none, none, none] = some (.list ((List.range h.teeth).map fun t => deedD (.file t))) :=
    lcE_some (seqI_lst rfl) (by simp; omega) (lcL_all fun x _ => ⟨_, rfl, by simp [wipeE, tupF_of, deedD], rfl⟩)
  have e2 : lcE (rgI (callE lenF (consE (op2 ixD (vE 0) (cE (.int 2))) nilE))) (nmP 4) yesB (tupE (consE (cE (.str "go")) (consE (vE 4) nilE))) [4] [some (houseD h), some (.list ((List.range h.teeth).map nD)), none, none, none] = some (.list ((List.range h.wears.length).map fun t => deedD (.go t))) :=
    lcE_some (ds := (List.range h.wears.length).map nD) (by
      rw [rgI_int (m := h.wears.length) (by simp) (by omega) (by omega), Int.toNat_natCast, intsD_is]) (by simp; omega) (lcL_all fun x _ => ⟨_, rfl, by simp [wipeE, tupF_of, deedD], rfl⟩)
  have e3 : lcE (seqI (vE 1)) (nmP 3) yesB (tupE (consE (cE (.str "lift")) (consE (vE 3) nilE))) [3] [some (houseD h), some (.list ((List.range h.teeth).map nD)), some (.list (((List.range h.teeth).map .file ++ (List.range h.wears.length).map .go : List Deed).map deedD)), none, none] = some (.list ((List.range h.teeth).map fun t => deedD (.lift t))) :=
    lcE_some (seqI_lst rfl) (by simp; omega) (lcL_all fun x _ => ⟨_, rfl, by simp [wipeE, tupF_of, deedD], rfl⟩)
  rw [sqS_nx (ρ' := [some (houseD h), some (.list ((List.range h.teeth).map nD)), some (.list (((List.range h.teeth).map .file ++ (List.range h.wears.length).map .go : List Deed).map deedD)), none, none]) (by
    rw [stS_eq, op2_eq, e1, e2]
    show (addD (.list ((List.range h.teeth).map fun t => deedD (.file t))) (.list ((List.range h.wears.length).map fun t => deedD (.go t)))).map _ = _
    rw [addD_lst (by simp; omega), List.map_append, List.map_map, List.map_map]
    rfl)]
  rw [rtS_eq, op2_eq, e3]
  show (addD (.list (((List.range h.teeth).map .file ++ (List.range h.wears.length).map .go : List Deed).map deedD)) (.list ((List.range h.teeth).map fun t => deedD (.lift t)))).map Res.rt = _
  rw [addD_lst (by simp; omega)]
  unfold deeds
  rw [List.map_append (l₂ := (List.range h.teeth).map Deed.lift), List.map_map (f := Deed.lift)]
  rfl
theorem law_door_ok (G : Good h) (hall l : Nat) : f_law_door [houseD h, nD hall, nD l] = some (match dAt h hall l with | some d => doorD d | none => .none) := by
  have d10 := G.d10
  refine fnF_rt (N := 5) ?_
  show g_law_door [some (houseD h), some (nD hall), some (nD l), none, none] = _
  unfold g_law_door
  have e1 : lcE (seqI (op2 ixD (vE 0) (cE (.int 3)))) (nmP 4) (andB (cmp2 eqB (op2 ixD (vE 4) (cE (.int 0))) (vE 1)) (cmp2 eqB (op2 ixD (vE 4) (cE (.int 1))) (vE 2))) (vE 4) [4] [some (houseD h), some (nD hall), some (nD l), none, none] = some (.list ((h.doors.filter fun d => d.hall == hall && d.letter == l).map doorD)) :=
    lcE_some (ds := h.doors.map doorD) (seqI_tup (by simp)) (by simp; omega) (lcL_map fun d _ => ⟨_, rfl, by
      simp [wipeE, doorD]
      by_cases q1 : d.hall = hall
      · subst q1
        by_cases q2 : d.letter = l
        · simp [q2]
        · simp [q2, show ¬ (d.letter : Int) = l from by omega]
      · simp [q1, show ¬ (d.hall : Int) = hall from by omega], fun _ => ⟨rfl, rfl⟩⟩)
  rw [sqS_nx (ρ' := [some (houseD h), some (nD hall), some (nD l), some (.list ((h.doors.filter fun d => d.hall == hall && d.letter == l).map doorD)), none]) (by rw [stS_eq, e1]; rfl)]
  have e2 := ne_nil (F := doorD) (l := h.doors.filter fun d => d.hall == hall && d.letter == l) fun x _ => Nat.le_trans (depth_door x) (by decide)
  have e3 : dAt h hall l = (h.doors.filter fun d => d.hall == hall && d.letter == l).head? := by
    unfold dAt
    rw [List.head?_filter]
  rw [e3]
  have e4 : cmp2 neB (vE 3) (lstE nilE) [some (houseD h), some (nD hall), some (nD l), some (.list ((h.doors.filter fun d => d.hall == hall && d.letter == l).map doorD)), none] = some (!(h.doors.filter fun d => d.hall == hall && d.letter == l).isEmpty) := e2
  rw [rtS_eq, ifE_eq, e4]
  cases hq : h.doors.filter fun d => d.hall == hall && d.letter == l with
  | nil => rfl
  | cons x r => simp
def behD (h : House) (s : Stand) (d : Deed) : PyData := if can h s d then standD (done h s d) else .none
theorem law_behind_ok (G : Good h) {s : Stand} (hs : GoodS h s) {d : Deed} (hd : GoodD h d) : f_law_behind [houseD h, standD s, deedD d] = some (behD h s d) := by
  obtain ⟨hall, key⟩ := s
  have hl : key.length = h.teeth := hs.len
  have t3 := G.t3
  have six : ∀ x ∈ key, x ≤ 6 := hs.six
  have start : ∀ x : PyData, g_law_behind [some (houseD h), some (standD (hall, key)), some (deedD d), none, none, none, none, none, none, none, none, none, none, none, none, none] = some (.rt x) → f_law_behind [houseD h, standD (hall, key), deedD d] = some x := fun x hx => fnF_rt (N := 16) hx
  refine start _ ?_
  unfold g_law_behind
  cases d with
  | go l =>
    have hl2 : l < h.wears.length := hd
    rw [sqS_nx (ρ' := [some (houseD h), some (standD (hall, key)), some (deedD (.go l)), some (nD hall), some (keyD key), some (.str "go"), some (nD l), none, none, none, none, none, none, none, none, none]) rfl]
    refine sqS_rt ?_
    rw [ifS_eq]
    show (sqS _ _ _) = _
    cases e : dAt h hall l with
    | none =>
      rw [sqS_nx (ρ' := [some (houseD h), some (standD (hall, key)), some (deedD (.go l)), some (nD hall), some (keyD key), some (.str "go"), some (nD l), some .none, none, none, none, none, none, none, none, none]) (by simp [law_door_ok G, e])]
      refine sqS_rt ?_
      simp [behD, can, away, e]
    | some d =>
      have hdd := G.dg d (dAt_mem e).1
      have hlg : d.gaps.length = key.length := by rw [hdd.2.2.2.1, hl]
      rw [sqS_nx (ρ' := [some (houseD h), some (standD (hall, key)), some (deedD (.go l)), some (nD hall), some (keyD key), some (.str "go"), some (nD l), some (doorD d), none, none, none, none, none, none, none, none]) (by simp [law_door_ok G, e])]
      rw [sqS_nx (ρ' := [some (houseD h), some (standD (hall, key)), some (deedD (.go l)), some (nD hall), some (keyD key), some (.str "go"), some (nD l), some (doorD d), none, none, none, none, none, none, none, none]) (by simp [doorD])]
      have z1 : zipI (vE 4) (op2 ixD (vE 7) (cE (.int 3))) [some (houseD h), some (standD (hall, key)), some (deedD (.go l)), some (nD hall), some (keyD key), some (.str "go"), some (nD l), some (doorD d), none, none, none, none, none, none, none, none] = some ((key.zip d.gaps).map fun p => .tuple [nD p.1, gapD p.2]) := by
        rw [← zipD_map]
        exact zipI_tup rfl rfl
      have e1 : lcE (zipI (vE 4) (op2 ixD (vE 7) (cE (.int 3)))) (tpP (csP (nmP 11) (csP (tpP (csP (nmP 12) (csP (nmP 13) nlP))) nlP))) (notB (chE leB leB (vE 12) (vE 11) (vE 13))) (cE (.int 1)) [11, 12, 13] [some (houseD h), some (standD (hall, key)), some (deedD (.go l)), some (nD hall), some (keyD key), some (.str "go"), some (nD l), some (doorD d), none, none, none, none, none, none, none, none] = some (.list (((key.zip d.gaps).filter fun p => !(decide (p.2.1 ≤ p.1) && decide (p.1 ≤ p.2.2))).map fun _ => .int 1)) :=
        lcE_some z1 (by rw [List.length_map, List.length_zip]; omega) (lcL_map fun p _ => ⟨_, rfl, by
          simp [wipeE]
          by_cases q1 : p.2.1 ≤ p.1 <;> simp [q1], fun _ => ⟨rfl, rfl⟩⟩)
      have e2 := ne_nil (F := fun _ => PyData.int 1) (l := (key.zip d.gaps).filter fun p => !(decide (p.2.1 ≤ p.1) && decide (p.1 ≤ p.2.2))) fun x _ => Nat.zero_le _
      have e3 : cmp2 neB (lcE (zipI (vE 4) (op2 ixD (vE 7) (cE (.int 3)))) (tpP (csP (nmP 11) (csP (tpP (csP (nmP 12) (csP (nmP 13) nlP))) nlP))) (notB (chE leB leB (vE 12) (vE 11) (vE 13))) (cE (.int 1)) [11, 12, 13]) (lstE nilE) [some (houseD h), some (standD (hall, key)), some (deedD (.go l)), some (nD hall), some (keyD key), some (.str "go"), some (nD l), some (doorD d), none, none, none, none, none, none, none, none] = some (!((key.zip d.gaps).filter fun p => !(decide (p.2.1 ≤ p.1) && decide (p.1 ≤ p.2.2))).isEmpty) := by
        rw [cmp2_eq, e1]
        exact e2
      have e4 : (enF 0 key).all (fits h hall (.go l)) = ((key.zip d.gaps).filter fun p => !(decide (p.2.1 ≤ p.1) && decide (p.1 ≤ p.2.2))).isEmpty := by
        rw [← enF_zip (d := (0, 0)) hlg.symm]
        rw [Bool.eq_iff_iff, List.all_eq_true, List.isEmpty_iff, List.filter_eq_nil_iff]
        constructor
        · intro q p hp
          obtain ⟨p', hp', rfl⟩ := List.mem_map.mp hp
          have := q p' hp'
          simp only [fits, gapAt, e] at this
          simp only [this]
          decide
        · intro q p hp
          have := q _ (List.mem_map.mpr ⟨p, hp, rfl⟩)
          simp only [fits, gapAt, e]
          simpa using this
      have e5 : can h (hall, key) (.go l) = ((key.zip d.gaps).filter fun p => !(decide (p.2.1 ≤ p.1) && decide (p.1 ≤ p.2.2))).isEmpty := by
        unfold can
        rw [e4]
        simp [away, e]
      cases hc : can h (hall, key) (.go l) with
      | false =>
        rw [hc] at e5
        refine sqS_rt ?_
        rw [ifS_eq, e3, ← e5]
        simp [behD, hc]
      | true =>
        rw [hc] at e5
        rw [sqS_nx (ρ' := [some (houseD h), some (standD (hall, key)), some (deedD (.go l)), some (nD hall), some (keyD key), some (.str "go"), some (nD l), some (doorD d), none, none, none, none, none, none, none, none]) (by rw [ifS_eq, e3, ← e5]; rfl)]
        have hw : h.wears[l]? = some h.wears[l] := List.getElem?_eq_getElem hl2
        have hwl := (G.wl _ (List.getElem_mem hl2)).1
        have h3 : ixD (.tuple (h.wears.map keyD)) (nD l) = some (keyD h.wears[l]) := ixN (by rw [List.getElem?_map, hw]; rfl)
        have z2 : zipI (vE 4) (op2 ixD (op2 ixD (vE 0) (cE (.int 2))) (vE 6)) [some (houseD h), some (standD (hall, key)), some (deedD (.go l)), some (nD hall), some (keyD key), some (.str "go"), some (nD l), some (doorD d), none, none, none, none, none, none, none, none] = some ((key.zip h.wears[l]).map fun p => .tuple [nD p.1, nD p.2]) := by
          rw [← zipD_map]
          exact zipI_tup rfl (by simp [h3]; rfl)
        have e6 : lcE (zipI (vE 4) (op2 ixD (op2 ixD (vE 0) (cE (.int 2))) (vE 6))) (tpP (csP (nmP 11) (csP (nmP 14) nlP))) yesB (callE maxF (consE (cE (.int 0)) (consE (op2 subD (vE 11) (vE 14)) nilE))) [11, 14] [some (houseD h), some (standD (hall, key)), some (deedD (.go l)), some (nD hall), some (keyD key), some (.str "go"), some (nD l), some (doorD d), none, none, none, none, none, none, none, none] = some (.list ((key.zip h.wears[l]).map fun p => nD (p.1 - p.2))) :=
          lcE_some z2 (by rw [List.length_map, List.length_zip]; omega) (lcL_all fun p _ => ⟨_, rfl, by
            simp [wipeE]
            split <;> omega, rfl⟩)
        have e7 : (done h (hall, key) (.go l)).2 = (key.zip h.wears[l]).map fun p => p.1 - p.2 := by
          rw [← enF_zip (d := 0) (show key.length = h.wears[l].length by omega), List.map_map]
          unfold done
          refine List.map_congr_left fun p _ => ?_
          simp only [lessD, Function.comp]
          rw [show h.wears.getD l [] = h.wears[l] by simp [hw]]
          omega
        have e8 : callE tupleF (consE (lcE (zipI (vE 4) (op2 ixD (op2 ixD (vE 0) (cE (.int 2))) (vE 6))) (tpP (csP (nmP 11) (csP (nmP 14) nlP))) yesB (callE maxF (consE (cE (.int 0)) (consE (op2 subD (vE 11) (vE 14)) nilE))) [11, 14]) nilE) [some (houseD h), some (standD (hall, key)), some (deedD (.go l)), some (nD hall), some (keyD key), some (.str "go"), some (nD l), some (doorD d), none, none, none, none, none, none, none, none] = some (keyD (done h (hall, key) (.go l)).2) := by
          rw [callE_eq, consE_eq, e6, e7]
          simp [keyD]
        rw [rtS_eq, tupE_eq]
        simp only [consE_eq, op2_eq, e8]
        simp [doorD, tupF_of, keyD, behD, hc]
        simp [standD, done, toH, e, keyD]
  | file u =>
    have hu : u < h.teeth := hd
    have hku : key[u]? = some key[u] := List.getElem?_eq_getElem (by omega)
    have h4 : ixD (keyD key) (nD u) = some (nD key[u]) := ixN (by rw [List.getElem?_map, hku]; rfl)
    rw [sqS_nx (ρ' := [some (houseD h), some (standD (hall, key)), some (deedD (.file u)), some (nD hall), some (keyD key), some (.str "file"), some (nD u), none, none, none, none, none, none, none, none, none]) rfl]
    rw [sqS_nx (ρ' := [some (houseD h), some (standD (hall, key)), some (deedD (.file u)), some (nD hall), some (keyD key), some (.str "file"), some (nD u), none, none, none, none, none, none, none, none, none]) (by simp [sfl])]
    have e4 : can h (hall, key) (.file u) = ((h.benches.any fun b => b == hall) && decide (0 < key[u])) := by
      unfold can
      rw [show away h hall (.file u) = !(h.benches.any fun b => b == hall) from rfl, Bool.not_not]
      congr 1
      rw [Bool.eq_iff_iff, List.all_eq_true, decide_eq_true_eq]
      constructor
      · intro q
        have := q (u, key[u]) (by have := enF_mem (n := 0) hku; simpa using this)
        simp [fits, gapAt] at this
        omega
      · rintro q ⟨t, x⟩ hp
        have hx := (enF_get hp).2
        have hx6 := six x (List.mem_of_getElem? hx)
        by_cases ht : u = t
        · subst ht
          have : x = key[u] := by
            have h9 : key[u]? = some x := by simpa using hx
            rw [hku] at h9
            exact (Option.some.inj h9).symm
          simp [fits, gapAt]
          omega
        · simp [fits, gapAt, ht]
          omega
    have e5 : andE (bE (cmp2 inB (vE 3) (op2 ixD (vE 0) (cE (.int 4))))) (bE (cmp2 gtB (op2 ixD (vE 4) (vE 6)) (cE (.int 0)))) [some (houseD h), some (standD (hall, key)), some (deedD (.file u)), some (nD hall), some (keyD key), some (.str "file"), some (nD u), none, none, none, none, none, none, none, none, none] = some (.bool (can h (hall, key) (.file u))) := by
      rw [andE_bool (k := h.benches.any fun b => b == hall) (by simp [inB_nat]), e4]
      cases (h.benches.any fun b => b == hall) with
      | false => rfl
      | true => simp [h4]
    rw [sqS_nx (ρ' := [some (houseD h), some (standD (hall, key)), some (deedD (.file u)), some (nD hall), some (keyD key), some (.str "file"), some (nD u), none, some (.bool (can h (hall, key) (.file u))), some (.int (-1)), none, none, none, none, none, none]) (by
      rw [ifS_eq]
      show p2S 8 9 _ _ _ = _
      rw [p2S_eq, e5]
      rfl)]
    cases hc : can h (hall, key) (.file u) with
    | false =>
      refine sqS_rt ?_
      rw [ifS_eq, notB_eq, tE_bool (k := false) rfl]
      simp [behD, hc]
    | true =>
      rw [hc] at e4
      have hpos : 0 < key[u] := by
        have := e4.symm
        rw [Bool.and_eq_true, decide_eq_true_eq] at this
        exact this.2
      rw [sqS_nx (ρ' := [some (houseD h), some (standD (hall, key)), some (deedD (.file u)), some (nD hall), some (keyD key), some (.str "file"), some (nD u), none, some (.bool true), some (.int (-1)), none, none, none, none, none, none]) (by
        rw [ifS_eq, notB_eq, tE_bool (k := true) rfl]
        rfl)]
      have e7 : (done h (hall, key) (.file u)).2 = key.take u ++ (key[u] - 1) :: key.drop (u + 1) := by
        have := enF_one (g := fun t x => ((x : Int) - lessD h (.file u) t).toNat) hku (fun t x ht => by simp [lessD, Ne.symm ht])
        have e9 : ((key[u] : Int) - lessD h (.file u) u).toNat = key[u] - 1 := by
          simp [lessD]
        rw [e9] at this
        exact this
      have c1 : cutG (key.map nD) none (some (u : Int)) = (key.take u).map nD := by rw [cutG_to, List.map_take]
      have c2 : cutG (key.map nD) (some ((u : Int) + 1)) none = (key.drop (u + 1)).map nD := by
        have := cutG_from (key.map nD) (u + 1)
        rw [List.map_drop]
        exact this
      have s1 : soO (vE 6) [some (houseD h), some (standD (hall, key)), some (deedD (.file u)), some (nD hall), some (keyD key), some (.str "file"), some (nD u), none, some (.bool true), some (.int (-1)), none, none, none, none, none, none] = some (some (u : Int)) := rfl
      have s2 : soO (op2 addD (vE 6) (cE (.int 1))) [some (houseD h), some (standD (hall, key)), some (deedD (.file u)), some (nD hall), some (keyD key), some (.str "file"), some (nD u), none, some (.bool true), some (.int (-1)), none, none, none, none, none, none] = some (some ((u : Int) + 1)) := rfl
      have k1 : (key[u] : Int) + -1 = ((key[u] - 1 : Nat) : Int) := by omega
      have m1 : op2 addD (op2 addD (slE (vE 4) noO (soO (vE 6))) (tupE (consE (op2 addD (op2 ixD (vE 4) (vE 6)) (vE 9)) nilE))) (slE (vE 4) (soO (op2 addD (vE 6) (cE (.int 1)))) noO) [some (houseD h), some (standD (hall, key)), some (deedD (.file u)), some (nD hall), some (keyD key), some (.str "file"), some (nD u), none, some (.bool true), some (.int (-1)), none, none, none, none, none, none] = some (keyD (done h (hall, key) (.file u)).2) := by
        simp only [op2_eq, slE_eq, s1, s2, vE_eq, tupE_eq, consE_eq, nilE_eq, noO_eq]
        have h4' : ixD (.tuple (key.map nD)) (nD u) = some (nD key[u]) := h4
        simp only [List.getElem?_cons_succ, List.getElem?_cons_zero, Option.getD_some, Option.bind_some, Option.map_some, keyD, h4', addD_int, slD_tup, c1, c2, k1]
        rw [tupF_of (by simp) (by simp)]
        simp only [Option.bind_some]
        rw [addD_tup (by simp; omega)]
        simp only [Option.bind_some]
        rw [addD_tup (by simp; omega), e7]
        simp
      rw [rtS_eq, tupE_eq, consE_eq, consE_eq, m1]
      simp [tupF_of, keyD, behD, hc]
      simp [standD, done, toH, keyD]
  | lift u =>
    have hu : u < h.teeth := hd
    have hku : key[u]? = some key[u] := List.getElem?_eq_getElem (by omega)
    have h4 : ixD (keyD key) (nD u) = some (nD key[u]) := ixN (by rw [List.getElem?_map, hku]; rfl)
    have sl := G.sl
    rw [sqS_nx (ρ' := [some (houseD h), some (standD (hall, key)), some (deedD (.lift u)), some (nD hall), some (keyD key), some (.str "lift"), some (nD u), none, none, none, none, none, none, none, none, none]) rfl]
    rw [sqS_nx (ρ' := [some (houseD h), some (standD (hall, key)), some (deedD (.lift u)), some (nD hall), some (keyD key), some (.str "lift"), some (nD u), none, none, none, none, none, none, none, none, none]) (by simp [slg])]
    have e1 : lcE (seqI (op2 ixD (vE 0) (cE (.int 5)))) (nmP 15) (cmp2 eqB (op2 ixD (vE 15) (cE (.int 0))) (vE 3)) (op2 ixD (vE 15) (cE (.int 1))) [15] [some (houseD h), some (standD (hall, key)), some (deedD (.lift u)), some (nD hall), some (keyD key), some (.str "lift"), some (nD u), none, none, none, none, none, none, none, none, none] = some (.list ((h.smiths.filter fun s => s.1 == hall).map fun s => nD s.2.1)) :=
      lcE_some (ds := h.smiths.map smithD) (seqI_tup (by simp)) (by simp; omega) (lcL_map fun p _ => ⟨_, rfl, by
        simp [wipeE, smithD]
        by_cases q1 : p.1 = hall
        · simp [q1]
        · simp [q1, show ¬ (p.1 : Int) = hall from by omega], fun _ => ⟨rfl, rfl⟩⟩)
    have e2 := ne_nil (F := fun s : Nat × Nat × Nat => nD s.2.1) (l := h.smiths.filter fun s => s.1 == hall) fun x _ => Nat.zero_le _
    have e3 : sAt h hall = (h.smiths.filter fun s => s.1 == hall).head? := by
      unfold sAt
      rw [List.head?_filter]
    have e4 : can h (hall, key) (.lift u) = match sAt h hall with
      | some s => decide (key[u] < s.2.1)
      | none => false := by
      cases es : sAt h hall with
      | none => simp [can, away, es]
      | some s =>
        have hsg := G.sg s (List.mem_of_find?_eq_some es)
        unfold can
        rw [show away h hall (.lift u) = (sAt h hall).isNone from rfl, es]
        show (true && _) = _
        rw [Bool.true_and, Bool.eq_iff_iff, List.all_eq_true, decide_eq_true_eq]
        constructor
        · intro q
          have := q (u, key[u]) (by have := enF_mem (n := 0) hku; simpa using this)
          simp [fits, gapAt, es] at this
          omega
        · rintro q ⟨t, x⟩ hp
          have hx := (enF_get hp).2
          have hx6 := six x (List.mem_of_getElem? hx)
          by_cases ht : u = t
          · subst ht
            have : x = key[u] := by
              have h9 : key[u]? = some x := by simpa using hx
              rw [hku] at h9
              exact (Option.some.inj h9).symm
            simp [fits, gapAt, es]
            omega
          · simp [fits, gapAt, ht]
            omega
    have e5 : ∀ l, l = h.smiths.filter (fun s => s.1 == hall) → andE (bE (cmp2 neB (vE 10) (lstE nilE))) (bE (cmp2 ltB (op2 ixD (vE 4) (vE 6)) (op2 ixD (vE 10) (cE (.int 0))))) [some (houseD h), some (standD (hall, key)), some (deedD (.lift u)), some (nD hall), some (keyD key), some (.str "lift"), some (nD u), none, none, none, some (.list (l.map fun s => nD s.2.1)), none, none, none, none, none] = some (.bool (can h (hall, key) (.lift u))) := by
      intro l hl0
      have q1 : bE (cmp2 neB (vE 10) (lstE nilE)) [some (houseD h), some (standD (hall, key)), some (deedD (.lift u)), some (nD hall), some (keyD key), some (.str "lift"), some (nD u), none, none, none, some (.list (l.map fun s => nD s.2.1)), none, none, none, none, none] = some (.bool (!l.isEmpty)) := by
        rw [hl0]
        show (neB (.list ((h.smiths.filter fun s => s.1 == hall).map fun s => nD s.2.1)) (.list [])).map PyData.bool = _
        rw [e2]
        rfl
      rw [andE_bool q1, e4, e3, ← hl0]
      cases l with
      | nil => rfl
      | cons x r => simp [h4]
    rw [sqS_nx (ρ' := [some (houseD h), some (standD (hall, key)), some (deedD (.lift u)), some (nD hall), some (keyD key), some (.str "lift"), some (nD u), none, some (.bool (can h (hall, key) (.lift u))), some (.int 1), some (.list ((h.smiths.filter fun s => s.1 == hall).map fun s => nD s.2.1)), none, none, none, none, none]) (by
      rw [ifS_eq, cmp2_eq]
      simp only [vE_eq, cE_eq, List.getElem?_cons_succ, List.getElem?_cons_zero, Option.getD_some, Option.bind_some, eqB_str, decide_eq_false slf]
      show sqS _ _ _ = _
      rw [sqS_nx (ρ' := [some (houseD h), some (standD (hall, key)), some (deedD (.lift u)), some (nD hall), some (keyD key), some (.str "lift"), some (nD u), none, none, none, some (.list ((h.smiths.filter fun s => s.1 == hall).map fun s => nD s.2.1)), none, none, none, none, none]) (by rw [stS_eq, e1]; rfl)]
      rw [p2S_eq, e5 _ rfl]
      rfl)]
    cases hc : can h (hall, key) (.lift u) with
    | false =>
      refine sqS_rt ?_
      rw [ifS_eq, notB_eq, tE_bool (k := false) rfl]
      simp [behD, hc]
    | true =>
      rw [sqS_nx (ρ' := [some (houseD h), some (standD (hall, key)), some (deedD (.lift u)), some (nD hall), some (keyD key), some (.str "lift"), some (nD u), none, some (.bool true), some (.int 1), some (.list ((h.smiths.filter fun s => s.1 == hall).map fun s => nD s.2.1)), none, none, none, none, none]) (by
        rw [ifS_eq, notB_eq, tE_bool (k := true) rfl]
        rfl)]
      have e7 : (done h (hall, key) (.lift u)).2 = key.take u ++ (key[u] + 1) :: key.drop (u + 1) := by
        have := enF_one (g := fun t x => ((x : Int) - lessD h (.lift u) t).toNat) hku (fun t x ht => by simp [lessD, Ne.symm ht])
        have e9 : ((key[u] : Int) - lessD h (.lift u) u).toNat = key[u] + 1 := by
          simp [lessD]
        rw [e9] at this
        exact this
      have c1 : cutG (key.map nD) none (some (u : Int)) = (key.take u).map nD := by rw [cutG_to, List.map_take]
      have c2 : cutG (key.map nD) (some ((u : Int) + 1)) none = (key.drop (u + 1)).map nD := by
        have := cutG_from (key.map nD) (u + 1)
        rw [List.map_drop]
        exact this
      have s1 : soO (vE 6) [some (houseD h), some (standD (hall, key)), some (deedD (.lift u)), some (nD hall), some (keyD key), some (.str "lift"), some (nD u), none, some (.bool true), some (.int 1), some (.list ((h.smiths.filter fun s => s.1 == hall).map fun s => nD s.2.1)), none, none, none, none, none] = some (some (u : Int)) := rfl
      have s2 : soO (op2 addD (vE 6) (cE (.int 1))) [some (houseD h), some (standD (hall, key)), some (deedD (.lift u)), some (nD hall), some (keyD key), some (.str "lift"), some (nD u), none, some (.bool true), some (.int 1), some (.list ((h.smiths.filter fun s => s.1 == hall).map fun s => nD s.2.1)), none, none, none, none, none] = some (some ((u : Int) + 1)) := rfl
      have k1 : (key[u] : Int) + 1 = ((key[u] + 1 : Nat) : Int) := by omega
      have m1 : op2 addD (op2 addD (slE (vE 4) noO (soO (vE 6))) (tupE (consE (op2 addD (op2 ixD (vE 4) (vE 6)) (vE 9)) nilE))) (slE (vE 4) (soO (op2 addD (vE 6) (cE (.int 1)))) noO) [some (houseD h), some (standD (hall, key)), some (deedD (.lift u)), some (nD hall), some (keyD key), some (.str "lift"), some (nD u), none, some (.bool true), some (.int 1), some (.list ((h.smiths.filter fun s => s.1 == hall).map fun s => nD s.2.1)), none, none, none, none, none] = some (keyD (done h (hall, key) (.lift u)).2) := by
        simp only [op2_eq, slE_eq, s1, s2, vE_eq, tupE_eq, consE_eq, nilE_eq, noO_eq]
        have h4' : ixD (.tuple (key.map nD)) (nD u) = some (nD key[u]) := h4
        simp only [List.getElem?_cons_succ, List.getElem?_cons_zero, Option.getD_some, Option.bind_some, Option.map_some, keyD, h4', addD_int, slD_tup, c1, c2, k1]
        rw [tupF_of (by simp) (by simp)]
        simp only [Option.bind_some]
        rw [addD_tup (by simp; omega)]
        simp only [Option.bind_some]
        rw [addD_tup (by simp; omega), e7]
        simp
      rw [rtS_eq, tupE_eq, consE_eq, consE_eq, m1]
      simp [tupF_of, keyD, behD, hc]
      simp [standD, done, toH, keyD]
def mays (h : House) (s : Stand) : List Deed := (deeds h).filter (can h s)
theorem law_may_ok (G : Good h) {s : Stand} (hs : GoodS h s) : f_law_may [houseD h, standD s] = some (.list ((mays h s).map deedD)) := by
  have dl := deeds_len G
  refine fnF_rt (N := 3) ?_
  show g_law_may [some (houseD h), some (standD s), none] = _
  unfold g_law_may
  have e1 : lcE (seqI (callE f_law_deeds (consE (vE 0) nilE))) (nmP 2) (notNE (callE f_law_behind (consE (vE 0) (consE (vE 1) (consE (vE 2) nilE))))) (vE 2) [2] [some (houseD h), some (standD s), none] = some (.list (((deeds h).filter (can h s)).map deedD)) :=
    lcE_some (ds := (deeds h).map deedD) (seqI_lst (by simp [law_deeds_ok G])) (by simp; omega) (lcL_map fun d hd => ⟨_, rfl, by
      simp [wipeE, law_behind_ok G hs (deeds_good.mp hd)]
      unfold behD
      cases can h s d <;> simp [standD], fun _ => ⟨by simp [wipeE], by cases d <;> rfl⟩⟩)
  rw [rtS_eq, e1]
  rfl
end
end Wk

set_option maxHeartbeats 2000000
/-! dicts with keys that are (nested) tuples: KD K P w H a kvs, its keys told as data -/
namespace Wk
open PySem L2 PyProof.Rows
mutual
def nkD : PyData → NestedKey
  | .none => .none
  | .int i => .num i
  | .bool b => .num (if b = true then 1 else 0)
  | .str x => .text x
  | .tuple ds => .tup (nkDs ds)
  | _ => .none
def nkDs : List PyData → List NestedKey
  | [] => []
  | d :: ds => nkD d :: nkDs ds
end
-- data without bools, lists, dicts
mutual
def plD : PyData → Bool
  | .none => true
  | .int _ => true
  | .str _ => true
  | .tuple ds => plDs ds
  | _ => false
def plDs : List PyData → Bool
  | [] => true
  | d :: ds => plD d && plDs ds
end
mutual
theorem nkD_inj : ∀ (d e : PyData), plD d = true → plD e = true → nkD d = nkD e → d = e
  | .none, e, _, h2, h => by cases e <;> simp_all [nkD, plD]
  | .int i, e, _, h2, h => by cases e <;> simp_all [nkD, plD]
  | .str x, e, _, h2, h => by cases e <;> simp_all [nkD, plD]
  | .bool _, _, h1, _, _ => by simp [plD] at h1
  | .list _, _, h1, _, _ => by simp [plD] at h1
  | .dict _, _, h1, _, _ => by simp [plD] at h1
  | .tuple ds, e, h1, h2, h => by
    cases e with
    | tuple es =>
      rw [plD] at h1 h2
      rw [nkD, nkD] at h
      injection h with h
      rw [nkDs_inj ds es h1 h2 h]
    | _ => simp_all [nkD, plD]
theorem nkDs_inj : ∀ (ds es : List PyData), plDs ds = true → plDs es = true → nkDs ds = nkDs es → ds = es
  | [], [], _, _, _ => rfl
  | [], _ :: _, _, _, h => by simp [nkDs] at h
  | _ :: _, [], _, _, h => by simp [nkDs] at h
  | d :: ds, e :: es, h1, h2, h => by
    rw [plDs, Bool.and_eq_true] at h1 h2
    rw [nkDs, nkDs] at h
    injection h with a b
    rw [nkD_inj d e h1.1 h2.1 a, nkDs_inj ds es h1.2 h2.2 b]
end
section
variable {X : Cx} {pins : List (Addr × Obj)} {σ : L2.St} {H : Hp} {s : Shared}
mutual
theorem im_key (I : Inv X pins σ H s) : ∀ (d : PyData) (v : V) (u : Value), Im X.K H v d → RelV v u → NestedIs s.heap (nkD d) u
  | .none, _, u, h, r => by
    cases h
    cases (show u = .none from r)
    exact .none
  | .bool b, _, u, h, r => by
    cases h
    cases (show u = .bool b from r)
    exact .bool rfl
  | .int i, _, u, h, r => by
    cases h
    obtain ⟨t, rfl⟩ := (show ∃ t, u = Value.int i t from r)
    exact .int i t
  | .str x, _, u, h, r => by
    cases h
    obtain ⟨t, rfl⟩ := (show ∃ t, u = Value.str x t from r)
    exact .text x t
  | .list _, _, _, h, _ => by cases h
  | .dict _, _, _, h, _ => by cases h
  | .tuple ds, _, u, h, r => by
    cases h with
    | tup hs ha =>
      obtain rfl : u = Value.ref _ := r
      obtain ⟨its, rv, p, hz⟩ := I.tuple (SqT.of hs)
      obtain ⟨o, ho, hc, n, hd⟩ := p
      exact .tup ho hc hd (by simpa using im_keys I ds _ its ha rv)
theorem im_keys (I : Inv X pins σ H s) : ∀ (ds : List PyData) (vs : List V) (us : List Value), ImAll X.K H vs ds → Vals vs us → NestedAll s.heap (nkDs ds) us
  | [], _, _, h, r => by
    cases h
    cases r
    exact .nil
  | d :: ds, _, _, h, r => by
    cases h with
    | cons h1 h2 =>
      cases r with
      | cons r1 r2 => exact .cons (im_key I d _ _ h1 r1) (im_keys I ds _ _ h2 r2)
end
end
abbrev NKs := List (NestedKey × Addr × V)
abbrev NRel : NKs → List (NestedKey × Addr × Value) → Prop := Paired fun p q => p.1 = q.1 ∧ p.2.1 = q.2.1 ∧ RelV p.2.2 q.2.2
def ndO (P : Program) (w : World) (a : Addr) (o : Obj) (ks : NKs) : HO := .ext fun h => ks.length ≤ sizeLine ∧ (a == sysModules) = false ∧ ∃ xs, NRel ks xs ∧
  ∃ es ep, h.get? a = some o ∧ o.ExactDict ∧ o.data = .dict es ep ∧ es.toList = xs.map (entryOfKey (nestedKind P w)) ∧ (xs.map (·.1)).Nodup
theorem ndO_ok {P : Program} {w : World} {a : Addr} {ks : NKs} {H : Hp} {h : Heap} (hz : ks.length ≤ sizeLine) (hd : (a == sysModules) = false) {xs : List (NestedKey × Addr × Value)} (r : NRel ks xs) (x : h.DictOfH (nestedKind P w) a xs) : ∃ o, ObjOk P w H h a (ndO P w a o ks) := by
  obtain ⟨o, es, ep, h1, h2, h3, h4, _, h5⟩ := x
  refine ⟨o, ⟨hz, hd, xs, r, es, ep, h1, h2, h3, h4, h5⟩, ⟨o, h1⟩, fun g1 g2 q k => ?_⟩
  obtain ⟨z1, z2, ys, r2, es2, ep2, k1, k2, k3, k4, k5⟩ := q
  exact ⟨z1, z2, ys, r2, es2, ep2, k o k1, k2, k3, k4, k5⟩
/-- the keys stand, as data, where the entries say -/
def KsOk (K : PySem.W.Frag) (H : Hp) (kvs : List (PyData × V)) (ks : NKs) : Prop := Paired (fun (p : PyData × V) (q : NestedKey × Addr × V) => q.1 = nkD p.1 ∧ Im K H (.ref q.2.1) p.1 ∧ (nkD p.1).depth ≤ 8 ∧ q.2.2 = p.2) kvs ks
def KD (P : Program) (w : World) (K : PySem.W.Frag) (H : Hp) (a : Addr) (kvs : List (PyData × V)) : Prop := ∃ o ks, H a = some (ndO P w a o ks) ∧ KsOk K H kvs ks
theorem KsOk.mono {K : PySem.W.Frag} {H H' : Hp} (t : TK H H') : ∀ {kvs : List (PyData × V)} {ks : NKs}, KsOk K H kvs ks → KsOk K H' kvs ks
  | _, _, .nil => .nil
  | _, _, .cons ⟨a, b, c, d⟩ r => .cons ⟨a, b.mono t, c, d⟩ (KsOk.mono t r)
theorem KsOk.len {K : PySem.W.Frag} {H : Hp} {kvs : List (PyData × V)} {ks : NKs} (h : KsOk K H kvs ks) : kvs.length = ks.length := Paired.length h
theorem KD.mono {P : Program} {w : World} {K : PySem.W.Frag} {H H' : Hp} {a : Addr} {kvs : List (PyData × V)} (t : TK H H') (e : ∀ o, H a = some o → H' a = some o) (h : KD P w K H a kvs) : KD P w K H' a kvs := by
  obtain ⟨o, ks, h1, h2⟩ := h
  exact ⟨o, ks, e _ h1, h2.mono t⟩
theorem KD.same {P : Program} {w : World} {K : PySem.W.Frag} {H H' : Hp} {a : Addr} {kvs : List (PyData × V)} (e : Same H H') (h : KD P w K H a kvs) : KD P w K H' a kvs := h.mono (same_tk e) fun _ q => e _ _ q
theorem KD.ex {P : Program} {w : World} {K : PySem.W.Frag} {H : Hp} {a : Addr} {kvs : List (PyData × V)} (h : KD P w K H a kvs) : ∃ φ, H a = some (.ext φ) := by
  obtain ⟨o, ks, h1, _⟩ := h
  exact ⟨_, h1⟩
/-- another object is written -/
theorem KD.other {P : Program} {w : World} {K : PySem.W.Frag} {H : Hp} {a b : Addr} {o o' : HO} {kvs : List (PyData × V)} (hb : H b = some o') (nt : ∀ xs, o' ≠ .tup xs) (ne : a ≠ b) (h : KD P w K H a kvs) : KD P w K (upd H b o) a kvs :=
  h.mono (TK.updO hb nt) fun _ q => by rw [upd_ne ne]; exact q
def kGet (kvs : List (PyData × V)) (k : NestedKey) : Option V := (kvs.find? fun p => decide (nkD p.1 = k)).map (·.2)
theorem kGet_rel {K : PySem.W.Frag} {H : Hp} (k : NestedKey) : ∀ {kvs : List (PyData × V)} {ks : NKs} {xs : List (NestedKey × Addr × Value)}, KsOk K H kvs ks → NRel ks xs → RelO (kGet kvs k) ((atKey xs k).map (·.2))
  | _, _, _, .nil, .nil => True.intro
  | p :: kvs, q :: ks, x :: xs, .cons ⟨a1, a2, a3, a4⟩ r, .cons ⟨b1, b2, b3⟩ t => by
    by_cases h : nkD p.1 = k
    · have h2 : x.1 = k := by rw [← b1, a1, h]
      have e1 : kGet (p :: kvs) k = some p.2 := by simp [kGet, h]
      have e2 : atKey (x :: xs) k = some x.2 := by simp [atKey, h2]
      rw [e1, e2]
      show RelV p.2 x.2.2
      rw [← a4]
      exact b3
    · have h2 : ¬ x.1 = k := by rw [← b1, a1]; exact h
      have e1 : kGet (p :: kvs) k = kGet kvs k := by simp [kGet, h]
      have e2 : atKey (x :: xs) k = atKey xs k := by simp [atKey, h2]
      rw [e1, e2]
      exact kGet_rel k r t
section
variable {X : Cx} {pins : List (Addr × Obj)} {σ : L2.St} {H : Hp} {s : Shared} {a : Addr} {kvs : List (PyData × V)} {A : Around} {E : Value → Shared → Prop}
theorem is_ok (I : Inv X pins σ H s) : ∀ {kvs : List (PyData × V)} {ks : NKs} {xs : List (NestedKey × Addr × Value)}, KsOk X.K H kvs ks → NRel ks xs → ∀ x ∈ xs, (nestedKind X.prog X.w).is s.heap x.1 x.2.1
  | _, _, _, .nil, .nil, x, hx => nomatch hx
  | p :: kvs, q :: ks, x :: xs, .cons ⟨a1, a2, a3, a4⟩ r, .cons ⟨b1, b2, b3⟩ t, y, hy => by
    rcases List.mem_cons.mp hy with e | hy
    · subst e
      refine ⟨?_, by rw [← b1, a1]; exact a3⟩
      rw [← b1, a1, ← b2]
      exact im_key I _ _ _ a2 rfl
    · exact is_ok I r t y hy
theorem kd_of (I : Inv X pins σ H s) (h : KD X.prog X.w X.K H a kvs) : ∃ ob ks xs, H a = some (ndO X.prog X.w a ob ks) ∧ KsOk X.K H kvs ks ∧ NRel ks xs ∧ s.heap.DictOfH (nestedKind X.prog X.w) a xs ∧ (a == sysModules) = false ∧ ks.length ≤ sizeLine ∧ xs.length = kvs.length := by
  obtain ⟨o, ks, h1, h2⟩ := h
  obtain ⟨⟨z1, z2, xs, r, es, ep, k1, k2, k3, k4, k5⟩, _⟩ := I.hok a _ h1
  exact ⟨o, ks, xs, h1, h2, r, ⟨o, es, ep, k1, k2, k3, k4, is_ok I h2 r, k5⟩, z2, z1, by rw [← Paired.length r, h2.len]⟩
theorem room_in1 (hu : A.units + 9 < cLine) : (nestedKind X.prog X.w).room A.in1 := by
  show A.units + 1 + 8 < cLine
  omega
/-- what is asked of a key: data of small depth -/
def KeyD (K : PySem.W.Frag) (H : Hp) (y : V) (d : PyData) : Prop := Im K H y d ∧ (∃ ds, d = .tuple ds) ∧ (nkD d).depth ≤ 8
theorem keyD_ref {d : PyData} {y : V} (h : KeyD X.K H y d) : ∃ b, y = .ref b := by
  obtain ⟨h1, ⟨ds, rfl⟩, _⟩ := h
  cases h1
  exact ⟨_, rfl⟩
theorem kd_in {Q : Value → Shared → Prop} {y : V} {u : Value} {d : PyData} (hu : A.units + 9 < cLine) (I : Inv X pins σ H s) (h : KD X.prog X.w X.K H a kvs) (k : KeyD X.K H y d) (ry : RelV y u)
    (q : ∀ s', Inv X pins σ H s' → Q (.bool (kGet kvs (nkD d)).isSome) s') : wpAny (model X.prog X.w) A (compareOp .In u (.ref a)) Q E s := by
  obtain ⟨b, rfl⟩ := keyD_ref k
  obtain rfl : u = Value.ref b := ry
  obtain ⟨ob, ks, xs, h1, h2, r, dd, hd, hz, hl⟩ := kd_of I h
  refine wpAny_in_heap (knd := nestedKind X.prog X.w) (k := nkD d) (room_in1 hu) ⟨im_key I _ _ _ k.1 rfl, k.2.2⟩ hd dd ?_
  have e : (atKey xs (nkD d)).isSome = (kGet kvs (nkD d)).isSome := by rw [(kGet_rel (nkD d) h2 r).isSome_eq, Option.isSome_map]
  rw [e]
  exact q _ (I.tok _)
theorem kd_notIn {Q : Value → Shared → Prop} {y : V} {u : Value} {d : PyData} (hu : A.units + 9 < cLine) (I : Inv X pins σ H s) (h : KD X.prog X.w X.K H a kvs) (k : KeyD X.K H y d) (ry : RelV y u)
    (q : ∀ s', Inv X pins σ H s' → Q (.bool (!(kGet kvs (nkD d)).isSome)) s') : wpAny (model X.prog X.w) A (compareOp .NotIn u (.ref a)) Q E s := by
  obtain ⟨b, rfl⟩ := keyD_ref k
  obtain rfl : u = Value.ref b := ry
  obtain ⟨ob, ks, xs, h1, h2, r, dd, hd, hz, hl⟩ := kd_of I h
  show wpAny _ _ (do return .bool (!(← contains (.ref a) (.ref b)))) Q E s
  refine wpAny_bind (wpAny_contains_heap (knd := nestedKind X.prog X.w) (k := nkD d) (room_in1 hu) ⟨im_key I _ _ _ k.1 rfl, k.2.2⟩ hd dd (wpAny_pure ?_))
  have e : (atKey xs (nkD d)).isSome = (kGet kvs (nkD d)).isSome := by rw [(kGet_rel (nkD d) h2 r).isSome_eq, Option.isSome_map]
  rw [e]
  exact q _ (I.tok _)
theorem kd_get {Q : Value → Shared → Prop} {y v : V} {u : Value} {d : PyData} (hu : A.units + 9 < cLine) (I : Inv X pins σ H s) (h : KD X.prog X.w X.K H a kvs) (k : KeyD X.K H y d) (ry : RelV y u) (g : kGet kvs (nkD d) = some v)
    (q : ∀ s' w', Inv X pins σ H s' → RelV v w' → Q w' s') : wpAny (model X.prog X.w) A (getItem (.ref a) u) Q E s := by
  obtain ⟨b, rfl⟩ := keyD_ref k
  obtain rfl : u = Value.ref b := ry
  obtain ⟨ob, ks, xs, h1, h2, r, dd, hd, hz, hl⟩ := kd_of I h
  have rr := kGet_rel (nkD d) h2 r
  rw [g] at rr
  cases e : atKey xs (nkD d) with
  | none => rw [e] at rr; exact rr.elim
  | some p =>
    rw [e] at rr
    exact wpAny_getItem_heap (knd := nestedKind X.prog X.w) (k := nkD d) (room_in1 hu) ⟨im_key I _ _ _ k.1 rfl, k.2.2⟩ dd e (q _ _ (I.tok _) rr)
theorem nrel_snoc {ks : NKs} {xs : List (NestedKey × Addr × Value)} {p : NestedKey × Addr × V} {q : NestedKey × Addr × Value} (h : NRel ks xs) (e : p.1 = q.1 ∧ p.2.1 = q.2.1 ∧ RelV p.2.2 q.2.2) : NRel (ks ++ [p]) (xs ++ [q]) := by
  induction h with
  | nil => exact .cons e .nil
  | cons a _ ih => exact .cons a ih
theorem ksOk_snoc {K : PySem.W.Frag} {kvs : List (PyData × V)} {ks : NKs} {p : PyData × V} {q : NestedKey × Addr × V} (h : KsOk K H kvs ks) (e : q.1 = nkD p.1 ∧ Im K H (.ref q.2.1) p.1 ∧ (nkD p.1).depth ≤ 8 ∧ q.2.2 = p.2) : KsOk K H (kvs ++ [p]) (ks ++ [q]) := by
  induction h with
  | nil => exact .cons e .nil
  | cons a _ ih => exact .cons a ih
/-- a new key is laid -/
theorem kd_put {Q : Unit → Shared → Prop} {y v : V} {u u' : Value} {d : PyData} (hu : A.units + 9 < cLine) (I : Inv X pins σ H s) (h : KD X.prog X.w X.K H a kvs) (k : KeyD X.K H y d) (ry : RelV y u) (rv : RelV v u') (g : kGet kvs (nkD d) = none) (hl : kvs.length < sizeLine)
    (q : ∀ s' o, Inv X pins σ (upd H a o) s' → (∀ xs, o ≠ .tup xs) → KD X.prog X.w X.K (upd H a o) a (kvs ++ [(d, v)]) → Q () s') : wpAny (model X.prog X.w) A (setItem (.ref a) u u') Q E s := by
  obtain ⟨b, rfl⟩ := keyD_ref k
  obtain rfl : u = Value.ref b := ry
  obtain ⟨ob, ks, xs, h1, h2, r, dd, hd, hz, hl2⟩ := kd_of I h
  have rr := kGet_rel (nkD d) h2 r
  rw [g] at rr
  have e : atKey xs (nkD d) = none := by
    cases e : atKey xs (nkD d) with
    | none => rfl
    | some p => rw [e] at rr; exact rr.elim
  refine wpAny_setItem_heap (knd := nestedKind X.prog X.w) (k := nkD d) (hsz := by omega) (room_in1 hu) ⟨im_key I _ _ _ k.1 rfl, k.2.2⟩ dd fun h' dd' hs => ?_
  rw [storedH_new e] at dd'
  have hkl := h2.len
  have hex : ∃ q, h'.get? a = some q := let ⟨o, _, _, ho, _⟩ := dd'; ⟨o, ho⟩
  have t : ∀ o2, TK H (upd H a (ndO X.prog X.w a o2 (ks ++ [(nkD d, b, v)]))) := fun o2 => TK.updO h1 fun _ z => nomatch z
  obtain ⟨o2, ok2⟩ := ndO_ok (H := H) (by simp; omega) hd (nrel_snoc r (p := (nkD d, b, v)) ⟨rfl, rfl, rv⟩) dd'
  replace t := t o2
  refine q _ (ndO X.prog X.w a o2 (ks ++ [(nkD d, b, v)])) ?_ (fun _ z => nomatch z) ⟨_, _, upd_same, ?_⟩
  · exact d_write I (by rw [h1]; exact True.intro) hs hex ok2
  · exact ksOk_snoc (h2.mono t) ⟨rfl, k.1.mono t, k.2.2, rfl⟩
theorem kd_type (I : Inv X pins σ H s) (h : KD X.prog X.w X.K H a kvs) : s.TypeIs (.ref a) "dict" := by
  obtain ⟨ob, ks, xs, h1, h2, r, dd, _⟩ := kd_of I h
  obtain ⟨o, es, ep, k1, k2, _⟩ := dd
  exact ⟨o, k1, k2.1⟩
end
/-! ### the readings -/
def tKGet (td ty : TE) (P : Program) (w : World) (K : PySem.W.Frag) : TE := fun σ H Q => td σ H fun x H1 => ty σ H1 fun y H2 => ∃ a kvs d v, x = .ref a ∧ KD P w K H2 a kvs ∧ KeyD K H2 y d ∧ kGet kvs (nkD d) = some v ∧ Q v H2
def tKIn (ty td : TE) (P : Program) (w : World) (K : PySem.W.Frag) : TE := fun σ H Q => ty σ H fun y H1 => td σ H1 fun x H2 => ∃ a kvs d, x = .ref a ∧ KD P w K H2 a kvs ∧ KeyD K H2 y d ∧ Q (.bl (kGet kvs (nkD d)).isSome) H2
def tKNotIn (ty td : TE) (P : Program) (w : World) (K : PySem.W.Frag) : TE := fun σ H Q => ty σ H fun y H1 => td σ H1 fun x H2 => ∃ a kvs d, x = .ref a ∧ KD P w K H2 a kvs ∧ KeyD K H2 y d ∧ Q (.bl (!(kGet kvs (nkD d)).isSome)) H2
def sKPut (td ty tv : TE) (P : Program) (w : World) (K : PySem.W.Frag) : TS := fun D σ H => tv σ H fun v H1 => td σ H1 fun x H2 => ty σ H2 fun y H3 => ∃ a kvs d, x = .ref a ∧ KD P w K H3 a kvs ∧ KeyD K H3 y d ∧ kGet kvs (nkD d) = none ∧ kvs.length < sizeLine ∧
  ∀ o, (∀ xs, o ≠ .tup xs) → KD P w K (upd H3 a o) a (kvs ++ [(d, v)]) → D.nx σ (upd H3 a o)
section
variable {X : Cx} {o i e value : Expr} {pos pos' tpos : Pos} {td ty tv : TE}
theorem pe_kget (hu : X.A.units + 9 < cLine) (ho : PE X o td) (hi : PE X i ty) (hs : NoSl i := by first | (intro _ _; rfl) | assumption) : PE X (.Subscript o i pos) (tKGet td ty X.prog X.w X.K) := by
  refine ⟨fun pins s σ H Q I h => ?_⟩
  refine subD_of PySem.F.slot_dict_getitem.lookup hs (thn (ho.run pins s σ H _ I h) fun u s1 ⟨x, H1, I1, rx, q1⟩ => thn (hi.run pins s1 σ H1 _ I1 q1) fun iv s2 ⟨y, H2, I2, ry, a, kvs, d, v, ex, g, k, gv, q2⟩ => ?_)
  subst ex
  obtain rfl : u = Value.ref a := rx
  exact ⟨kd_type I2 g, kd_get hu I2 g k ry gv fun s3 w' I3 rw' => ⟨v, H2, I3, rw', q2⟩⟩
theorem pc_kin (hu : X.A.units + 9 < cLine) (hi : PE X i ty) (ho : PE X o td) : PC X .In i o (tKIn ty td X.prog X.w X.K) := by
  refine ⟨fun pins s σ H Q I h => ?_⟩
  refine thn (hi.run pins s σ H _ I h) fun iv s1 ⟨y, H1, I1, ry, q1⟩ => thn (ho.run pins s1 σ H1 _ I1 q1) fun u s2 ⟨x, H2, I2, rx, a, kvs, d, ex, g, k, q2⟩ => ?_
  subst ex
  obtain rfl : u = Value.ref a := rx
  exact kd_in hu I2 g k ry fun s3 I3 => ⟨.bl _, H2, I3, rfl, q2⟩
theorem pc_knotin (hu : X.A.units + 9 < cLine) (hi : PE X i ty) (ho : PE X o td) : PC X .NotIn i o (tKNotIn ty td X.prog X.w X.K) := by
  refine ⟨fun pins s σ H Q I h => ?_⟩
  refine thn (hi.run pins s σ H _ I h) fun iv s1 ⟨y, H1, I1, ry, q1⟩ => thn (ho.run pins s1 σ H1 _ I1 q1) fun u s2 ⟨x, H2, I2, rx, a, kvs, d, ex, g, k, q2⟩ => ?_
  subst ex
  obtain rfl : u = Value.ref a := rx
  exact kd_notIn hu I2 g k ry fun s3 I3 => ⟨.bl _, H2, I3, rfl, q2⟩
theorem ps_kput (hu : X.A.units + 9 < cLine) (ho : PE X o td) (hi : PE X i ty) (hv : PE X value tv) (hs : swapsWith value (some (.Subscript o i pos')) pos.line X.env = pure false := by rfl) :
    PS X (.Assign [.Subscript o i pos'] value pos) (sKPut td ty tv X.prog X.w X.K) := by
  refine ⟨fun pins s σ H D I h => ?_⟩
  refine wpAny_Assign_Subscript (thn (hv.run pins s σ H _ I h) fun r s1 ⟨v, H1, I1, rv, q1⟩ => thn (ho.run pins s1 σ H1 _ I1 q1) fun u s2 ⟨x, H2, I2, rx, q2⟩ => thn (hi.run pins s2 σ H2 _ I2 q2) fun iv s3 ⟨y, H3, I3, ry, a, kvs, d, ex, g, k, gn, hl, q3⟩ => ?_) hs
  subst ex
  obtain rfl : u = Value.ref a := rx
  exact kd_put hu I3 g k ry rv gn hl fun s4 ob I4 nt kd => ⟨σ, _, I4, q3 ob nt kd⟩
def tKNew (P : Program) (w : World) (K : PySem.W.Frag) : TE := fun _ H Q => ∀ p o, H p = none → (∀ xs, o ≠ .tup xs) → KD P w K (upd H p o) p [] → Q (.ref p) (upd H p o)
theorem pe_knew : PE X (.Dict [] [] pos) (tKNew X.prog X.w X.K) := ⟨fun pins s σ H Q I h => by
  obtain ⟨o2, ok2⟩ := ndO_ok (P := X.prog) (w := X.w) (H := H) (ks := []) (Nat.zero_le _) (beq_eq_false_iff_ne.mpr (Ne.symm (Nat.ne_of_lt I.big))) .nil (Heap.DictOfH.new s.heap)
  exact wpAny_Dict_empty ⟨.ref s.heap.objs.size, _, I.laid (a := s.heap.objs.size) (o := ndO X.prog X.w s.heap.objs.size o2 []) (t' := s.toks) (fun _ _ q => Heap.get?_push_of_some _ q) (Nat.le_refl _) ok2, rfl, h _ _ (I.hok.fresh (Nat.le_refl _)) (fun _ z => nomatch z) ⟨_, [], upd_same, .nil⟩⟩⟩
end
/-! ### for k in d -/
def Itn (P : Program) (w : World) (a : Addr) (o : Obj) (ks : NKs) : It :=
  ⟨fun i H => H a = some (ndO P w a o ks) ∧ i < ks.length, fun i H x H' => H' = H ∧ ∃ p, ks[i]? = some p ∧ x = .ref p.2.1, fun i H => H a = some (ndO P w a o ks) ∧ ks.length ≤ i⟩
theorem Inv.nd {X : Cx} {pins : List (Addr × Obj)} {σ : L2.St} {H : Hp} {s : Shared} {a : Addr} {o : Obj} {ks : NKs} (I : Inv X pins σ H s) (h : H a = some (ndO X.prog X.w a o ks)) :
    (a == sysModules) = false ∧ s.heap.get? a = some o ∧ o.ExactDict ∧ ∃ (es : Array DictEntry) (ep : Nat), o.data = .dict es ep ∧ es.size = ks.length ∧ ∀ (i : Nat) (p : NestedKey × Addr × V), ks[i]? = some p → ∃ en : DictEntry, es[i]? = some en ∧ en.key = .ref p.2.1 := by
  obtain ⟨⟨z1, z2, xs, r, es, ep, k1, k2, k3, k4, k5⟩, _⟩ := I.hok a _ h
  refine ⟨z2, k1, k2, es, ep, k3, ?_, fun i p e => ?_⟩
  · rw [size_of_entries k4, Paired.length r]
  · obtain ⟨b, hb, e1, e2, _⟩ := paired_get r e
    have q := entry_at k4 i
    rw [hb] at q
    refine ⟨_, q, ?_⟩
    show Value.ref b.2.1 = _
    rw [e2]
theorem turn_nd {P : Program} {w : World} {K : PySem.W.Frag} {tg : Expr} {a : Addr} {o : Obj} {ks : NKs} {es : Array DictEntry} {ep : Nat} (it : Addr) (hod : o.data = .dict es ep) : Turn P w K tg (Itn P w a o ks) [it] it (fun i h => h.IsKeyIter it a i ks.length ep) where
  mem := by simp
  obj := fun i h st b hb => by
    have e : b = it := by simpa using hb
    subst e
    obtain ⟨oi, e, c, dd⟩ := st
    exact ⟨oi, e, fun v z => by rw [dd] at z; cases z⟩
  keep := fun i h h' st k => st.at fun oi e => k it (by simp) oi e
  item := by
    intro X hP hw hK hc i pins s σ H E I hf st hg
    subst hP hw hK
    obtain ⟨hd, hi⟩ := hg
    obtain ⟨f0, f1, f2, f3, f4, f5⟩ := hf it (by simp)
    obtain ⟨hs, hgd, hx, es', ep', hdt, hsz, ent⟩ := Inv.nd I hd
    obtain ⟨rfl, rfl⟩ := dict_ep hod hdt
    obtain ⟨p, hp⟩ : ∃ p, ks[i]? = some p := ⟨ks[i], List.getElem?_eq_getElem hi⟩
    obtain ⟨en, hen, hkey⟩ := ent i p hp
    refine next_key_item st hgd hdt hsz hen fun h' st' sb => ?_
    have I1 : Inv X pins σ H { s with heap := h' } := I.turned (t' := s.toks) (fun b ob hb e => (sb.2 b hb).trans e) f0 f1 f3 f4 f5
    obtain ⟨oi, e, c, dd⟩ := id st'
    exact ⟨en.key, rfl, go_of (s := { s with heap := h' }) e c dd (by decide) ⟨.ref p.2.1, H, I1, hkey, ⟨rfl, p, hp, rfl⟩, st', fun b hb => (hf b hb).1⟩⟩
  done := by
    intro X hP hw hK hc i pins s σ H E I hf st hg
    subst hP hw hK
    obtain ⟨hd, hi⟩ := hg
    obtain ⟨f0, f1, f2, f3, f4, f5⟩ := hf it (by simp)
    obtain ⟨hs, hgd, hx, es', ep', hdt, hsz, ent⟩ := Inv.nd I hd
    obtain ⟨rfl, rfl⟩ := dict_ep hod hdt
    exact next_key_end (I.ok.hd hc) st hgd hdt hsz hi fun h' eb => ⟨rfl, I.turned (t' := s.toks) (fun b ob hb e => eb b ob hb e) f0 f1 f3 f4 f5⟩
  self := fun A i s Q E st h => by
    refine wpAny_pyIter_slot st.typeIs F.slot_dict_keyiterator_iter (wpAny_call_entry F.slot_dict_keyiterator_iter st.typeIs F.entry_dict_keyiterator_iter ?_ (F.args_dict_keyiterator_iter_1 _))
    show wpAny _ _ (ret (.ref it)) _ _ s
    exact wpAny_pure ⟨_, rfl, "dict_keyiterator", _, st.typeIs, F.slot_dict_keyiterator_next.lookup, h⟩
def iKD (td : TE) (P : Program) (w : World) : TI := fun σ H R => td σ H fun x H1 => ∃ a o ks, x = .ref a ∧ H1 a = some (ndO P w a o ks) ∧ R (Itn P w a o ks) H1
theorem pi_kd {X : Cx} {tg e : Expr} {td : TE} (he : PE X e td) : PI X tg e (iKD td X.prog X.w) := by
  refine ⟨fun pins s σ H R I h => ?_⟩
  refine thn (he.run pins s σ H _ I h) fun u s1 ⟨x, H1, I1, rx, a, o, ks, ex, hd, q⟩ => ?_
  subst ex
  obtain rfl : u = Value.ref a := rx
  obtain ⟨hs, hgd, hx, es, ep, hdt, hsz, ent⟩ := Inv.nd I1 hd
  refine iter_keys hs hgd hx hdt (pi_one (tk := s1.toks) I1 _ (turn_nd _ hdt) ⟨_, Heap.get?_push_size _ rfl, rfl, ?_⟩ q)
  rw [hsz] <;> rfl
theorem KsOk.get {K : PySem.W.Frag} {H : Hp} {i : Nat} {q : NestedKey × Addr × V} : ∀ {kvs : List (PyData × V)} {ks : NKs}, KsOk K H kvs ks → ks[i]? = some q → ∃ p, kvs[i]? = some p ∧ Im K H (.ref q.2.1) p.1 := by
  induction i with
  | zero =>
    intro kvs ks h e
    cases h with
    | nil => simp at e
    | cons a r =>
      simp at e
      subst e
      exact ⟨_, rfl, a.2.1⟩
  | succ i ih =>
    intro kvs ks h e
    cases h with
    | nil => simp at e
    | cons a r =>
      obtain ⟨p, h1, h2⟩ := ih r (by simpa using e)
      exact ⟨p, by simpa using h1, h2⟩
/-- the walk over a dict that stays: its keys as data -/
theorem walk_kd {P : Program} {w : World} {K : PySem.W.Frag} {H0 : Hp} {a : Addr} {o : Obj} {ks : NKs} {kvs : List (PyData × V)} (h1 : H0 a = some (ndO P w a o ks)) (h2 : KsOk K H0 kvs ks) :
    L2.Walk (Itn P w a o ks) kvs.length (fun H => TK H0 H ∧ H a = H0 a) (fun i H x H' => H' = H ∧ ∃ p, kvs[i]? = some p ∧ Im K H x p.1) := by
  have hl := h2.len
  refine ⟨fun i H hi g => ⟨by rw [g.2]; exact h1, by omega⟩, fun H g => ⟨by rw [g.2]; exact h1, by omega⟩, fun i H x H' hi g y => ?_⟩
  obtain ⟨e, p, hp, ex⟩ := y
  obtain ⟨q, hq, im⟩ := h2.get hp
  refine ⟨e, q, hq, ?_⟩
  rw [ex]
  exact im.mono g.1
theorem dw_kd {P : Program} {w : World} {K : PySem.W.Frag} {H0 : Hp} {a : Addr} {o : Obj} {ks : NKs} {kvs : List (PyData × V)} (h1 : H0 a = some (ndO P w a o ks)) (h2 : KsOk K H0 kvs ks) : DW K (Itn P w a o ks) (kvs.map (·.1)) H0 := ⟨by
  rw [List.length_map]
  refine (walk_kd h1 h2).mono (fun H' e => ⟨same_tk e, by rw [e _ _ h1, h1]⟩) fun i H1 x H2 hi e ⟨y1, p, y2, y3⟩ => ?_
  subst y1
  exact ⟨p.1, by rw [List.getElem?_map, y2]; rfl, Same.refl _, y3⟩⟩
/-! ### dict([(k, v), ..]) -/
theorem storedAll_new {K : Type} [DecidableEq K] : ∀ (ps xs : List (K × Addr × Value)), ((xs ++ ps).map (·.1)).Nodup → storedAllH xs ps = xs ++ ps
  | [], xs, _ => by simp [storedAllH]
  | p :: ps, xs, h => by
    have e : atKey xs p.1 = none := by
      unfold atKey
      rw [Option.map_eq_none_iff, List.find?_eq_none]
      intro x hx
      rw [List.map_append, List.nodup_append] at h
      have := h.2.2 x.1 (List.mem_map.mpr ⟨x, hx, rfl⟩) p.1 (by simp)
      simpa using this
    show storedAllH (storedH xs p.1 p.2.1 p.2.2) ps = _
    rw [storedH_new e, storedAll_new ps (xs ++ [(p.1, p.2.1, p.2.2)]) (by simpa using h)]
    simp
/-- the pairs stand in the heap -/
def PsOk (K : PySem.W.Frag) (H : Hp) (ps : List Addr) (kvs : List (PyData × V)) : Prop := Paired (fun (p : Addr) (kv : PyData × V) => ∃ y, H p = some (.tup [y, kv.2]) ∧ KeyD K H y kv.1) ps kvs
section
variable {X : Cx} {pins : List (Addr × Obj)} {σ : L2.St} {H : Hp} {s : Shared}
theorem ps_vals (I : Inv X pins σ H s) : ∀ {ps : List Addr} {kvs : List (PyData × V)}, PsOk X.K H ps kvs → ∃ (ks : NKs) (xs : List (NestedKey × Addr × Value)), KsOk X.K H kvs ks ∧ NRel ks xs ∧ xs.length = ps.length ∧ xs.map (·.1) = kvs.map (fun p => nkD p.1) ∧
    ∀ (j : Nat) (x : NestedKey × Addr × Value), xs[j]? = some x → ∃ b, ps[j]? = some b ∧ s.heap.IsTuple b #[.ref x.2.1, x.2.2]
  | _, _, .nil => ⟨[], [], .nil, .nil, rfl, rfl, fun j x e => by simp at e⟩
  | _, _, .cons (a := p) (b := kv) ⟨y, h1, k⟩ t => by
    obtain ⟨ks, xs, a1, a2, a3, a4, a5⟩ := ps_vals I t
    obtain ⟨b, rfl⟩ := keyD_ref k
    obtain ⟨its, rv, ht, _⟩ := I.tuple (SqT.of h1)
    obtain ⟨u, z, ei, ru, rz⟩ := vals2 rv
    subst ei
    obtain rfl : u = Value.ref b := ru
    refine ⟨(nkD kv.1, b, kv.2) :: ks, (nkD kv.1, b, z) :: xs, .cons ⟨rfl, k.1, k.2.2, rfl⟩ a1, .cons ⟨rfl, rfl, rz⟩ a2, by simp [a3], by simp [a4], fun j x e => ?_⟩
    cases j with
    | zero =>
      simp at e
      subst e
      exact ⟨p, rfl, ht⟩
    | succ j =>
      obtain ⟨b', e1, e2⟩ := a5 j x (by simpa using e)
      exact ⟨b', by simpa using e1, e2⟩
theorem call_kdict (hu : X.A.units + 10 < cLine) (hcalm : X.calm = true) : CallR X (.type "dict") (fun xs H Q => ∃ (a : Addr) (ps : List Addr) (kvs : List (PyData × V)), xs = [.ref a] ∧ H a = some (.lst (ps.map V.ref)) ∧ PsOk X.K H ps kvs ∧ (kvs.map fun p => nkD p.1).Nodup ∧
    ∀ p o, H p = none → (∀ xs, o ≠ .tup xs) → KD X.prog X.w X.K (upd H p o) p kvs → Q (.ref p) (upd H p o)) := by
  intro pins s σ H xs us Q I r q
  obtain ⟨a, ps, kvs, ex, hq, hp, nd, q⟩ := q
  subst ex
  obtain ⟨u, eu, rx⟩ := vals1 r
  subst eu
  cases rx
  obtain ⟨its, rv, pl, hz⟩ := I.list (SqL.of hq)
  have ei := refs_at rv
  subst ei
  rw [List.length_map] at hz
  obtain ⟨ks, xs, a1, a2, a3, a4, a5⟩ := ps_vals I hp
  obtain ⟨o, n, ho, hc, hd, hdat⟩ := pl
  have hl : xs.length ≤ sizeLine := by rw [a3]; exact hz
  refine call_dict_pairsH (knd := nestedKind X.prog X.w) (ps := xs) (PairArg.list a ((ps.map Value.ref).toArray) (fun j => (ps[j]?).getD 0) (xs.map fun x => (.ref x.2.1, x.2.2))) (I.ok.hd hcalm)
    (show X.A.units + 1 + 1 + 8 < cLine by omega) ⟨⟨o, n, ho, hc, hd, hdat⟩, by simp [a3], ?_⟩ ⟨by simp, ?_⟩ ?_ (by simpa using hl) fun h' tk hd' hk => ?_
  · intro j k v hj
    rw [List.getElem?_map] at hj
    obtain ⟨x, hx, e⟩ := Option.map_eq_some_iff.mp hj
    cases e
    obtain ⟨b, hb, ht⟩ := a5 j x hx
    exact ⟨by simp [hb], .inl (by show s.heap.IsTuple ((ps[j]?).getD 0) _; rw [hb]; exact ht)⟩
  · intro i key v hr
    have hr : (xs.map fun x => (Value.ref x.2.1, x.2.2))[i]? = some (key, v) := hr
    rw [List.getElem?_map] at hr
    obtain ⟨x, hx, e⟩ := Option.map_eq_some_iff.mp hr
    cases e
    exact ⟨x.1, x.2.1, hx, rfl⟩
  · intro h' hk x hx
    exact nestedKind_stays.stays (fun b o vs n e _ => hk b o (Nat.ne_of_lt (Heap.lt_size e)) (fun z => nomatch z) e) (is_ok I a1 a2 x hx)
  · have hm : (s.heap.objs.size == sysModules) = false := beq_eq_false_iff_ne.mpr (Nat.ne_of_gt I.big)
    rw [storedAll_new xs [] (by rw [List.nil_append, a4]; exact nd), List.nil_append] at hd'
    have hk' : ∀ b o, s.heap.get? b = some o → h'.get? b = some o := fun b o e => hk b o (fun z => nomatch z) e
    obtain ⟨o2, ok2⟩ := ndO_ok (P := X.prog) (w := X.w) (H := H) (by rw [Paired.length a2]; exact hl) hm a2 hd'
    have hn := I.hok.fresh (Nat.le_refl s.heap.objs.size)
    exact ⟨.ref s.heap.objs.size, upd H s.heap.objs.size (ndO X.prog X.w s.heap.objs.size o2 ks), I.laid (t' := tk) hk' (Nat.le_refl _) ok2, rfl, q _ _ hn (fun _ z => nomatch z) ⟨_, _, upd_same, a1.mono (TK.new hn)⟩⟩
end
end Wk

set_option maxHeartbeats 2000000
/-! sorted(x) of data: a dict with nested keys, a list, a tuple -/
namespace Wk
open PySem L2 PyProof.Rows PySem.W
theorem kdl_nd {prog : Program} {w : World} {d : Addr} {es : Array DictEntry} {ep : Nat} (lo : (d == sysModules) = false) : KdlSrc prog w "dict" d d es.size (fun i v => ∃ hi : i < es.size, v = es[i].key) (fun h => h.DictRaw d es ep) where
  type := fun _ hm => hm.typeIs
  there := fun _ hm => let ⟨_, ho, _⟩ := hm; ⟨Heap.lt_size ho, Heap.lt_size ho⟩
  keep := fun _ _ hm hk => hm.at fun o e => hk d (.inl rfl) o e
  notList := by decide
  notTuple := by decide
  hint := fun _ _ _ _ hm hq => kdl_hint_dict hm.typeIs hq
  iter := fun _ s hh hm => ⟨_, _, (fun _ _ hq => wpAny_pyIter_dict_raw lo hm hq), Walks.rawKeys hh _ d (Nat.ne_of_lt (let ⟨_, ho, _⟩ := hm; Heap.lt_size ho)) es ep, ⟨⟨_, Heap.get?_push_size _ rfl, rfl, rfl⟩, hm.at fun o e => Heap.get?_push_of_some _ e⟩⟩
section
variable {X : Cx} {pins : List (Addr × Obj)} {σ : L2.St} {H : Hp} {s : Shared} {A : Around} {E : Value → Shared → Prop}
abbrev ImV (K : PySem.W.Frag) (H : Hp) (u : Value) (d : PyData) : Prop := ∃ v, RelV v u ∧ Im K H v d
theorem each_im {K : PySem.W.Frag} {H : Hp} : ∀ {us : List Value} {ds : List PyData}, EachIs (ImV K H) us ds → ∃ vs, Vals vs us ∧ ImAll K H vs ds
  | _, _, .nil => ⟨[], .nil, .nil⟩
  | _, _, .cons ⟨v, r, i⟩ t => by
    obtain ⟨vs, h1, h2⟩ := each_im t
    exact ⟨v :: vs, .cons r h1, .cons i h2⟩
theorem im_each {K : PySem.W.Frag} {H : Hp} : ∀ {us : List Value} {vs : List V} {ds : List PyData}, Vals vs us → ImAll K H vs ds → EachIs (ImV K H) us ds
  | _, _, _, .nil, .nil => .nil
  | _, _, _, .cons r t, .cons i j => .cons ⟨_, r, i⟩ (im_each t j)
theorem each_mapid {R : Value → PyData → Prop} : ∀ {us : List Value} {ds : List PyData}, EachIs R us ds → EachIs R us (ds.map id)
  | _, _, .nil => .nil
  | _, _, .cons a t => .cons a (each_mapid t)
theorem collect_kd {R : List Value → Shared → Prop} {a : Addr} {kvs : List (PyData × V)} (hh : A.handled = none) (I : Inv X pins σ H s) (h : KD X.prog X.w X.K H a kvs)
    (q : ∀ us h' tk, (∀ b o, s.heap.get? b = some o → h'.get? b = some o) → us.length = kvs.length → EachIs (ImV X.K H) us (kvs.map (·.1)) → R us { s with heap := h', toks := tk }) : wpAny (model X.prog X.w) A (collect (.ref a)) R E s := by
  obtain ⟨ob, ks, xs, h1, h2, r, dd, hd, hz, hl⟩ := kd_of I h
  obtain ⟨_, hg, hex, es, ep, hdat, hsz, ent⟩ := Inv.nd I h1
  have hkl := h2.len
  refine kdu_collect (kdl_nd (es := es) (ep := ep) hd) hh ⟨ob, hg, hex, hdat⟩ (by omega) fun h' tk acc hk hacc => ?_
  refine q acc.toList h' tk hk (by rw [Array.length_toList, hacc.1]; omega) ?_
  have key : ∀ (n : Nat) (us : List Value) (kv : List (PyData × V)), us.length = n → kv.length = n → (∀ (j : Nat) (u : Value) (p : PyData × V), us[j]? = some u → kv[j]? = some p → ImV X.K H u p.1) → EachIs (ImV X.K H) us (kv.map (·.1)) := by
    intro n
    induction n with
    | zero =>
      intro us kv e1 e2 _
      cases us with
      | nil => cases kv with
        | nil => exact .nil
        | cons _ _ => simp at e2
      | cons _ _ => simp at e1
    | succ n ih =>
      intro us kv e1 e2 hj
      cases us with
      | nil => simp at e1
      | cons u us => cases kv with
        | nil => simp at e2
        | cons p kv => exact .cons (hj 0 u p rfl rfl) (ih us kv (by simpa using e1) (by simpa using e2) fun j u p a b => hj (j + 1) u p (by simpa using a) (by simpa using b))
  refine key kvs.length acc.toList kvs (by rw [Array.length_toList, hacc.1]; omega) rfl fun j u p e1 e2 => ?_
  have hj := hacc.2 j u (by rw [← Array.getElem?_toList]; exact e1)
  obtain ⟨hi, e3⟩ := hj
  obtain ⟨pk, hpk⟩ : ∃ pk, ks[j]? = some pk := ⟨ks[j]'(by omega), List.getElem?_eq_getElem (by omega)⟩
  obtain ⟨en, he, hkey⟩ := ent j pk hpk
  rw [Array.getElem?_eq_getElem hi] at he
  cases he
  obtain ⟨p', hp', im⟩ := h2.get hpk
  rw [e2] at hp'
  cases hp'
  exact ⟨.ref pk.2.1, by rw [e3, hkey]; rfl, im⟩
/-- what sorted needs of its items -/
structure Srt (ds : List PyData) : Prop where
  al : AllAlike ds
  so : Sortable ds
  dp : ∀ d ∈ ds, d.depth ≤ 40
  sz : ds.length ≤ sizeLine
theorem sorted_us {u : Value} {ds : List PyData} {Q : VK} (hu : X.A.units + 64 < cLine) (I : Inv X pins σ H s) (S : Srt ds)
    (hcol : ∀ (R : List Value → Shared → Prop) (E : Value → Shared → Prop), (∀ us h' tk, (∀ b o, s.heap.get? b = some o → h'.get? b = some o) → us.length = ds.length → EachIs (ImV X.K H) us ds → R us { s with heap := h', toks := tk }) → wpAny (model X.prog X.w) X.A.in1 (collect u) R E s)
    (q : ∀ p ys, H p = none → (ds.mergeSort (dataLe false id)).Perm ds → ImAll X.K (upd H p (.lst ys)) ys (ds.mergeSort (dataLe false id)) → Q (.ref p) (upd H p (.lst ys))) :
    wpAny (model X.prog X.w) X.A (call (.builtin "sorted") [u]) (EP X pins σ Q) X.xe s := by
  refine Calls.call_function_entry PyProof.Rows.kind_sorted PyProof.Rows.plain_sorted PyProof.Rows.entry_sorted (PyProof.Rows.args_sorted1 _) ?_
  unfold Builtin.«sorted»
  refine wpAny_bind (m := checkCount "sorted" 1 1 _) (wpAny_pure ?_)
  refine wpAny_bind (hcol _ _ fun us h' tk hk hl he => ?_)
  have I1 : Inv X pins σ H { s with heap := h', toks := tk } := I.kept hk
  have hus : us.length ≤ sizeLine := by rw [hl]; exact S.sz
  refine wpAny_bind (wpAny_newList ?_ hus)
  have hoL : (h'.push (seqObj "list" us.toArray 0)).get? h'.objs.size = some (seqObj "list" us.toArray 0) := Heap.get?_push_size _ rfl
  have I2 : Inv X pins σ H { s with heap := h'.push (seqObj "list" us.toArray 0), toks := tk } := I1.kept (t' := tk) fun b o e => Heap.get?_push_of_some _ e
  have er : EachIs (fun v d => ∃ as, Reads (h'.push (seqObj "list" us.toArray 0)) v (id d) as ∧ h'.objs.size ∉ as) us ds := by
    refine he.mono fun v d ⟨x, r, im⟩ => ?_
    obtain ⟨as, rd⟩ := Dp.reads I1 d x v (Im.dp d x im) r
    refine ⟨as, Reads.keeps (fun b o e => Heap.get?_push_of_some _ e) rd, fun hm => ?_⟩
    obtain ⟨o, ho⟩ := PyProof.On.reads_mem_get rd _ hm
    exact absurd (Heap.lt_size ho) (Nat.lt_irrefl _)
  show wpAny _ _ _ _ _ { s with heap := h'.push (seqObj "list" us.toArray 0), toks := tk }
  refine wpAny_bind (wpAny_holding (wpAny_mono (list_sort_data (A := X.A.in1) (β := PyData) (enc := id) (bs := ds) (R := ImV X.K H) (s := { s with heap := h'.push (seqObj "list" us.toArray 0), toks := tk }) hoL he er (by rw [List.map_id]; exact S.al) (by rw [List.map_id]; exact S.so) S.sz
    (fun b hb => by have := S.dp b hb; show X.A.units + 1 + 1 + b.depth < cLine; omega) (Q := fun _ s' => ∃ out : List Value, out.length = ds.length ∧ EachIs (ImV X.K H) out (ds.mergeSort (dataLe false id)) ∧ s' = { s with heap := sortedHeap (h'.push (seqObj "list" us.toArray 0)) h'.objs.size us (List.toArray out), toks := tk })
    (fun out ho eo => ⟨out, ho, eo, rfl⟩)) (fun _ s' ⟨out, ho, eo, es'⟩ => ?_) fun _ _ e => e))
  subst es'
  obtain ⟨vs, rv, iv⟩ := each_im eo
  obtain ⟨e', he'⟩ := PyProof.Rows.sortedHeap_at (vs := us) (out := List.toArray out) hoL
  have hp : H h'.objs.size = none := I1.hok.fresh (Nat.le_refl _)
  have hlen : vs.length ≤ sizeLine := by rw [rv.length, ho]; exact S.sz
  refine wpAny_pure ⟨_, rfl, .ref h'.objs.size, upd H h'.objs.size (.lst vs), I1.laid (t' := tk) (fun b o e => ?_) (Nat.le_refl _) (show ObjOk X.prog X.w _ _ _ (.lst vs) from ⟨hlen, out, e', rv, by simpa using he'⟩), rfl, q _ _ hp (List.mergeSort_perm ..) (iv.mono (TK.new hp))⟩
  have e2 := Heap.get?_push_of_some (seqObj "list" us.toArray 0) e
  exact (PyProof.Rows.sortedHeap_old (Nat.ne_of_lt (Heap.lt_size e)) (Heap.lt_size e2)).trans e2
theorem collect_seq {R : List Value → Shared → Prop} {a : Addr} {xs : List V} {ds : List PyData} (I : Inv X pins σ H s) (h : H a = some (.lst xs) ∨ H a = some (.tup xs)) (im : ImAll X.K H xs ds) (hz : ds.length ≤ sizeLine)
    (q : ∀ us h' tk, (∀ b o, s.heap.get? b = some o → h'.get? b = some o) → us.length = ds.length → EachIs (ImV X.K H) us ds → R us { s with heap := h', toks := tk }) : wpAny (model X.prog X.w) A (collect (.ref a)) R E s := by
  have hl := im.length
  rcases h with h | h
  · obtain ⟨its, rv, p, _⟩ := I.list (SqL.of h)
    obtain ⟨o, n, ho, hc, _, hd⟩ := p
    have h2 := rv.length
    exact wpAny_collect_seq a (.inl rfl) ho hc hd (fun h' hk => q _ h' s.toks hk (by simp; omega) (by simpa using im_each rv im)) (by simp; omega)
  · obtain ⟨its, rv, p, _⟩ := I.tuple (SqT.of h)
    obtain ⟨o, ho, hc, n, hd⟩ := p
    have h2 := rv.length
    exact wpAny_collect_seq a (.inr rfl) ho hc hd (fun h' hk => q _ h' s.toks hk (by simp; omega) (by simpa using im_each rv im)) (by simp; omega)
end
/-! ### the readings -/
/-- sorted(d), d a dict with nested keys -/
def rSortKD (P : Program) (w : World) (K : PySem.W.Frag) : List V → Hp → VK → Prop := fun xs H Q => ∃ a kvs, xs = [.ref a] ∧ KD P w K H a kvs ∧ Srt (kvs.map (·.1)) ∧
  ∀ p ys ds, H p = none → ds.Perm (kvs.map (·.1)) → ImAll K (upd H p (.lst ys)) ys ds → Q (.ref p) (upd H p (.lst ys))
def rSortSq (K : PySem.W.Frag) : List V → Hp → VK → Prop := fun xs H Q => ∃ a vs ds, xs = [.ref a] ∧ (H a = some (.lst vs) ∨ H a = some (.tup vs)) ∧ ImAll K H vs ds ∧ Srt ds ∧
  ∀ p ys, H p = none → (ds.mergeSort (dataLe false id)).Perm ds → ImAll K (upd H p (.lst ys)) ys (ds.mergeSort (dataLe false id)) → Q (.ref p) (upd H p (.lst ys))
section
variable {X : Cx}
theorem cr_sortKD (hu : X.A.units + 64 < cLine) (hc : X.calm = true) : CallR X (.builtin "sorted") (rSortKD X.prog X.w X.K) := by
  intro pins s σ H xs us Q I r q
  obtain ⟨a, kvs, rfl, kd, S, q⟩ := q
  rw [Vals.ref1 r]
  refine sorted_us hu I S (fun R E k => collect_kd (I.ok.hd hc) I kd fun us h' tk h1 h2 h3 => k us h' tk h1 (by simpa using h2) h3) fun p ys hp pm im => q p ys _ hp pm im
theorem cr_sortSq (hu : X.A.units + 64 < cLine) : CallR X (.builtin "sorted") (rSortSq X.K) := by
  intro pins s σ H xs us Q I r q
  obtain ⟨a, vs, ds, rfl, hq, im, S, q⟩ := q
  rw [Vals.ref1 r]
  exact sorted_us hu I S (fun R E k => collect_seq I hq im S.sz k) q
end
end Wk

set_option maxHeartbeats 4000000
/-! list(zip(a, b)) of two tuples -/
namespace Wk
open PySem L2 PyProof.Rows RZ
section
variable {prog : Program} {w : World} {A : Around} {E : Value → Shared → Prop} {s : Shared}
theorem zipT_item_held {z TI TO T i1 i2 l1 l2 : Addr} {f : Bool} {oT : Obj} {k1 k2 : Nat} {xs ys : Array Value} {x y : Value} {Q : Option Value → Shared → Prop} (D : ZipApart z TI TO i1 i2 l1 l2)
    (hz : IsZipHeld s.heap z TI TO T f) (hT : s.heap.get? T = some oT) (hTI : IsPair s.heap TI (.ref i1) (.ref i2))
    (h1 : s.heap.IsTupleIter i1 l1 k1) (h2 : s.heap.IsTupleIter i2 l2 k2) (hl1 : s.heap.IsTuple l1 xs) (hl2 : s.heap.IsTuple l2 ys) (hx : xs[k1]? = some x) (hy : ys[k2]? = some y)
    (hQ : ∀ h', IsZipHeld h' z TI TO T true → h'.IsTupleIter i1 l1 (k1 + 1) → h'.IsTupleIter i2 l2 (k2 + 1) → IsPair h' s.heap.objs.size x y → h'.objs.size = s.heap.objs.size + 1 →
      (∀ c o, c ≠ z → c ≠ i1 → c ≠ i2 → s.heap.get? c = some o → h'.get? c = some o) → Q (some (.ref s.heap.objs.size)) { s with heap := h' }) :
    wpAny (model prog w) A (pyNext (.ref z)) Q E s := by
  have hTy : s.TypeIs (.ref z) "zip" := ⟨_, hz, rfl⟩
  unfold pyNext
  refine wpAny_bind (wpAny_attempt (wpAny_callSpecial?_slot (name := Str.ofString "__next__") hTy F.slot_zip_next (wpAny_call_entry F.slot_zip_next hTy F.entry_zip_next ?_ (F.args_zip_next_1 _))))
  show wpAny _ _ (field (.ref z) 2 >>= _) _ _ _
  refine wpAny_bind (wpAny_field hz rfl (x := .bool false) rfl ?_)
  show wpAny _ _ (field (.ref z) 3 >>= _) _ _ _
  refine wpAny_bind (wpAny_field hz rfl (x := .ref TI) rfl ?_)
  refine wpAny_bind (wpAny_seqItems hTI rfl ?_)
  show wpAny _ _ (Builtin.SmallTypes.ownedTupleIsFree (.ref z) >>= _) _ _ _
  refine wpAny_bind (wpAny_tupleHeld_zip hz hT fun h₁ hz₁ hs₁ => ?_)
  simp only [Bool.false_eq_true, if_false]
  refine wpAny_bind ?_
  rw [← Array.forIn_toList]
  simp only [List.forIn_cons, List.forIn_nil]
  refine wpAny_bind (wpAny_bind (wpAny_holding ?_))
  show wpAny _ _ (Builtin.SmallTypes.nextOf (.ref i1) >>= _) _ _ _
  refine wpAny_bind (nextOf_tuple_item (s := { s with heap := h₁ }) (h1.extBut hs₁.extBut D.i1z) (hl1.extBut hs₁.extBut D.l1z) hx fun h₂ h1₂ hs₂ => wpAny_pure ?_)
  refine wpAny_pure ?_
  refine wpAny_bind (wpAny_bind (wpAny_holding ?_))
  show wpAny _ _ (Builtin.SmallTypes.nextOf (.ref i2) >>= _) _ _ _
  refine wpAny_bind (nextOf_tuple_item (s := { s with heap := h₂ }) ((h2.extBut hs₁.extBut D.i2z).extBut hs₂.extBut D.i12.symm) ((hl2.extBut hs₁.extBut D.l2z).extBut hs₂.extBut D.l2i1) hy fun h₃ h2₃ hs₃ => wpAny_pure ?_)
  refine wpAny_pure (wpAny_pure ?_)
  show wpAny _ _ (newTuple [x, y] >>= _) _ _ _
  refine wpAny_bind (wpAny_newTuple ?_)
  have hsz : h₃.objs.size = s.heap.objs.size := by rw [hs₃.1, hs₂.1, hs₁.1]
  have hz₃ : IsZipHeld h₃ z TI TO T true := hs₃.extBut _ _ D.i2z.symm (hs₂.extBut _ _ D.i1z.symm hz₁)
  have hk : ∀ c o, c ≠ z → c ≠ i1 → c ≠ i2 → s.heap.get? c = some o → h₃.get? c = some o := fun c o c1 c2 c3 e => hs₃.extBut _ _ c3 (hs₂.extBut _ _ c2 (hs₁.extBut _ _ c1 e))
  have h1₃ : h₃.IsTupleIter i1 l1 (k1 + 1) := h1₂.extBut hs₃.extBut D.i12
  refine wpAny_pure ⟨_, rfl, wpAny_pure ?_⟩
  show Q (some (.ref h₃.objs.size)) _
  have hp : IsPair (h₃.push { cls := .type "tuple", data := .seq #[x, y] }) h₃.objs.size x y := Heap.get?_push_size _ rfl
  have hz4 : (h₃.push { cls := .type "tuple", data := .seq #[x, y] }).objs.size = h₃.objs.size + 1 := Heap.size_push ..
  rw [hsz] at hp hz4 ⊢
  exact hQ _ (Heap.get?_push_of_some _ hz₃) (h1₃.at fun o e => Heap.get?_push_of_some _ e) (h2₃.at fun o e => Heap.get?_push_of_some _ e) hp hz4 fun c o c1 c2 c3 e => Heap.get?_push_of_some _ (hk c o c1 c2 c3 e)
theorem zipT_end_held {z TI TO T i1 i2 l1 l2 : Addr} {f : Bool} {oT : Obj} {k1 k2 : Nat} {xs ys : Array Value} {Q : Option Value → Shared → Prop} (hh : A.handled = none) (D : ZipApart z TI TO i1 i2 l1 l2)
    (hz : IsZipHeld s.heap z TI TO T f) (hT : s.heap.get? T = some oT) (hTI : IsPair s.heap TI (.ref i1) (.ref i2))
    (h1 : s.heap.IsTupleIter i1 l1 k1) (h2 : s.heap.IsTupleIter i2 l2 k2) (hl1 : s.heap.IsTuple l1 xs) (hl2 : s.heap.IsTuple l2 ys) (hend : xs[k1]? = none ∨ ys[k2]? = none)
    (hQ : ∀ h', (∀ c o, c ≠ z → c ≠ i1 → c ≠ i2 → s.heap.get? c = some o → h'.get? c = some o) → Q none { s with heap := h' }) : wpAny (model prog w) A (pyNext (.ref z)) Q E s := by
  have hTy : s.TypeIs (.ref z) "zip" := ⟨_, hz, rfl⟩
  unfold pyNext
  refine wpAny_bind (wpAny_attempt (wpAny_callSpecial?_slot (name := Str.ofString "__next__") hTy F.slot_zip_next (wpAny_call_entry F.slot_zip_next hTy F.entry_zip_next ?_ (F.args_zip_next_1 _))))
  show wpAny _ _ (field (.ref z) 2 >>= _) _ _ _
  refine wpAny_bind (wpAny_field hz rfl (x := .bool false) rfl ?_)
  show wpAny _ _ (field (.ref z) 3 >>= _) _ _ _
  refine wpAny_bind (wpAny_field hz rfl (x := .ref TI) rfl ?_)
  refine wpAny_bind (wpAny_seqItems hTI rfl ?_)
  show wpAny _ _ (Builtin.SmallTypes.ownedTupleIsFree (.ref z) >>= _) _ _ _
  refine wpAny_bind (wpAny_tupleHeld_zip hz hT fun h₁ hz₁ hs₁ => ?_)
  simp only [Bool.false_eq_true, if_false]
  refine wpAny_bind ?_
  rw [← Array.forIn_toList]
  simp only [List.forIn_cons, List.forIn_nil]
  refine wpAny_bind (wpAny_bind (wpAny_holding ?_))
  show wpAny _ _ (Builtin.SmallTypes.nextOf (.ref i1) >>= _) _ _ _
  cases hx : xs[k1]? with
  | none =>
    refine wpAny_bind (nextOf_tuple_end (s := { s with heap := h₁ }) hh (h1.extBut hs₁.extBut D.i1z) (hl1.extBut hs₁.extBut D.l1z) hx fun h₂ e hs₂ he => ?_)
    obtain ⟨o, ho, hc⟩ := he
    exact wpAny_bind (wpAny_isInstance (T := "StopIteration") (b := true) ⟨o, ho, hc⟩ isSubtype_stop (wpAny_pure (hQ _ fun c o c1 c2 _ x => hs₂ _ _ c2 (hs₁.extBut _ _ c1 x))))
  | some x =>
    have hy : ys[k2]? = none := by rcases hend with h | h; rw [hx] at h; cases h; exact h
    refine wpAny_bind (nextOf_tuple_item (s := { s with heap := h₁ }) (h1.extBut hs₁.extBut D.i1z) (hl1.extBut hs₁.extBut D.l1z) hx fun h₂ h1₂ hs₂ => wpAny_pure ?_)
    refine wpAny_pure ?_
    refine wpAny_bind (wpAny_bind (wpAny_holding ?_))
    show wpAny _ _ (Builtin.SmallTypes.nextOf (.ref i2) >>= _) _ _ _
    refine wpAny_bind (nextOf_tuple_end (s := { s with heap := h₂ }) hh ((h2.extBut hs₁.extBut D.i2z).extBut hs₂.extBut D.i12.symm) ((hl2.extBut hs₁.extBut D.l2z).extBut hs₂.extBut D.l2i1) hy fun h₃ e hs₃ he => ?_)
    obtain ⟨o, ho, hc⟩ := he
    exact wpAny_bind (wpAny_isInstance (T := "StopIteration") (b := true) ⟨o, ho, hc⟩ isSubtype_stop (wpAny_pure (hQ _ fun c o c1 c2 c3 x => hs₃ _ _ c3 (hs₂.extBut _ _ c2 (hs₁.extBut _ _ c1 x)))))
/-- where the zip stands -/
def ZSt (h : Heap) (z TI TO i1 i2 l1 l2 : Addr) (xs ys : Array Value) (S : Addr) (i : Nat) : Prop :=
  IsPair h TI (.ref i1) (.ref i2) ∧ h.IsTupleIter i1 l1 i ∧ h.IsTupleIter i2 l2 i ∧ h.IsTuple l1 xs ∧ h.IsTuple l2 ys ∧
    ((IsZip h z TI TO .none ∧ ∃ a b, IsPair h TO a b) ∨ ∃ T f oT, IsZipHeld h z TI TO T f ∧ h.get? T = some oT ∧ T ≠ z ∧ T ≠ i1 ∧ T ≠ i2 ∧ T ≠ S)
theorem zst_item {z TI TO i1 i2 l1 l2 S : Addr} {i : Nat} {xs ys : Array Value} {x y : Value} {Q : Option Value → Shared → Prop} (D : ZipApart z TI TO i1 i2 l1 l2) (st : ZSt s.heap z TI TO i1 i2 l1 l2 xs ys S i) (hx : xs[i]? = some x) (hy : ys[i]? = some y) (hS : S < s.heap.objs.size)
    (hQ : ∀ h', ZSt h' z TI TO i1 i2 l1 l2 xs ys S (i + 1) → IsPair h' s.heap.objs.size x y → h'.objs.size = s.heap.objs.size + 1 → (∀ c o, c ≠ z → c ≠ TO → c ≠ i1 → c ≠ i2 → s.heap.get? c = some o → h'.get? c = some o) → Q (some (.ref s.heap.objs.size)) { s with heap := h' }) :
    wpAny (model prog w) A (pyNext (.ref z)) Q E s := by
  obtain ⟨hTI, h1, h2, hl1, hl2, hz⟩ := st
  have lt : ∀ {c o}, s.heap.get? c = some o → s.heap.objs.size ≠ c := fun e => Nat.ne_of_gt (Heap.lt_size e)
  rcases hz with ⟨hz, a, b, hTO⟩ | ⟨T, f, oT, hz, hT, n1, n2, n3, n4⟩
  · refine pyNext_zipT_item D hz hTI hTO h1 h2 hl1 hl2 hx hy fun h' a1 a2 a3 a4 a5 a6 hk => ?_
    refine hQ h' ⟨hk _ _ D.TIz D.TITO D.TIi1 D.TIi2 hTI, a3, a4, hl1.at fun o e => hk _ o D.l1z D.l1TO D.l1i1 D.l1i2 e, hl2.at fun o e => hk _ o D.l2z D.l2TO D.l2i1 D.l2i2 e, .inr ⟨s.heap.objs.size, false, _, a1, a5, lt hz, ?_, ?_, Nat.ne_of_gt hS⟩⟩ a5 a6 hk
    · obtain ⟨_, e, _⟩ := h1; exact lt e
    · obtain ⟨_, e, _⟩ := h2; exact lt e
  · refine zipT_item_held D hz hT hTI h1 h2 hl1 hl2 hx hy fun h' a1 a3 a4 a5 a6 hk => ?_
    exact hQ h' ⟨hk _ _ D.TIz D.TIi1 D.TIi2 hTI, a3, a4, hl1.at fun o e => hk _ o D.l1z D.l1i1 D.l1i2 e, hl2.at fun o e => hk _ o D.l2z D.l2i1 D.l2i2 e, .inr ⟨T, true, oT, a1, hk _ _ n1 n2 n3 hT, n1, n2, n3, n4⟩⟩ a5 a6 fun c o c1 _ c3 c4 e => hk c o c1 c3 c4 e
theorem zst_end {z TI TO i1 i2 l1 l2 S : Addr} {i : Nat} {xs ys : Array Value} {Q : Option Value → Shared → Prop} (hh : A.handled = none) (D : ZipApart z TI TO i1 i2 l1 l2) (st : ZSt s.heap z TI TO i1 i2 l1 l2 xs ys S i) (hend : xs[i]? = none ∨ ys[i]? = none)
    (hQ : ∀ h', (∀ c o, c ≠ z → c ≠ TO → c ≠ i1 → c ≠ i2 → s.heap.get? c = some o → h'.get? c = some o) → Q none { s with heap := h' }) : wpAny (model prog w) A (pyNext (.ref z)) Q E s := by
  obtain ⟨hTI, h1, h2, hl1, hl2, hz⟩ := st
  rcases hz with ⟨hz, a, b, hTO⟩ | ⟨T, f, oT, hz, hT, n1, n2, n3, n4⟩
  · exact pyNext_zipT_end hh D hz hTI hTO h1 h2 hl1 hl2 hend hQ
  · exact zipT_end_held hh D hz hT hTI h1 h2 hl1 hl2 hend fun h' hk => hQ h' fun c o c1 _ c3 c4 e => hk c o c1 c3 c4 e
theorem ZSt.keep {h h' : Heap} {z TI TO i1 i2 l1 l2 S : Addr} {i : Nat} {xs ys : Array Value} (st : ZSt h z TI TO i1 i2 l1 l2 xs ys S i) (hk : ∀ b o, b ≠ S → h.get? b = some o → h'.get? b = some o) (n : ∀ b ∈ [z, TI, TO, i1, i2, l1, l2], b ≠ S) : ZSt h' z TI TO i1 i2 l1 l2 xs ys S i := by
  obtain ⟨hTI, h1, h2, hl1, hl2, hz⟩ := st
  refine ⟨hk _ _ (n TI (by simp)) hTI, h1.at fun o e => hk _ o (n i1 (by simp)) e, h2.at fun o e => hk _ o (n i2 (by simp)) e, hl1.at fun o e => hk _ o (n l1 (by simp)) e, hl2.at fun o e => hk _ o (n l2 (by simp)) e, ?_⟩
  rcases hz with ⟨hz, a, b, hTO⟩ | ⟨T, f, oT, hz, hT, n1, n2, n3, n4⟩
  · exact .inl ⟨hk _ _ (n z (by simp)) hz, a, b, hk _ _ (n TO (by simp)) hTO⟩
  · exact .inr ⟨T, f, oT, hk _ _ (n z (by simp)) hz, hk _ _ n4 hT, n1, n2, n3, n4⟩
/-- the pairs laid, above a bound -/
structure PsAt (h : Heap) (lo : Addr) (as : List Addr) (ps : List (Value × Value)) : Prop where
  len : as.length = ps.length
  nd : as.Nodup
  lo_ : ∀ a ∈ as, lo ≤ a
  at_ : ∀ (j : Nat) (a : Addr), as[j]? = some a → ∃ p, ps[j]? = some p ∧ IsPair h a p.1 p.2
theorem zip_loop {R : Result → Shared → Prop} {S z TI TO i1 i2 l1 l2 lo : Addr} {xs ys : Array Value} (hh : A.handled = none) (D : ZipApart z TI TO i1 i2 l1 l2) (nS : ∀ b ∈ [z, TI, TO, i1, i2, l1, l2], b ≠ S) (hlo : ∀ b ∈ [z, TI, TO, i1, i2], b < lo) (hSlo : S < lo) (hsz : xs.size = ys.size) (hn : xs.size ≤ 1000) (res : Value) {h₁ : Heap}
    (hR : ∀ h' tk acc c as, (∀ b o, b ≠ S → b ∉ [z, TI, TO, i1, i2] → h₁.get? b = some o → h'.get? b = some o) → h'.get? S = some { cls := .type "list", dict := none, data := .seq acc c, slots := #[] } → acc.toList = as.map Value.ref → PsAt h' lo as (xs.toList.zip ys.toList) → R (.ok (.ret res)) { s with heap := h', toks := tk }) :
    ∀ (k i : Nat) (h : Heap) (tk c : Nat) (acc : Array Value) (as : List Addr), xs.size - i = k → i ≤ xs.size → ZSt h z TI TO i1 i2 l1 l2 xs ys S i → (∀ b o, b ≠ S → b ∉ [z, TI, TO, i1, i2] → h₁.get? b = some o → h.get? b = some o) →
      h.get? S = some { cls := .type "list", dict := none, data := .seq acc c, slots := #[] } → acc.toList = as.map Value.ref → PsAt h lo as ((xs.toList.zip ys.toList).take i) → lo ≤ h.objs.size →
      codeAny (model prog w) A (.builtin "list.extend.loop" ⟨[.ref S, .ref z, res], []⟩) R { s with heap := h, toks := tk } := by
  have hzl : (xs.toList.zip ys.toList).length = xs.size := by rw [List.length_zip, Array.length_toList, Array.length_toList, hsz, Nat.min_self]
  have apart : ∀ a, lo ≤ a → a ≠ z ∧ a ≠ TO ∧ a ≠ i1 ∧ a ≠ i2 := fun a ha => ⟨Nat.ne_of_gt (Nat.lt_of_lt_of_le (hlo z (by simp)) ha), Nat.ne_of_gt (Nat.lt_of_lt_of_le (hlo TO (by simp)) ha), Nat.ne_of_gt (Nat.lt_of_lt_of_le (hlo i1 (by simp)) ha), Nat.ne_of_gt (Nat.lt_of_lt_of_le (hlo i2 (by simp)) ha)⟩
  have notin : ∀ b, b ∉ [z, TI, TO, i1, i2] → b ≠ z ∧ b ≠ TO ∧ b ≠ i1 ∧ b ≠ i2 := fun b hb => by
    simp only [List.mem_cons, not_or] at hb
    exact ⟨hb.1, hb.2.2.1, hb.2.2.2.1, hb.2.2.2.2.1⟩
  have sS : S ≠ z ∧ S ≠ TO ∧ S ≠ i1 ∧ S ≠ i2 := ⟨(nS z (by simp)).symm, (nS TO (by simp)).symm, (nS i1 (by simp)).symm, (nS i2 (by simp)).symm⟩
  intro k
  induction k with
  | zero =>
    intro i h tk c acc as hk hi hst hkeep hS hacc hG hlo2
    have hin : i = xs.size := by omega
    refine codeAny_builtin PySem.F.entry_extend_loop ?_
    rw [Around.under_plainId PySem.F.plain_extend_loop _]
    show wpAny _ A.in1 (pyNext (.ref z) >>= _) _ _ _
    refine wpAny_bind (zst_end (s := { s with heap := h, toks := tk }) (A := A.in1) hh D hst (.inl (Array.getElem?_eq_none (by omega))) fun h' he => ?_)
    refine wpAny_pure (hR h' tk acc c as (fun b o h1 h2 e => he b o (notin b h2).1 (notin b h2).2.1 (notin b h2).2.2.1 (notin b h2).2.2.2 (hkeep b o h1 h2 e)) (he S _ sS.1 sS.2.1 sS.2.2.1 sS.2.2.2 hS) hacc ?_)
    rw [hin, ← hzl, List.take_length] at hG
    refine ⟨hG.len, hG.nd, hG.lo_, fun j a hj => ?_⟩
    obtain ⟨p, e1, e2⟩ := hG.at_ j a hj
    have hp := apart a (hG.lo_ a (List.mem_of_getElem? hj))
    exact ⟨p, e1, he a _ hp.1 hp.2.1 hp.2.2.1 hp.2.2.2 e2⟩
  | succ k ih =>
    intro i h tk c acc as hk hi hst hkeep hS hacc hG hlo2
    have hlt : i < xs.size := by omega
    have hlt2 : i < ys.size := by omega
    have hx : xs[i]? = some xs[i] := Array.getElem?_eq_getElem hlt
    have hy : ys[i]? = some ys[i] := Array.getElem?_eq_getElem hlt2
    have hpi : (xs.toList.zip ys.toList)[i]? = some (xs[i], ys[i]) := by
      rw [List.getElem?_zip_eq_some]
      simp
    have hal : as.length = i := by rw [hG.len, List.length_take, hzl]; omega
    have hasz : acc.size = i := by rw [← Array.length_toList, hacc, List.length_map, hal]
    refine codeAny_builtin PySem.F.entry_extend_loop ?_
    rw [Around.under_plainId PySem.F.plain_extend_loop _]
    show wpAny _ A.in1 (pyNext (.ref z) >>= _) _ _ _
    refine wpAny_bind (zst_item (s := { s with heap := h, toks := tk }) (S := S) D hst hx hy (Heap.lt_size hS) fun h' hst' ht hz hkp => ?_)
    dsimp only at ht hz hkp ⊢
    have hS' := hkp S _ sS.1 sS.2.1 sS.2.2.1 sS.2.2.2 hS
    have up : ∀ b o, b ≠ S → h'.get? b = some o → (h'.update S (Obj.mapSeq (·.push (Value.ref h.objs.size)))).get? b = some o := fun b o hb e => (Heap.get?_update_other _ _ (Ne.symm hb)).trans e
    have hSl : S < h.objs.size := Heap.lt_size hS
    show wpAny _ A.in1 (updateSeq S (·.push (Value.ref h.objs.size)) >>= _) _ _ _
    refine wpAny_bind ?_
    refine wpAny_updateSeq hS' rfl (wpAny_pure ⟨plainId_quiet PySem.F.plain_extend_loop _, ih (i + 1) _ tk _ (acc.push (Value.ref h.objs.size)) (as ++ [h.objs.size]) (by omega) hlt (hst'.keep up nS)
      (fun b o h1 h2 e => up b o h1 (hkp b o (notin b h2).1 (notin b h2).2.1 (notin b h2).2.2.1 (notin b h2).2.2.2 (hkeep b o h1 h2 e))) (Heap.get?_update_self _ hS' rfl) (by rw [Array.toList_push, hacc, List.map_append]; rfl) ⟨?_, ?_, ?_, ?_⟩ ?_⟩) (by rw [hasz]; exact Nat.le_trans (show i ≤ 1000 by omega) (by decide)) (by show (acc.push (Value.ref h.objs.size)).size ≤ sizeLine + 1; rw [Array.size_push, hasz]; exact Nat.le_trans (show i + 1 ≤ 1001 by omega) (by decide))
    · rw [List.length_append, hal, List.length_take, hzl, List.length_singleton]
      omega
    · rw [List.nodup_append]
      refine ⟨hG.nd, by simp, fun a ha b hb => ?_⟩
      rw [List.mem_singleton.mp hb]
      obtain ⟨j, hj⟩ := List.mem_iff_getElem?.mp ha
      obtain ⟨_, _, e⟩ := hG.at_ j a hj
      exact Nat.ne_of_lt (Heap.lt_size e)
    · intro a ha
      rcases List.mem_append.mp ha with ha | ha
      · exact hG.lo_ a ha
      · rw [List.mem_singleton.mp ha]; exact hlo2
    · intro j b hj
      rcases Nat.lt_trichotomy j as.length with h1 | h1 | h1
      · rw [List.getElem?_append_left h1] at hj
        obtain ⟨p, e1, e3⟩ := hG.at_ j b hj
        have hb := hG.lo_ b (List.mem_of_getElem? hj)
        have hp := apart b hb
        refine ⟨p, ?_, up b _ (Nat.ne_of_gt (Nat.lt_of_lt_of_le hSlo hb)) (hkp b _ hp.1 hp.2.1 hp.2.2.1 hp.2.2.2 e3)⟩
        rw [List.getElem?_take_of_lt (by omega)] at e1 ⊢
        exact e1
      · subst h1
        have hb : h.objs.size = b := by simpa using hj
        subst hb
        refine ⟨(xs[i], ys[i]), ?_, up _ _ (Nat.ne_of_gt hSl) ht⟩
        rw [hal, List.getElem?_take_of_lt (by omega)]
        exact hpi
      · have hnone : (as ++ [h.objs.size])[j]? = none := List.getElem?_eq_none (by rw [List.length_append, List.length_singleton]; omega)
        rw [hnone] at hj
        cases hj
    · rw [Heap.size_update, hz]
      exact Nat.le_succ_of_le hlo2
theorem zip_no_len : typeLookup (.type "zip") "__len__" = pure none := am_miss_of_fast (by decide +kernel)
theorem zip_no_hint : typeLookup (.type "zip") "__length_hint__" = pure none := am_miss_of_fast (by decide +kernel)
theorem hint_zip {r : Addr} {Q : Bool → Shared → Prop} (hT : s.TypeIs (.ref r) "zip") (h : Q true s) : wpAny (model prog w) A (Builtin.List.listLengthHint (.ref r)) Q E s := by
  unfold Builtin.List.listLengthHint
  refine wpAny_bind (wpAny_specialOf hT zip_no_len ?_)
  refine wpAny_ite_split (fun hab => absurd hab (by decide)) (fun _ => ?_)
  refine wpAny_ite_split (fun hab => absurd hab (by decide)) (fun _ => ?_)
  refine wpAny_bind (wpAny_specialOf hT zip_no_hint ?_)
  exact wpAny_pure h
theorem zip_extend {R : Result → Shared → Prop} {S z TI TO i1 i2 l1 l2 lo : Addr} {xs ys : Array Value} (hh : A.handled = none) (D : ZipApart z TI TO i1 i2 l1 l2) (nS : ∀ b ∈ [z, TI, TO, i1, i2, l1, l2], b ≠ S) (hlo : ∀ b ∈ [z, TI, TO, i1, i2], b < lo) (hSlo : S < lo) (hsz : xs.size = ys.size) (hn : xs.size ≤ 1000) (res : Value) (c₀ : Nat)
    (st : ZSt s.heap z TI TO i1 i2 l1 l2 xs ys S 0) (hz : ∃ o, s.heap.get? z = some o ∧ o.cls = .type "zip") (hS : s.heap.get? S = some { cls := .type "list", data := .seq #[] c₀ }) (hlo2 : lo ≤ s.heap.objs.size)
    (hR : ∀ h' tk acc c as, (∀ b o, b ≠ S → b ∉ [z, TI, TO, i1, i2] → s.heap.get? b = some o → h'.get? b = some o) → h'.get? S = some { cls := .type "list", dict := none, data := .seq acc c, slots := #[] } → acc.toList = as.map Value.ref → PsAt h' lo as (xs.toList.zip ys.toList) → R (.ok (.ret res)) { s with heap := h', toks := tk }) :
    wpAny (model prog w) A.in1 (Builtin.List.listExtendWith (.ref S) (.ref z) res)
      (fun fin s' => match fin with | .done f => R (.ok f) s' | .again c' => c'.quiet = true ∧ codeAny (model prog w) A c' R s') (fun e s' => R (.error e) s') s := by
  have hzS : z ≠ S := nS z (by simp)
  have key : ∀ (h : Heap) (c₁ tk : Nat), (∀ b o, b ≠ S → s.heap.get? b = some o → h.get? b = some o) → h.get? S = some { cls := .type "list", data := .seq #[] c₁ } → lo ≤ h.objs.size →
      codeAny (model prog w) A (.builtin "list.extend.loop" ⟨[.ref S, .ref z, res], []⟩) R { s with heap := h, toks := tk } := fun h c₁ tk hk hS₁ hl =>
    zip_loop (s := s) (h₁ := s.heap) hh D nS hlo hSlo hsz hn res hR xs.size 0 h tk c₁ #[] [] (Nat.sub_zero _) (Nat.zero_le _) (st.keep hk nS) (fun b o hb _ e => hk b o hb e) hS₁ rfl ⟨rfl, .nil, by simp, by simp⟩ hl
  unfold Builtin.List.listExtendWith
  obtain ⟨oz, hoz, hcz⟩ := hz
  refine wpAny_bind (wpAny_typeOf (T := "zip") ⟨oz, hoz, hcz⟩ ?_)
  have h1 : Builtin.List.listSameRef (.ref S) (.ref z) = false := by simp [Builtin.List.listSameRef, hzS.symm]
  have h2 : (Value.type "zip" == Value.type "list") = false := by decide
  have h3 : (Value.type "zip" == Value.type "tuple") = false := by decide
  simp only [h1, h2, h3, Bool.or_false, Bool.false_eq_true, if_false]
  have itz : ∀ {A' : Around} {E' : Value → Shared → Prop} {Q' : Value → Shared → Prop}, Q' (.ref z) s → wpAny (model prog w) A' (pyIter (.ref z)) Q' E' s := fun q => by
    obtain ⟨_, _, _, _, _, hzz⟩ := st
    rcases hzz with ⟨hz0, _⟩ | ⟨T, f, oT, hz0, _⟩
    · exact wpAny_pyIter_zip hz0 q
    · refine wpAny_pyIter_slot ⟨_, hz0, rfl⟩ F.slot_zip_iter (wpAny_call_entry F.slot_zip_iter ⟨_, hz0, rfl⟩ F.entry_zip_iter ?_ (F.args_zip_iter_1 _))
      show wpAny _ _ (ret (.ref z)) _ _ s
      exact wpAny_pure ⟨_, rfl, "zip", _, ⟨_, hz0, rfl⟩, F.slot_zip_next.lookup, q⟩
  refine wpAny_bind (itz ?_)
  refine wpAny_bind (wpAny_holding (hint_zip ⟨oz, hoz, hcz⟩ ?_))
  refine wpAny_ite_split (fun _ => ?_) (fun _ => wpAny_pure ⟨plainId_quiet PySem.F.plain_extend_loop _, key _ c₀ _ (fun b o _ e => e) hS hlo2⟩)
  refine wpAny_bind (wpAny_rule ?_)
  refine wpAny_bind ?_
  show wpAny _ _ (updateSeq S (·.push .none) >>= fun _ => updateSeq S (·.pop)) _ _ _
  refine wpAny_bind (wpAny_updateSeq hS rfl ?_)
  have hS₂ := Heap.get?_update_self (Obj.mapSeq (·.push Value.none)) hS rfl
  refine wpAny_updateSeq (hz := by seq_fits) hS₂ rfl ?_
  have hS₃ := Heap.get?_update_self (Obj.mapSeq (·.pop)) hS₂ rfl
  refine wpAny_pure ⟨plainId_quiet PySem.F.plain_extend_loop _, key _ _ _ (fun b o hb e => ?_) hS₃ ?_⟩
  · exact (Heap.get?_update_other _ _ (Ne.symm hb)).trans ((Heap.get?_update_other _ _ (Ne.symm hb)).trans e)
  · rw [Heap.size_update, Heap.size_update]
    exact hlo2
theorem call_lzip {Q : Value → Shared → Prop} {z TI TO i1 i2 l1 l2 : Addr} {xs ys : Array Value} (hh : A.handled = none) (D : ZipApart z TI TO i1 i2 l1 l2) (hlt : ∀ b ∈ [z, TI, TO, i1, i2, l1, l2], b < s.heap.objs.size) (hsz : xs.size = ys.size) (hn : xs.size ≤ 1000)
    (hz : IsZip s.heap z TI TO .none) (hTI : IsPair s.heap TI (.ref i1) (.ref i2)) (hTO : ∃ a b, IsPair s.heap TO a b) (h1 : s.heap.IsTupleIter i1 l1 0) (h2 : s.heap.IsTupleIter i2 l2 0) (hl1 : s.heap.IsTuple l1 xs) (hl2 : s.heap.IsTuple l2 ys)
    (hQ : ∀ h' tk acc c as, (∀ b o, b ∉ [z, TI, TO, i1, i2] → s.heap.get? b = some o → h'.get? b = some o) → h'.get? s.heap.objs.size = some { cls := .type "list", dict := none, data := .seq acc c, slots := #[] } → acc.toList = as.map Value.ref →
      PsAt h' (s.heap.objs.size + 1) as (xs.toList.zip ys.toList) → Q (.ref s.heap.objs.size) { s with heap := h', toks := tk }) :
    wpAny (model prog w) A (call (.type "list") [.ref z]) Q E s := by
  refine callType_codes (Q₁ := fun obj s₁ => obj = .ref s.heap.objs.size ∧ s₁ = { s with heap := s.heap.push { cls := .type "list", data := .seq #[] } }) PySem.F.called_list (PySem.F.typeCall_list_1 _) PySem.F.entry_list_init
    (code_list_new _ ⟨rfl, rfl⟩) fun obj s₁ h₁ => ?_
  obtain ⟨rfl, rfl⟩ := h₁
  have hS : (s.heap.push { cls := .type "list", data := .seq #[] }).get? s.heap.objs.size = some { cls := .type "list", data := .seq #[] } := Heap.get?_push_size _ rfl
  have nS : ∀ b ∈ [z, TI, TO, i1, i2, l1, l2], b ≠ s.heap.objs.size := fun b hb => Nat.ne_of_lt (hlt b hb)
  have up0 : ∀ b o, s.heap.get? b = some o → (s.heap.push { cls := .type "list", data := .seq #[] }).get? b = some o := fun b o e => Heap.get?_push_of_some _ e
  refine ⟨⟨_, hS, rfl⟩, PySem.F.args_list_init_2 _ _, ?_⟩
  show wpAny _ _ (do let old ← Builtin.List.listItems (.ref s.heap.objs.size); Builtin.List.listUpdate (.ref s.heap.objs.size) (fun _ => #[]); letGo old.toList.reverse; Builtin.List.listExtendWith (.ref s.heap.objs.size) (.ref z) .none) _ _ _
  refine wpAny_bind ?_
  unfold Builtin.List.listItems
  refine wpAny_bind (wpAny_seqItems hS rfl (wpAny_pure ?_))
  show wpAny _ _ (updateSeq s.heap.objs.size (fun _ => #[]) >>= fun _ => letGo (#[] : Array Value).toList.reverse >>= fun _ => Builtin.List.listExtendWith (.ref s.heap.objs.size) (.ref z) .none) _ _ _
  refine wpAny_bind (wpAny_updateSeq hS rfl ?_)
  have hS₂ := Heap.get?_update_self (Obj.mapSeq (fun _ => (#[] : Array Value))) hS rfl
  have oth : ∀ b o, b ≠ s.heap.objs.size → s.heap.get? b = some o → ((s.heap.push { cls := .type "list", data := .seq #[] }).update s.heap.objs.size (Obj.mapSeq (fun _ => (#[] : Array Value)))).get? b = some o :=
    fun b o hb e => (Heap.get?_update_other _ _ (Ne.symm hb)).trans (up0 b o e)
  have st0 : ZSt s.heap z TI TO i1 i2 l1 l2 xs ys s.heap.objs.size 0 := ⟨hTI, h1, h2, hl1, hl2, .inl ⟨hz, hTO⟩⟩
  refine wpAny_bind (wpAny_letGo ?_)
  refine zip_extend (prog := prog) (w := w) (A := A.in1) (s := { s with heap := (s.heap.push { cls := .type "list", data := .seq #[] }).update s.heap.objs.size (Obj.mapSeq (fun _ => (#[] : Array Value))) }) (lo := s.heap.objs.size + 1) hh D nS (fun b hb => ?_) (Nat.lt_succ_self _) hsz hn .none _ (st0.keep oth nS) ⟨_, oth z _ (nS z (by simp)) hz, rfl⟩ hS₂ ?_ fun h' tk acc c as hk hS' hacc hG => ?_
  · exact Nat.lt_succ_of_lt (hlt b (List.mem_append_left [l1, l2] hb))
  · rw [Heap.size_update, Heap.size_push]
    exact Nat.le_refl _
  · exact ⟨rfl, hQ h' tk acc c as (fun b o hb e => hk b o (Nat.ne_of_lt (Heap.lt_size e)) hb (oth b o (Nat.ne_of_lt (Heap.lt_size e)) e)) hS' hacc hG⟩
end
/-! ### the reading -/
section
variable {X : Cx} {pins : List (Addr × Obj)} {σ : L2.St} {H : Hp}
/-- untracked pairs are tracked -/
theorem take_pairs {s : Shared} : ∀ {as : List Addr} {us ws : List Value} {xs ys : List V} (H : Hp), Inv X pins σ H s → as.Nodup → (∀ a ∈ as, FpOk X pins H a) → Vals xs us → Vals ys ws → as.length = (xs.zip ys).length → (∀ (j : Nat) (a : Addr), as[j]? = some a → ∃ p, (us.zip ws)[j]? = some p ∧ IsPair s.heap a p.1 p.2) →
    ∃ H', Inv X pins σ H' s ∧ Same H H' ∧ (∀ b, b ∉ as → H' b = H b) ∧ Paired (fun (a : Addr) (p : V × V) => H' a = some (.tup [p.1, p.2])) as (xs.zip ys)
  | [], us, ws, xs, ys, H, I, _, _, _, _, hl, _ => by
    have : xs.zip ys = [] := List.length_eq_zero_iff.mp hl.symm
    rw [this]
    exact ⟨H, I, Same.refl H, fun _ _ => rfl, .nil⟩
  | a :: as, [], ws, xs, ys, H, I, _, _, rx, _, hl, _ => by cases rx; simp at hl
  | a :: as, u :: us, [], xs, ys, H, I, _, _, rx, ry, hl, _ => by
    cases ry
    cases xs with
    | nil => simp at hl
    | cons _ _ => simp at hl
  | a :: as, u :: us, w :: ws, xs, ys, H, I, nd, hf, rx, ry, hl, hp => by
    cases rx with
    | cons r1 rx =>
      cases ry with
      | cons r2 ry =>
        rename_i x xs y ys
        rw [List.nodup_cons] at nd
        obtain ⟨p, hp0, hip⟩ := hp 0 a rfl
        have hp0 : (u, w) = p := by simpa using hp0
        subst hp0
        have hna := (hf a List.mem_cons_self).1
        have new : ObjOk X.prog X.w (upd H a (.tup [x, y])) s.heap a (.tup [x, y]) := ⟨by show 2 ≤ sizeLine; decide, [u, w], .cons r1 (.cons r2 .nil), ⟨_, hip, rfl, _, rfl⟩⟩
        have I1 : Inv X pins σ (upd H a (.tup [x, y])) { s with heap := s.heap, toks := s.toks } := I.take (t' := s.toks) (fun b ob _ e => e) (hf a List.mem_cons_self) new
        obtain ⟨H', I2, s2, k2, p2⟩ := take_pairs (upd H a (.tup [x, y])) I1 nd.2 (fun b hb => by
          obtain ⟨f0, f1, f2, f3, f4, f5⟩ := hf b (List.mem_cons_of_mem _ hb)
          exact ⟨by rw [upd_ne (fun z => nd.1 (by rw [← z]; exact hb))]; exact f0, f1, f2, f3, f4, f5⟩) rx ry (by simpa using hl) (fun j b hj => by simpa using hp (j + 1) b (by simpa using hj))
        refine ⟨H', I2, (Same.new hna).trans s2, fun b hb => ?_, .cons (by rw [k2 a nd.1]; exact upd_same) p2⟩
        rw [List.mem_cons, not_or] at hb
        rw [k2 b hb.2, upd_ne hb.1]
def lzE (fa fb : Ev) : Ev := fun ρ => (fa ρ).bind fun x => (fb ρ).bind fun y => match x, y with
  | .tuple ds, .tuple es => if ds.length = es.length ∧ ds.length ≤ 1000 then some (.list (zipD ds es)) else none
  | _, _ => none
theorem pairs_im {K : PySem.W.Frag} : ∀ {as : List Addr} {xs ys : List V} {ds es : List PyData} {H : Hp}, Paired (fun (a : Addr) (p : V × V) => H a = some (.tup [p.1, p.2])) as (xs.zip ys) → ImAll K H xs ds → ImAll K H ys es → ImAll K H (as.map V.ref) (zipD ds es)
  | _, [], _, _, _, _, h, hx, _ => by
    cases hx
    rw [List.zip_nil_left] at h
    cases h
    exact .nil
  | _, _ :: _, [], _, _, _, h, hx, hy => by
    cases hy
    rw [List.zip_nil_right] at h
    cases h
    cases hx
    exact .nil
  | _, x :: xs, y :: ys, _, _, _, h, hx, hy => by
    rw [List.zip_cons_cons] at h
    cases h with
    | cons a r =>
      cases hx with
      | cons i1 j1 =>
        cases hy with
        | cons i2 j2 => exact .cons (.tup a (.cons i1 (.cons i2 .nil))) (pairs_im r j1 j2)
theorem pd_lzip {a b : Expr} {fa fb : Ev} {p p2 pos pos2 : Pos} (hz : X.mg "zip" = none) (hl : X.mg "list" = none) (ha : PE X a (tD X.K fa)) (hb : PE X b (tD X.K fb)) (hc : X.calm = true := by rfl) (hgz : Gl X "zip" := by rfl) (hgl : Gl X "list" := by rfl)
    (n1 : starEach [a, b] X.env = (false, eval a X.env) :: starEach [b] X.env := by rfl) (n2 : starEach [b] X.env = (false, eval b X.env) :: starEach [] X.env := by rfl) (hpl : (backTo pos2 (starEach [b] X.env)).any (·.1) = false := by rfl)
    (hs : starEach [.Call (.Name "zip" p2) [a, b] [] pos2] X.env = [(false, eval (.Call (.Name "zip" p2) [a, b] [] pos2) X.env)] := by rfl) :
    PE X (.Call (.Name "list" p) [.Call (.Name "zip" p2) [a, b] [] pos2] [] pos) (tD X.K (lzE fa fb)) := by
  refine ⟨fun pins s σ H Q I h => ?_⟩
  obtain ⟨ρ, d, r, q, k⟩ := h
  obtain ⟨x, h1, q⟩ := Option.bind_eq_some_iff.mp (show (fa ρ).bind _ = some d from q)
  obtain ⟨y, h2, q⟩ := Option.bind_eq_some_iff.mp q
  split at q
  · rename_i ds es q2
    split at q
    · rename_i hlen
      cases q
      refine Call_ (ld_blt I hgl hl PyProof.Rows.boot_list ?_)
      refine PyProof.Rows.callWith_type1 (args_cons (Call_ (ld_blt I hgz hz PyProof.Rows.boot_zip (PyProof.Rows.callWith_type1 (thn ((pd_cons ha (pd_cons hb pd_nil n2) n1).run pos2 pins s σ H
        (fun vs H1 => ∃ v1 v2, vs = [v1, v2] ∧ Same H H1 ∧ Rp X.K H1 v1 (.tuple ds) ∧ Rp X.K H1 v2 (.tuple es)) I ⟨ρ, [.tuple ds, .tuple es], r, by simp [consE, h1, h2, nilE], fun vs H1 s1 ra => by
          cases ra with
          | cons r1 t =>
            cases t with
            | cons r2 t2 =>
              cases t2
              exact ⟨_, _, rfl, s1, r1, r2⟩⟩) fun us s1 ⟨vs, H1, I1, r1, v1, v2, ev, sm, ra, rb⟩ => ?_) n1 hpl))) hs) hs
      subst ev
      obtain ⟨a1, xs, rfl, ha1, hx⟩ := ra.tup
      obtain ⟨b1, ys, rfl, hb1, hy⟩ := rb.tup
      cases r1 with
      | cons r1 rr =>
        cases rr with
        | cons r2 rr =>
          cases rr
          cases r1
          cases r2
          obtain ⟨its, rv, p1, _⟩ := I1.tuple (SqT.of ha1)
          obtain ⟨its2, rv2, p2', _⟩ := I1.tuple (SqT.of hb1)
          obtain ⟨o1, ho1, _⟩ := id p1
          obtain ⟨o2, ho2, _⟩ := id p2'
          have la1 := Heap.lt_size ho1
          have la2 := Heap.lt_size ho2
          have l1 := hx.length
          have l2 := hy.length
          have l3 := rv.length
          have l4 := rv2.length
          refine call_zipT (show s1.heap.IsTuple a1 its.toArray from p1) (show s1.heap.IsTuple b1 its2.toArray from p2') fun h' hz' hTI hTO h1' h2' hsz hk => args_nil ?_
          refine call_lzip (I1.ok.hd hc) (PySem.W.ktu_apart s1.heap.objs.size a1 b1 la1 la2) (fun b hb => ?_) (xs := its.toArray) (ys := its2.toArray) (by simp; omega) (by simp; omega) hz' hTI ⟨_, _, hTO⟩ h1' h2' (Heap.IsTuple.at (show s1.heap.IsTuple a1 its.toArray from p1) fun o e => hk _ o e) (Heap.IsTuple.at (show s1.heap.IsTuple b1 its2.toArray from p2') fun o e => hk _ o e) fun h2 tk acc c as hk2 hD hacc G => ?_
          · show b < h'.objs.size
            have hsz' : h'.objs.size = s1.heap.objs.size + 5 := hsz
            have five : b = s1.heap.objs.size + 4 ∨ b = s1.heap.objs.size + 2 ∨ b = s1.heap.objs.size + 3 ∨ b = s1.heap.objs.size ∨ b = s1.heap.objs.size + 1 ∨ b = a1 ∨ b = b1 := by simpa using hb
            rw [hsz']
            rcases five with z | z | z | z | z | z | z <;> rw [z]
            · exact Nat.add_lt_add_left (by decide) _
            · exact Nat.add_lt_add_left (by decide) _
            · exact Nat.add_lt_add_left (by decide) _
            · exact Nat.lt_add_of_pos_right (by decide)
            · exact Nat.add_lt_add_left (by decide) _
            · exact Nat.lt_of_lt_of_le la1 (Nat.le_add_right _ _)
            · exact Nat.lt_of_lt_of_le la2 (Nat.le_add_right _ _)
          · have hsz' : h'.objs.size = s1.heap.objs.size + 5 := hsz
            have hk3 : ∀ b o, s1.heap.get? b = some o → h2.get? b = some o := fun b o e => hk2 b o (fun hm => by
              have := Heap.lt_size e
              have five : b = s1.heap.objs.size + 4 ∨ b = s1.heap.objs.size + 2 ∨ b = s1.heap.objs.size + 3 ∨ b = s1.heap.objs.size ∨ b = s1.heap.objs.size + 1 := by simpa using hm
              rcases five with z | z | z | z | z <;> rw [z] at this
              · exact absurd this (Nat.not_lt.mpr (Nat.le_add_right _ _))
              · exact absurd this (Nat.not_lt.mpr (Nat.le_add_right _ _))
              · exact absurd this (Nat.not_lt.mpr (Nat.le_add_right _ _))
              · exact absurd this (Nat.lt_irrefl _)
              · exact absurd this (Nat.not_lt.mpr (Nat.le_add_right _ _))) (hk b o e)
            have I2 : Inv X pins σ H1 { s1 with heap := h2, toks := tk } := I1.kept hk3
            have hb5 : s1.heap.objs.size ≤ h'.objs.size + 1 := by rw [hsz']; exact Nat.le_trans (Nat.le_add_right _ 5) (Nat.le_add_right _ _)
            have hgl2 : (its.zip its2).length = (xs.zip ys).length := by rw [List.length_zip, List.length_zip]; omega
            obtain ⟨H2, I3, s3, k3, p3⟩ := take_pairs (xs := xs) (ys := ys) (us := its) (ws := its2) (as := as) H1 I2 G.nd (fun a ha => I1.fpOk (Nat.le_trans hb5 (G.lo_ a ha)) (I1.hok.fresh (Nat.le_trans hb5 (G.lo_ a ha)))) rv rv2 (by rw [G.len]; simpa using hgl2) (fun j a hj => by simpa using G.at_ j a hj)
            have im := pairs_im p3 (hx.mono (same_tk s3)) (hy.mono (same_tk s3))
            have hDn : H2 h'.objs.size = none := by
              rw [k3 _ (fun hm => absurd (G.lo_ _ hm) (Nat.not_succ_le_self _))]
              exact I1.hok.fresh (by rw [hsz']; exact Nat.le_add_right _ _)
            have fD : FpOk X pins H2 h'.objs.size := by
              obtain ⟨f0, f1, f2, f3, f4, f5⟩ := I1.fpOk (b := h'.objs.size) (H' := H1) (by rw [hsz']; exact Nat.le_add_right _ _) (I1.hok.fresh (by rw [hsz']; exact Nat.le_add_right _ _))
              exact ⟨hDn, f1, f2, f3, f4, f5⟩
            have hvr : ∀ as : List Addr, Vals (as.map V.ref) (as.map Value.ref) := fun as => by
              induction as with
              | nil => exact .nil
              | cons a as ih => exact .cons rfl ih
            have new : ObjOk X.prog X.w (upd H2 h'.objs.size (.lst (as.map V.ref))) h2 h'.objs.size (.lst (as.map V.ref)) := ⟨by
              rw [List.length_map, G.len, List.length_zip]
              exact Nat.le_trans (Nat.min_le_left _ _) (Nat.le_trans (show its.toArray.toList.length ≤ 1000 by simp; omega) (by decide)), as.map Value.ref, c, hvr as, by rw [← hacc]; simpa using hD⟩
            have I4 : Inv X pins σ (upd H2 h'.objs.size (.lst (as.map V.ref))) { s1 with heap := h2, toks := tk } := Inv.take (s := { s1 with heap := h2, toks := tk }) (h' := h2) I3 (t' := tk) (fun b ob _ e => e) fD new
            exact ⟨.ref h'.objs.size, _, I4, rfl, k _ _ ((sm.trans s3).trans (Same.new hDn)) (.inr ⟨h'.objs.size, as.map V.ref, _, rfl, rfl, upd_same, im.mono (TK.new hDn)⟩)⟩
    · cases q
  · cases q
end
end Wk

set_option maxHeartbeats 2000000
/-! defs that write to their own lists and dicts: FD (a dict of immutable data), fn_raw, short rules -/
namespace Wk
open PySem L2 PyProof.Rows
/-! ### a dict whose values are immutable, as data -/
def FD (P : Program) (w : World) (K : PySem.W.Frag) (H : Hp) (a : Addr) (l : List (PyData × PyData)) : Prop := ∃ kvs, KD P w K H a kvs ∧ Paired (fun (p : PyData × V) (q : PyData × PyData) => p.1 = q.1 ∧ Im K H p.2 q.2) kvs l
def dGet (l : List (PyData × PyData)) (k : NestedKey) : Option PyData := (l.find? fun p => decide (nkD p.1 = k)).map (·.2)
section
variable {P : Program} {w : World} {K : PySem.W.Frag} {H H' : Hp} {a b : Addr} {l : List (PyData × PyData)}
theorem FD.mono (t : TK H H') (e : ∀ o, H a = some o → H' a = some o) (h : FD P w K H a l) : FD P w K H' a l := by
  obtain ⟨kvs, h1, h2⟩ := h
  exact ⟨kvs, h1.mono t e, Paired.mapP h2 fun p q z => ⟨z.1, z.2.mono t⟩⟩
theorem FD.same (e : Same H H') (h : FD P w K H a l) : FD P w K H' a l := h.mono (same_tk e) fun _ q => e _ _ q
theorem FD.other {o o' : HO} (hb : H b = some o') (nt : ∀ xs, o' ≠ .tup xs) (ne : a ≠ b) (h : FD P w K H a l) : FD P w K (upd H b o) a l :=
  h.mono (TK.updO hb nt) fun _ q => by rw [upd_ne ne]; exact q
theorem FD.new {o : HO} (hb : H b = none) (h : FD P w K H a l) : FD P w K (upd H b o) a l := h.same (Same.new hb)
theorem FD.ex (h : FD P w K H a l) : ∃ φ, H a = some (.ext φ) := let ⟨_, h1, _⟩ := h; h1.ex
theorem FD.ne_lst {xs : List V} (h : FD P w K H a l) (hb : H b = some (.lst xs)) : a ≠ b := by
  obtain ⟨φ, e⟩ := h.ex
  exact ne_of e hb (fun z => nomatch z)
theorem fd_get {K : PySem.W.Frag} {H : Hp} {k : NestedKey} : ∀ {kvs : List (PyData × V)} {l : List (PyData × PyData)}, Paired (fun (p : PyData × V) (q : PyData × PyData) => p.1 = q.1 ∧ Im K H p.2 q.2) kvs l →
    (∀ d, dGet l k = some d → ∃ v, kGet kvs k = some v ∧ Im K H v d) ∧ (dGet l k = none → kGet kvs k = none)
  | _, _, .nil => ⟨fun d e => by simp [dGet] at e, fun _ => rfl⟩
  | p :: kvs, q :: l, .cons ⟨e, im⟩ r => by
    by_cases h : nkD p.1 = k
    · have h2 : nkD q.1 = k := by rw [← e]; exact h
      refine ⟨fun d hd => ⟨p.2, by simp [kGet, h], ?_⟩, fun hd => ?_⟩
      · simp [dGet, h2] at hd
        rw [← hd]
        exact im
      · simp [dGet, h2] at hd
    · have h2 : ¬ nkD q.1 = k := by rw [← e]; exact h
      have ih := fd_get (k := k) r
      simp only [dGet, kGet, List.find?_cons, decide_eq_false h, decide_eq_false h2]
      exact ih
theorem FD.get {k : NestedKey} {d : PyData} (h : FD P w K H a l) (e : dGet l k = some d) : ∃ kvs v, KD P w K H a kvs ∧ kGet kvs k = some v ∧ Im K H v d := by
  obtain ⟨kvs, h1, h2⟩ := h
  obtain ⟨v, h3, h4⟩ := (fd_get h2).1 d e
  exact ⟨kvs, v, h1, h3, h4⟩
theorem FD.isSome (k : NestedKey) (h : FD P w K H a l) : ∃ kvs, KD P w K H a kvs ∧ (kGet kvs k).isSome = (dGet l k).isSome := by
  obtain ⟨kvs, h1, h2⟩ := h
  refine ⟨kvs, h1, ?_⟩
  cases e : dGet l k with
  | none =>
    rw [(fd_get h2).2 e]
    rfl
  | some d =>
    obtain ⟨v, h3, _⟩ := (fd_get h2).1 d e
    rw [h3]
    rfl
theorem paired_snoc {α β : Type} {F : α → β → Prop} : ∀ {l₁ : List α} {l₂ : List β} {x : α} {y : β}, Paired F l₁ l₂ → F x y → Paired F (l₁ ++ [x]) (l₂ ++ [y])
  | _, _, _, _, .nil, h => .cons h .nil
  | _, _, _, _, .cons a r, h => .cons a (paired_snoc r h)
theorem FD.none {k : NestedKey} (h : FD P w K H a l) (e : dGet l k = none) : ∃ kvs, KD P w K H a kvs ∧ kGet kvs k = none ∧ kvs.length = l.length ∧ ∀ H' d v y, (nkD d = k) → TK H H' → Im K H' v y → KD P w K H' a (kvs ++ [(d, v)]) → FD P w K H' a (l ++ [(d, y)]) := by
  obtain ⟨kvs, h1, h2⟩ := h
  refine ⟨kvs, h1, (fd_get h2).2 e, Paired.length h2, fun H' d v y hk t im kd => ⟨_, kd, paired_snoc (Paired.mapP h2 fun p q z => ⟨z.1, z.2.mono t⟩) ⟨rfl, im⟩⟩⟩
end
theorem ImAll.rev {K : PySem.W.Frag} {H : Hp} {vs : List V} {ds : List PyData} (h : ImAll K H vs ds) : ImAll K H vs.reverse ds.reverse := by
  induction vs generalizing ds with
  | nil => cases h; exact .nil
  | cons v vs ih =>
    cases h with
    | cons a r =>
      rw [List.reverse_cons, List.reverse_cons]
      exact (ih r).snoc a
def revE (f : Ev) : Ev := fun ρ => match f ρ with
  | some (.list ds) => some (.list ds.reverse)
  | _ => none
theorem pd_rev {X : Cx} {e : Expr} {f : Ev} {k : Nat} {p1 p2 p3 pos : Pos} (he : PE X e (tD X.K f)) : PE X (.Subscript e (.Slice none none (some (.UnaryOp .USub (.Constant (.int 1) k p1) p2)) p3) pos) (tD X.K (revE f)) := pe_w (pe_revL he) fun σ H Q ⟨ρ, d, r, q, k⟩ => by
  unfold revE at q
  split at q
  · rename_i ds h0
    cases q
    refine ⟨ρ, _, r, h0, fun v H1 s1 r1 => ?_⟩
    obtain ⟨a, xs, rfl, h1, h2⟩ := r1.lst
    exact ⟨a, xs, rfl, SqL.of h1, fun p hp => k _ _ (s1.trans (Same.new hp)) (.inr ⟨p, _, _, rfl, rfl, upd_same, h2.rev.mono (TK.new hp)⟩)⟩
  · cases q
theorem u9 {k : Nat} {A : Around} (r : Room k A) : A.units + 9 < cLine := by have := r.un; omega
theorem u10 {k : Nat} {A : Around} (r : Room k A) : A.units + 10 < cLine := by have := r.un; omega
/-! ### defs -/
theorem fn_raw {P : Program} {w : World} {K : PySem.W.Frag} {mg : Str → Option Value} {base : Heap} {x : Str} {params : Arguments} {body : List Stmt} {scope : Scope} {f : Addr} {fd : FuncData} {N ps : List Str} {k : Nat} {sp : Sp} (F : FunD K x x params body scope [] [] f fd) (hm : mg x = some (.ref f)) (hb : Binds K fd ps []) (S : FnScope N ps scope)
    (len : ∀ vs H Q E, sp vs H Q E → vs.length = ps.length)
    (hbody : ∀ (cdv : Value) (A : Around) (outer : List PySem.Env) (s : Shared) (H : Hp) (vs : List V) (Q : VK) (E : XK), Room k (A.deeper (envOfC x scope s.heap.objs.size f cdv)) → sp vs H Q E →
      ∃ t, PSs (cxOf CX0 P w K mg base N x scope f cdv A outer s H E).nox body t ∧ t { nx := fun _ H' => Q .non H', rt := Q } (L2.start N vs) H) :
    FnAt P w K mg base (k + 1) x ps sp :=
  ⟨f, fd, hm, F.kp, hb, F.ok S len fun cdv A outer s H vs Q E hr h => by
    obtain ⟨t, h1, h2⟩ := hbody cdv A outer s H vs Q E hr h
    exact ⟨t, h1.nox, h2⟩⟩
end Wk

set_option maxHeartbeats 2000000
/-! row_to -/
namespace Wk
open PySem L2 PyProof.Rows
abbrev n_row_to : List Str := ["found", "stand", "row", "deed"]
theorem sc_row_to : FnScope n_row_to ["found", "stand"] (defScope (top 91)) := ⟨rfl, rfl, rfl, by decide +kernel, rfl, by decide +kernel, by decide +kernel⟩
inductive Chain (l : List (PyData × PyData)) : Stand → List Deed → Prop
  | nil {s : Stand} : dGet l (nkD (standD s)) = some .none → Chain l s []
  | snoc {s p : Stand} {d : Deed} {r : List Deed} : dGet l (nkD (standD s)) = some (.tuple [standD p, deedD d]) → Chain l p r → Chain l s (r ++ [d])
theorem key_depth (k : List Nat) : (nkD (keyD k)).depth ≤ 1 := by
  have : ∀ k : List Nat, NestedKey.depthAll (nkDs (k.map nD)) = 0 := by
    intro k
    induction k with
    | nil => rfl
    | cons x r ih =>
      show max (NestedKey.depth (nkD (nD x))) (NestedKey.depthAll (nkDs (r.map nD))) = 0
      rw [ih]
      rfl
  show NestedKey.depthAll (nkDs (k.map nD)) + 1 ≤ 1
  rw [this]
  exact Nat.le_refl _
theorem stand_depth (s : Stand) : (nkD (standD s)).depth ≤ 8 := by
  have := key_depth s.2
  show max 0 (max (NestedKey.depth (nkD (keyD s.2))) 0) + 1 ≤ 8
  omega
theorem keyD_stand {K : PySem.W.Frag} {H : Hp} {v : V} {s : Stand} (h : Im K H v (standD s)) : KeyD K H v (standD s) := ⟨h, ⟨_, rfl⟩, stand_depth s⟩
section
variable {P : Program} {w : World} {K : PySem.W.Frag} {mg : Str → Option Value} {base : Heap}
def sp_row_to (P : Program) (w : World) (K : PySem.W.Frag) : Sp := fun vs H Q _ => ∃ (a : Addr) (v : V) (l : List (PyData × PyData)) (s : Stand) (r : List Deed), vs = [.ref a, v] ∧ FD P w K H a l ∧ Im K H v (standD s) ∧ Chain l s r ∧ r.length ≤ 10000 ∧ ∀ u H', Same H H' → Im K H' u (rowD r) → Q u H'
theorem Im.pair {K : PySem.W.Frag} {H : Hp} {v : V} {d e : PyData} (h : Im K H v (.tuple [d, e])) : ∃ a x y, v = .ref a ∧ H a = some (.tup [x, y]) ∧ Im K H x d ∧ Im K H y e := by
  obtain ⟨a, xs, rfl, h1, h2⟩ := h.inT
  cases h2 with
  | cons h3 t =>
    cases t with
    | cons h4 t2 =>
      cases t2
      exact ⟨a, _, _, rfl, h1, h3, h4⟩
theorem ok_row_to (M : Mo mg) (D : Dn K mg "row_to" (top 91)) : FnAt P w K mg base 1 "row_to" ["found", "stand"] (sp_row_to P w K) := by
  obtain ⟨f, fd, F, hm⟩ := D.ex
  refine fn_raw (N := n_row_to) F hm (F.bindsN fun _ _ _ _ _ _ us hl => match us, hl with | [_, _], _ => rfl) sc_row_to (fun vs H Q E h => by obtain ⟨_, _, _, _, _, rfl, _⟩ := h; rfl) (fun cdv A outer s H vs Q E hr h => ?_)
  have hu := hr.units
  refine ⟨_, pss_cons (ps_set (i := 2) sc_row_to.nd rfl (.inl rfl) (pe_lst pa_nil)) (pss_cons (ps_while PassesOwn.never (pt_cmp (pc_notN (pe_kget (u9 hr) (pv 0) (pv 1))) rfl)
    (pss_cons (ps_asg (pe_kget (u9 hr) (pv 0) (pv 1)) (pg_tup rfl (pgs_cons (pg_name (i := 1) sc_row_to.nd rfl (.inl rfl)) (pgs_cons (pg_name (i := 3) sc_row_to.nd rfl (.inl rfl)) pgs_nil))))
      (pss_one (ps_expr (pe_bm PySem.F.plainAttrs_list PySem.F.slot_list_append PySem.F.type_list_append mt_append (pv 2) (pa_cons (pv 3) pa_nil))))))
    (pss_one (ps_ret (pd_tuple M.b_tuple (pd_cons (pd_rev (pd_var 2 (pv 2))) pd_nil))))), ?_⟩
  obtain ⟨a, v, l, s0, r, rfl, hF, hv, hc, hl, k⟩ := h
  refine ⟨by decide, fun R hR => ?_⟩
  have u0 : upd H R (.lst []) R = some (.lst []) := upd_same
  refine ⟨fun m σ' H' => ∃ s1 r1 done v1 xs d3, σ' = [some (.ref a), some v1, some (.ref R), d3] ∧ m = r1.length ∧ Same H H' ∧ Im K H' v1 (standD s1) ∧ Chain l s1 r1 ∧ r = r1 ++ done.reverse ∧ H' R = some (.lst xs) ∧ ImAll K H' xs (done.map deedD), ⟨_, s0, r, [], v, [], none, rfl, rfl, Same.new hR, hv.mono (TK.new hR), hc, by simp, u0, .nil⟩, ?_⟩
  rintro m σ' H' ⟨s1, r1, done, v1, xs, d3, rfl, rfl, sm, hv1, hc1, hr1, hR1, hx⟩
  have hF1 := hF.same sm
  have hl1 : xs.length = done.length := by rw [hx.length, List.length_map]
  have hl2 : r1.length + done.length = r.length := by rw [hr1, List.length_append, List.length_reverse]
  cases hc1 with
  | nil hg =>
    obtain ⟨kvs, u, kd, kg, im⟩ := hF1.get hg
    cases im
    refine ⟨_, rfl, _, rfl, a, kvs, _, .non, rfl, kd, keyD_stand hv1, kg, false, rfl, ?_⟩
    refine iteF ?_
    refine ⟨[none, none, some (.list (done.map deedD)), none], rowD r, ⟨rfl, fun i d q => ?_⟩, ?_, fun u' H'' s2 r2 => k u' H'' (sm.trans s2) (r2.im rfl)⟩
    · match i with
      | 0 => cases q
      | 1 => cases q
      | 2 =>
        cases q
        exact ⟨_, rfl, .inr ⟨R, xs, _, rfl, rfl, hR1, hx⟩⟩
      | 3 => cases q
      | i + 4 => simp at q
    · simp only [List.nil_append] at hr1
      rw [hr1]
      simp [revE, tupF_of, rowD]
  | @snoc _ p d r2 hg hc2 =>
    obtain ⟨kvs, u, kd, kg, im⟩ := hF1.get hg
    obtain ⟨ta, x, y, rfl, ht, ix, iy⟩ := im.pair
    refine ⟨_, rfl, _, rfl, a, kvs, _, .ref ta, rfl, kd, keyD_stand hv1, kg, true, rfl, ?_⟩
    refine iteT ?_
    refine ⟨fun σ'' H'' => ∃ s1 r1' done v1 xs d3, σ'' = [some (.ref a), some v1, some (.ref R), d3] ∧ r1'.length = r2.length ∧ Same H H'' ∧ Im K H'' v1 (standD s1) ∧ Chain l s1 r1' ∧ r = r1' ++ done.reverse ∧ H'' R = some (.lst xs) ∧ ImAll K H'' xs (done.map deedD), fun σ'' H'' ⟨s1', r1', done', v1', xs', d3', e1, e2, e3⟩ => ⟨r1'.length, by simp; omega, s1', r1', done', v1', xs', d3', e1, rfl, e3⟩, ?_⟩
    refine ⟨_, rfl, _, rfl, a, kvs, _, .ref ta, rfl, kd, keyD_stand hv1, kg, ta, [x, y], rfl, SqT.of ht, rfl, x, [y], rfl, y, [], rfl, rfl, ?_⟩
    refine ⟨.ref R, rfl, .inl ⟨rfl, _, SqL.of hR1⟩, y, rfl, R, xs, y, rfl, rfl, hR1, ?_, ?_⟩
    · rw [hl1]
      exact Nat.lt_of_le_of_lt (by omega : done.length ≤ 10000) (by decide)
    · refine ⟨p, r2, done ++ [d], x, xs ++ [y], some y, rfl, rfl, Same.mut sm hR, ix.mono (TK.updL hR1), hc2, ?_, upd_same, ?_⟩
      · rw [hr1]
        simp
      · rw [List.map_append]
        exact (hx.snoc iy).mono (TK.updL hR1)
end
end Wk

set_option maxHeartbeats 2000000
/-! the search by rows, plain: entries with their depths -/
namespace Wk
open PySem L2
/-! ### stands, told apart -/
theorem plDs_nat : ∀ k : List Nat, plDs (k.map nD) = true
  | [] => rfl
  | x :: r => by
    show (plD (nD x) && plDs (r.map nD)) = true
    rw [plDs_nat r]
    rfl
theorem plD_stand (s : Stand) : plD (standD s) = true := by
  show (true && (plDs (s.2.map nD) && true)) = true
  rw [plDs_nat]
  rfl
theorem nD_inj {a b : Nat} (h : nD a = nD b) : a = b := by
  have h2 : (a : Int) = b := by injection h
  omega
theorem nDs_inj : ∀ {k l : List Nat}, k.map nD = l.map nD → k = l
  | [], [], _ => rfl
  | [], _ :: _, h => by simp at h
  | _ :: _, [], h => by simp at h
  | x :: k, y :: l, h => by
    rw [List.map_cons, List.map_cons] at h
    injection h with a b
    rw [nD_inj a, nDs_inj b]
theorem keyD_inj {k l : List Nat} (h : keyD k = keyD l) : k = l := by
  injection h with h
  exact nDs_inj h
theorem standD_inj {s t : Stand} (h : standD s = standD t) : s = t := by
  obtain ⟨a, k⟩ := s
  obtain ⟨b, l⟩ := t
  injection h with h
  injection h with h1 h2
  injection h2 with h2 _
  rw [show a = b from nD_inj h1, show k = l from keyD_inj h2]
theorem nk_stand {s t : Stand} (h : nkD (standD s) = nkD (standD t)) : s = t := standD_inj (nkD_inj _ _ (plD_stand s) (plD_stand t) h)
/-! ### how many stands -/
def keysN : Nat → List (List Nat)
  | 0 => [[]]
  | n + 1 => (keysN n).flatMap fun k => (List.range 7).map fun x => x :: k
theorem keysN_len : ∀ n, (keysN n).length = 7 ^ n
  | 0 => rfl
  | n + 1 => by
    unfold keysN
    rw [List.length_flatMap]
    have : ((keysN n).map fun k => ((List.range 7).map fun x => x :: k).length) = (keysN n).map fun _ => 7 := List.map_congr_left fun k _ => by simp
    rw [this]
    have h2 : ∀ l : List (List Nat), (l.map fun _ => 7).sum = l.length * 7 := by
      intro l
      induction l with
      | nil => rfl
      | cons x r ih => rw [List.map_cons, List.sum_cons, ih, List.length_cons]; omega
    rw [h2, keysN_len n, Nat.pow_succ]
theorem mem_keysN : ∀ {n : Nat} {k : List Nat}, k.length = n → (∀ x ∈ k, x ≤ 6) → k ∈ keysN n
  | 0, [], _, _ => by simp [keysN]
  | n + 1, x :: k, h, h6 => by
    unfold keysN
    rw [List.mem_flatMap]
    refine ⟨k, mem_keysN (by simpa using h) fun y hy => h6 y (List.mem_cons_of_mem _ hy), ?_⟩
    have := h6 x List.mem_cons_self
    exact List.mem_map.mpr ⟨x, by simp; omega, rfl⟩
def allS (h : House) : List Stand := (List.range h.halls).flatMap fun a => (keysN h.teeth).map fun k => (a, k)
theorem allS_len (G : Good h) : (allS h).length ≤ 2058 := by
  unfold allS
  rw [List.length_flatMap]
  have h2 : ∀ l : List Nat, (l.map fun a => ((keysN h.teeth).map fun k => (a, k)).length).sum = l.length * 7 ^ h.teeth := by
    intro l
    induction l with
    | nil => simp
    | cons x r ih => rw [List.map_cons, List.sum_cons, ih, List.length_cons, List.length_map, keysN_len, Nat.succ_mul]; omega
  rw [h2, List.length_range]
  have h3 : 7 ^ h.teeth ≤ 7 ^ 3 := Nat.pow_le_pow_right (by omega) G.t3
  calc h.halls * 7 ^ h.teeth ≤ 6 * 7 ^ 3 := Nat.mul_le_mul G.h6 h3
    _ = 2058 := by decide
theorem mem_allS {h : House} {s : Stand} (g : GoodS h s) : s ∈ allS h := by
  unfold allS
  rw [List.mem_flatMap]
  exact ⟨s.1, List.mem_range.mpr g.hall, List.mem_map.mpr ⟨s.2, mem_keysN g.len g.six, rfl⟩⟩
theorem few {h : House} (G : Good h) {l : List Stand} (n : l.Nodup) (g : ∀ s ∈ l, GoodS h s) : l.length ≤ 2058 :=
  Nat.le_trans (List.Nodup.length_le_of_subset n fun s hs => mem_allS (g s hs)) (allS_len G)
/-! ### the entries -/
abbrev Ent := Stand × Nat × Option (Stand × Deed)
def valD : Option (Stand × Deed) → PyData
  | none => .none
  | some p => .tuple [standD p.1, deedD p.2]
def entL (E : List Ent) : List (PyData × PyData) := E.map fun e => (standD e.1, valD e.2.2)
theorem ent_get : ∀ {E : List Ent} {e : Ent}, (E.map (·.1)).Nodup → e ∈ E → dGet (entL E) (nkD (standD e.1)) = some (valD e.2.2)
  | [], _, _, h => by cases h
  | x :: E, e, n, h => by
    rw [List.map_cons, List.nodup_cons] at n
    by_cases q : x.1 = e.1
    · have e1 : e = x := by
        rcases List.mem_cons.mp h with rfl | h
        · rfl
        · exact absurd (q ▸ List.mem_map.mpr ⟨e, h, rfl⟩) n.1
      subst e1
      simp [dGet, entL]
    · have h2 : e ∈ E := by
        rcases List.mem_cons.mp h with rfl | h
        · exact absurd rfl q
        · exact h
      have q2 : ¬ nkD (standD x.1) = nkD (standD e.1) := fun z => q (nk_stand z)
      have ih := ent_get n.2 h2
      simp only [dGet, entL, List.map_cons, List.find?_cons, decide_eq_false q2] at ih ⊢
      exact ih
theorem ent_none {E : List Ent} {s : Stand} : dGet (entL E) (nkD (standD s)) = none ↔ s ∉ E.map (·.1) := by
  unfold dGet entL
  rw [Option.map_eq_none_iff, List.find?_eq_none]
  constructor
  · intro h hs
    obtain ⟨e, he, rfl⟩ := List.mem_map.mp hs
    exact h _ (List.mem_map.mpr ⟨e, he, rfl⟩) (by simp)
  · intro h p hp
    obtain ⟨e, he, rfl⟩ := List.mem_map.mp hp
    simp
    intro z
    exact h (List.mem_map.mpr ⟨e, he, nk_stand z⟩)
def Parent (h : House) (s0 : Stand) (E : List Ent) (e : Ent) : Prop := match e.2.2 with
  | none => e.1 = s0 ∧ e.2.1 = 0
  | some (p, d) => ∃ e' ∈ E, e'.1 = p ∧ e.2.1 = e'.2.1 + 1 ∧ GoodD h d ∧ can h p d = true ∧ done h p d = e.1
theorem Parent.mono {h : House} {s0 : Stand} {E E' : List Ent} {e : Ent} (s : ∀ x ∈ E, x ∈ E') (p : Parent h s0 E e) : Parent h s0 E' e := by
  unfold Parent at *
  split at p
  · exact p
  · obtain ⟨e', h1, h2⟩ := p
    exact ⟨e', s _ h1, h2⟩
structure Base (h : House) (s0 : Stand) (E : List Ent) : Prop where
  nodup : (E.map (·.1)).Nodup
  good : ∀ e ∈ E, GoodS h e.1
  sorted : E.Pairwise (fun a b => a.2.1 ≤ b.2.1)
  dep : ∀ e ∈ E, e.2.1 < E.length
  root : ∃ e ∈ E, e.1 = s0 ∧ e.2.1 = 0
  par : ∀ e ∈ E, Parent h s0 E e
theorem Base.len {h : House} {s0 : Stand} {E : List Ent} (B : Base h s0 E) (G : Good h) : E.length ≤ 2058 := by
  have := few G B.nodup fun s hs => by
    obtain ⟨e, he, rfl⟩ := List.mem_map.mp hs
    exact B.good e he
  rwa [List.length_map] at this
/-- an edge out of a stand of the k-th level is told -/
def Has (E : List Ent) (s : Stand) (k : Nat) : Prop := ∃ e ∈ E, e.1 = s ∧ e.2.1 ≤ k
/-- between two levels: k is done up to what is said beside, L are those of level k + 1 -/
structure LInv (h : House) (s0 : Stand) (k : Nat) (E : List Ent) (W L : List Stand) : Prop where
  base : Base h s0 E
  le : ∀ e ∈ E, e.2.1 ≤ k + 1
  at_ : ∀ e ∈ E, e.2.1 = k → e.1 ∈ W
  sub : ∀ x ∈ W, ∃ e ∈ E, e.1 = x ∧ e.2.1 = k
  lat : ∀ e ∈ E, e.2.1 = k + 1 → e.1 ∈ L
  lsub : ∀ x ∈ L, ∃ e ∈ E, e.1 = x ∧ e.2.1 = k + 1
  closed : ∀ e ∈ E, e.2.1 < k → ∀ d, GoodD h d → can h e.1 d = true → Has E (done h e.1 d) (e.2.1 + 1)
theorem Has.mono {E E' : List Ent} {s : Stand} {k : Nat} (s2 : ∀ x ∈ E, x ∈ E') (h : Has E s k) : Has E' s k := by
  obtain ⟨e, h1, h2⟩ := h
  exact ⟨e, s2 _ h1, h2⟩
section
variable {h : House} {s0 : Stand} {k : Nat} {E : List Ent} {W L : List Stand}
theorem LInv.step (I : LInv h s0 k E W L) {x : Stand} {d : Deed} (hx : x ∈ W) (hd : GoodD h d) (c : can h x d = true) (G : Good h) (hn : done h x d ∉ E.map (·.1)) : LInv h s0 k (E ++ [(done h x d, k + 1, some (x, d))]) W (L ++ [done h x d]) := by
  obtain ⟨e, he, ex, ek⟩ := I.sub x hx
  have gx : GoodS h x := by rw [← ex]; exact I.base.good e he
  have inl : ∀ y ∈ E, y ∈ E ++ [(done h x d, k + 1, some (x, d))] := fun y hy => List.mem_append_left _ hy
  refine ⟨⟨?_, ?_, ?_, ?_, ?_, ?_⟩, ?_, ?_, ?_, ?_, ?_, ?_⟩
  · rw [List.map_append, List.nodup_append]
    refine ⟨I.base.nodup, by simp, fun a ha b hb => ?_⟩
    rw [List.mem_singleton.mp hb]
    intro z
    rw [z] at ha
    exact hn ha
  · intro y hy
    rcases List.mem_append.mp hy with hy | hy
    · exact I.base.good y hy
    · rw [List.mem_singleton.mp hy]
      exact done_good G gx c
  · rw [List.pairwise_append]
    refine ⟨I.base.sorted, by simp, fun a ha b hb => ?_⟩
    rw [List.mem_singleton.mp hb]
    exact I.le a ha
  · intro y hy
    rw [List.length_append]
    rcases List.mem_append.mp hy with hy | hy
    · have := I.base.dep y hy
      simp
      omega
    · rw [List.mem_singleton.mp hy]
      have := I.base.dep e he
      simp
      omega
  · obtain ⟨r, hr, r2⟩ := I.base.root
    exact ⟨r, inl r hr, r2⟩
  · intro y hy
    rcases List.mem_append.mp hy with hy | hy
    · exact (I.base.par y hy).mono inl
    · rw [List.mem_singleton.mp hy]
      exact ⟨e, inl e he, ex, by rw [ek], hd, c, rfl⟩
  · intro y hy
    rcases List.mem_append.mp hy with hy | hy
    · exact I.le y hy
    · rw [List.mem_singleton.mp hy]
      exact Nat.le_refl _
  · intro y hy yk
    rcases List.mem_append.mp hy with hy | hy
    · exact I.at_ y hy yk
    · rw [List.mem_singleton.mp hy] at yk
      simp at yk
  · intro y hy
    obtain ⟨e', h1, h2⟩ := I.sub y hy
    exact ⟨e', inl e' h1, h2⟩
  · intro y hy yk
    rcases List.mem_append.mp hy with hy | hy
    · exact List.mem_append_left _ (I.lat y hy yk)
    · rw [List.mem_singleton.mp hy]
      simp
  · intro y hy
    rcases List.mem_append.mp hy with hy | hy
    · obtain ⟨e', h1, h2⟩ := I.lsub y hy
      exact ⟨e', inl e' h1, h2⟩
    · rw [List.mem_singleton.mp hy]
      exact ⟨_, List.mem_append_right _ (List.mem_singleton.mpr rfl), rfl, rfl⟩
  · intro y hy yk d' hd' c'
    rcases List.mem_append.mp hy with hy | hy
    · exact (I.closed y hy yk d' hd' c').mono inl
    · rw [List.mem_singleton.mp hy] at yk
      exact absurd yk (by simp)
theorem LInv.has_step (I : LInv h s0 k E W L) {s : Stand} (hs : s ∈ E.map (·.1)) : Has E s (k + 1) := by
  obtain ⟨e, he, rfl⟩ := List.mem_map.mp hs
  exact ⟨e, he, rfl, I.le e he⟩
/-- at the head of the loop -/
structure BInv (h : House) (s0 : Stand) (k : Nat) (E : List Ent) (W : List Stand) : Prop where
  base : Base h s0 E
  le : ∀ e ∈ E, e.2.1 ≤ k
  at_ : ∀ e ∈ E, e.2.1 = k → e.1 ∈ W
  sub : ∀ x ∈ W, ∃ e ∈ E, e.1 = x ∧ e.2.1 = k
  closed : ∀ e ∈ E, e.2.1 < k → ∀ d, GoodD h d → can h e.1 d = true → Has E (done h e.1 d) (e.2.1 + 1)
theorem BInv.start (B : BInv h s0 k E W) : LInv h s0 k E W [] :=
  ⟨B.base, fun e he => Nat.le_succ_of_le (B.le e he), B.at_, B.sub, fun e he q => by have := B.le e he; omega, (fun x hx => nomatch hx), B.closed⟩
theorem LInv.next (I : LInv h s0 k E W L) (hc : ∀ x ∈ W, ∀ d, GoodD h d → can h x d = true → Has E (done h x d) (k + 1)) : BInv h s0 (k + 1) E L := by
  refine ⟨I.base, I.le, I.lat, I.lsub, fun e he hk d hd c => ?_⟩
  by_cases q : e.2.1 < k
  · exact I.closed e he q d hd c
  · have q2 : e.2.1 = k := by omega
    rw [q2]
    exact hc e.1 (I.at_ e he q2) d hd c
theorem BInv.init {s0 : Stand} (g : GoodS h s0) : BInv h s0 0 [(s0, 0, none)] [s0] := by
  refine ⟨⟨by simp, ?_, by simp, ?_, ⟨_, List.mem_singleton.mpr rfl, rfl, rfl⟩, ?_⟩, ?_, ?_, ?_, ?_⟩
  all_goals (intro e he)
  · rw [List.mem_singleton.mp he]; exact g
  · rw [List.mem_singleton.mp he]; exact Nat.zero_lt_one
  · rw [List.mem_singleton.mp he]; exact ⟨rfl, rfl⟩
  · rw [List.mem_singleton.mp he]; exact Nat.le_refl _
  · intro _; rw [List.mem_singleton.mp he]; simp
  · rw [List.mem_singleton.mp he]; exact ⟨_, List.mem_singleton.mpr rfl, rfl, rfl⟩
  · intro q; exact absurd q (Nat.not_lt_zero _)
structure BFin (h : House) (s0 : Stand) (E : List Ent) : Prop where
  base : Base h s0 E
  closed : ∀ e ∈ E, ∀ d, GoodD h d → can h e.1 d = true → Has E (done h e.1 d) (e.2.1 + 1)
theorem BInv.fin (B : BInv h s0 k E []) : BFin h s0 E := by
  refine ⟨B.base, fun e he d hd c => B.closed e he ?_ d hd c⟩
  have h1 := B.le e he
  have h2 : e.2.1 ≠ k := fun q => by cases B.at_ e he q
  omega
/-- a row comes to an entry that is no deeper -/
theorem BFin.reach (B : BFin h s0 E) : ∀ {r : List Deed} {e : Ent} {t : Stand}, e ∈ E → (∀ d ∈ r, GoodD h d) → run h e.1 r = some t → ∃ e' ∈ E, e'.1 = t ∧ e'.2.1 ≤ e.2.1 + r.length
  | [], e, t, he, _, hr => by
    cases hr
    exact ⟨e, he, rfl, by simp⟩
  | d :: r, e, t, he, hg, hr => by
    unfold run at hr
    split at hr
    · rename_i c
      obtain ⟨e1, h1, h2, h3⟩ := B.closed e he d (hg d List.mem_cons_self) c
      rw [← h2] at hr
      obtain ⟨e2, h4, h5, h6⟩ := BFin.reach B h1 (fun x hx => hg x (List.mem_cons_of_mem _ hx)) hr
      exact ⟨e2, h4, h5, by simp; omega⟩
    · cases hr
theorem run_snoc {s t u : Stand} {d : Deed} : ∀ {r : List Deed} {s : Stand}, run h s r = some t → can h t d = true → done h t d = u → run h s (r ++ [d]) = some u
  | [], s, e, c, q => by
    cases e
    show (if can h t d = true then some (done h t d) else none) = _
    rw [if_pos c, q]
  | x :: r, s, e, c, q => by
    unfold run at e
    split at e
    · rename_i c2
      show (if can h s x = true then run h (done h s x) (r ++ [d]) else none) = _
      rw [if_pos c2]
      exact run_snoc (s := s) e c q
    · cases e
/-- the row that the entries tell -/
theorem Base.row (B : Base h s0 E) : ∀ (n : Nat) {e : Ent}, e ∈ E → e.2.1 = n → ∃ r, Chain (entL E) e.1 r ∧ r.length = n ∧ run h s0 r = some e.1 ∧ ∀ d ∈ r, GoodD h d := by
  intro n
  induction n with
  | zero =>
    intro e he hk
    have p := B.par e he
    have g := ent_get B.nodup he
    unfold Parent at p
    split at p
    · rename_i q
      rw [q] at g
      refine ⟨[], .nil g, rfl, ?_, by simp⟩
      rw [p.1]
      rfl
    · obtain ⟨e', h1, h2, h3, _⟩ := p
      omega
  | succ n ih =>
    intro e he hk
    have p := B.par e he
    have g := ent_get B.nodup he
    unfold Parent at p
    split at p
    · omega
    · rename_i p0 d q
      obtain ⟨e', h1, h2, h3, h4, h5, h6⟩ := p
      obtain ⟨r, k1, k2, k3, k4⟩ := ih h1 (by omega)
      rw [q] at g
      rw [h2] at k1 k3
      refine ⟨r ++ [d], .snoc g k1, by simp [k2], run_snoc (s := s0) k3 h5 h6, fun x hx => ?_⟩
      rcases List.mem_append.mp hx with hx | hx
      · exact k4 x hx
      · rw [List.mem_singleton.mp hx]
        exact h4
end
end Wk

set_option maxHeartbeats 2000000
/-! fresh lists; dict([(k, v) ..]); next_ones again; spread_from -/
namespace Wk
open PySem L2 PyProof.Rows
/-! ### a list that is new -/
def tF (K : PySem.W.Frag) (f : Ev) : TE := fun σ H Q => ∃ ρ ds, RepS K H σ ρ ∧ f ρ = some (.list ds) ∧ ∀ D xs H', H D = none → Same H H' → H' D = some (.lst xs) → ImAll K H' xs ds → Q (.ref D) H'
def spF (K : PySem.W.Frag) (n : Nat) (f : Fd) : Sp := fun vs H Q _ => vs.length = n ∧ ∃ ds l, RpA K H vs ds ∧ f ds = some (.list l) ∧ ∀ D xs H', H D = none → Same H H' → H' D = some (.lst xs) → ImAll K H' xs l → Q (.ref D) H'
theorem lc_tf {K : PySem.W.Frag} {fi : EvL} {p : PatF} {c : EvB} {e : Ev} {vs sl : List Nat} {σ : L2.St} {H : Hp} {Q : VK} (hsl : ∀ i ∈ sl, i ∈ vs) (h : tF K (lcE fi p c e vs) σ H Q) : tLc (tI K fi) (tG K p sl) (tT K c) (tD K e) vs σ H Q := by
  obtain ⟨ρ, d, r, q, k⟩ := h
  unfold lcE at q
  obtain ⟨ds, h1, h2⟩ := Option.bind_eq_some_iff.mp q
  split at h2
  · rename_i hz
    obtain ⟨res, h3, h4⟩ := Option.map_eq_some_iff.mp h2
    cases h4
    exact ⟨ρ, ds, r, h1, fun J H1 s1 hW D hD => lc_read (D' := H1) hW hD hsl hz ((r.mono s1).wipe vs) h3 fun H' xs s2 h4 h5 => k _ _ H' (Same.back s1 hD) (s1.trans s2) h4 h5⟩
  · cases h2
section
variable {X : Cx} {K : PySem.W.Frag} {pos : Pos}
theorem pf_lc {elt tg iter : Expr} {ifs : List Expr} {scope : Scope} {own : List (Str × Nat)} {fi : EvL} {p : PatF} {cc : EvB} {ee : Ev} {sl : List Nat} (hN : X.N.Nodup) (hi : PI X tg iter (tI K fi)) (ok : BlkOk X.N X.env.scope scope own)
    (hg : ∀ (s : Shared) (H : Hp) (C : Addr) (cl : List (Str × Addr)) (fp : List Addr), PG (X.blk s H scope (compEnvC scope cl C X.env) fp) tg (tG K p sl)) (ht : ∀ (s : Shared) (H : Hp) (C : Addr) (cl : List (Str × Addr)) (fp : List Addr), PTs (X.blk s H scope (compEnvC scope cl C X.env) fp) ifs (tT K cc))
    (he : ∀ (s : Shared) (H : Hp) (C : Addr) (cl : List (Str × Addr)) (fp : List Addr), PE (X.blk s H scope (compEnvC scope cl C X.env) fp) elt (tD K ee)) (hsl : ∀ i ∈ sl, i ∈ own.map (·.2)) (hc : X.calm = true := by rfl) (hs : ∀ x, foldedSetIterable iter X.env x = pure x := by intro _; rfl) :
    PE X (.ListComp elt [⟨tg, iter, ifs, 0⟩] scope pos) (tF K (lcE fi p cc ee (own.map (·.2)))) := pe_w (pe_lc hc hN hi ok hg ht he hs) fun σ H Q h => lc_tf hsl h
theorem pf_setLc (i : Nat) {y : Str} {py spos : Pos} {elt tg iter : Expr} {ifs : List Expr} {scope : Scope} {own : List (Str × Nat)} {fi : EvL} {p : PatF} {cc : EvB} {ee : Ev} {sl : List Nat} (hN : X.N.Nodup) (hsw : swapsWith (.ListComp elt [⟨tg, iter, ifs, 0⟩] scope pos) (some (.Name y py)) spos.line X.env = pure true) (hi : PI X tg iter (tI K fi)) (ok : BlkOk X.N X.env.scope scope own)
    (hg : ∀ (s : Shared) (H : Hp) (C : Addr) (cl : List (Str × Addr)) (fp : List Addr), PG (X.blk s H scope (compEnvC scope cl C X.env) fp) tg (tG K p sl)) (ht : ∀ (s : Shared) (H : Hp) (C : Addr) (cl : List (Str × Addr)) (fp : List Addr), PTs (X.blk s H scope (compEnvC scope cl C X.env) fp) ifs (tT K cc))
    (he : ∀ (s : Shared) (H : Hp) (C : Addr) (cl : List (Str × Addr)) (fp : List Addr), PE (X.blk s H scope (compEnvC scope cl C X.env) fp) elt (tD K ee)) (hsl : ∀ i ∈ sl, i ∈ own.map (·.2)) (hc : X.calm = true := by rfl) (hy : X.N[i]? = some y := by rfl) (hyl : X.env.scope.names.lookup y = some .local := by rfl) (hs : ∀ x, foldedSetIterable iter X.env x = pure x := by intro _; rfl) :
    PS X (.Assign [.Name y py] (.ListComp elt [⟨tg, iter, ifs, 0⟩] scope pos) spos) (tAsg (tF K (lcE fi p cc ee (own.map (·.2)))) (gName i)) :=
  ps_w (ps_setLc hc hN hy hyl hsw hi ok hg ht he hs) fun D σ H h => lc_tf hsl h
/-- f(..), f an own def that gives a new list -/
theorem pf_fn {x : Str} {p : Pos} {e : Expr} {es : List Expr} {fs : EvL} {k n : Nat} {ps : List Str} {g : Fd} (F : FnAt X.prog X.w X.K X.mg X.base k x ps (spF X.K n g)) (hr : Room k X.A) (hn : (e :: es).length = n) (ha : PA X (e :: es) (tA X.K fs)) (hl : ∀ ρ ds, fs ρ = some ds → ds.length = n) (hg : Gl X x := by rfl) (hdb : (x == ("__debug__" : Str)) = false := by decide)
    (he : starEach (e :: es) X.env = (false, eval e X.env) :: starEach es X.env := by rfl) (hpl : (backTo pos (starEach es X.env)).any (·.1) = false := by rfl) : PE X (.Call (.Name x p) (e :: es) [] pos) (tF X.K (callE g fs)) := pe_w (pe_fn F hr ha hg hdb he hpl) fun σ H Q h => by
  obtain ⟨ρ, l, r, q, k⟩ := h
  obtain ⟨ds, h1, h2⟩ := Option.bind_eq_some_iff.mp (show (fs ρ).bind g = some (.list l) from q)
  refine ⟨ρ, ds, r, h1, fun vs H1 s1 r1 => ?_⟩
  refine ⟨by rw [List.append_nil, Paired.length r1]; exact hl ρ ds h1, ds, l, by rw [List.append_nil]; exact r1, h2, fun D xs H' hD s2 h3 h4 => k D xs H' (Same.back s1 hD) (s1.trans s2) h3 h4⟩
end
theorem spF_D {P : Program} {w : World} {K : PySem.W.Frag} {mg : Str → Option Value} {base : Heap} {k n : Nat} {x : Str} {ps : List Str} {f : Fd} (F : FnAt P w K mg base k x ps (spF K n f)) (hl : ∀ ds d, f ds = some d → ∃ l, d = .list l) : FnAt P w K mg base k x ps (spD K n f) := F.imp fun vs H Q E h => by
  obtain ⟨h0, ds, d, h1, h2, k⟩ := h
  obtain ⟨l, rfl⟩ := hl ds d h2
  exact ⟨h0, ds, l, h1, h2, fun D xs H' hD s h3 h4 => k _ H' s (.inr ⟨D, xs, l, rfl, rfl, h3, h4⟩)⟩
/-- what leads to a last line that gives a new list -/
theorem tail_new {K : PySem.W.Frag} {N : List Str} {f : Es} {e : Ev} {n : Nat} {vs : List V} {H : Hp} {Q : VK} (hf : ∀ ρ d, f ρ ≠ some (.rt d)) (h : spF K n (fnF N.length (sqS f (rtS e))) vs H Q (fun _ _ _ => False)) :
    tSeq (tS K f) (tRet (tF K e)) { nx := fun _ H' => Q .non H', rt := Q } (L2.start N vs) H := by
  obtain ⟨h0, ds, l, r, q, k⟩ := h
  unfold fnF at q
  split at q
  · rename_i d hg
    cases q
    cases hg2 : f (ds.map some ++ List.replicate (N.length - ds.length) none) with
    | none =>
      unfold sqS at hg
      rw [hg2] at hg
      cases hg
    | some r1 =>
      cases r1 with
      | rt d => exact absurd hg2 (hf _ d)
      | nx ρ1 =>
        unfold sqS at hg
        rw [hg2] at hg
        obtain ⟨d', h2, h3⟩ := Option.map_eq_some_iff.mp (show (e ρ1).map Res.rt = some (.rt (.list l)) from hg)
        cases h3
        exact ⟨_, .nx ρ1, start_rep r, hg2, fun σ' H' s1 r1 => ⟨ρ1, l, r1, h2, fun D xs H'' hD s2 h4 h5 => k D xs H'' (Same.back s1 hD) (s1.trans s2) h4 h5⟩⟩
  · cases q
  · cases q
section
variable {P : Program} {w : World} {K : PySem.W.Frag} {mg : Str → Option Value} {base : Heap}
theorem okF_next_ones (M : Mo mg) (D : Dn K mg "next_ones" (top 88)) (F_all_deeds : FnAt P w K mg base 1 "all_deeds" ["house"] (spD K 1 f_all_deeds)) (F_bar_of : FnAt P w K mg base 3 "bar_of" ["house", "stand", "deed"] (spD K 3 f_bar_of)) (F_done_by : FnAt P w K mg base 3 "done_by" ["house", "stand", "deed"] (spD K 3 f_done_by)) : FnAt P w K mg base 4 "next_ones" ["house", "stand"] (spF K 2 f_next_ones) := by
  obtain ⟨f, fd, F, hm⟩ := D.ex
  refine fn_raw (N := n_next_ones) F hm (F.bindsN fun _ _ _ _ _ _ us hl => match us, hl with | [_, _], _ => rfl) sc_next_ones (fun vs H Q E h => h.1) (fun cdv A outer s H vs Q E hr h => ?_)
  refine ⟨_, pss_cons (sd_setLc 2 (own := [("deed", 3)]) sc_next_ones.nd (sw_true rfl rfl rfl (by decide +kernel)) (id_seq (pd_fn (F_all_deeds.mono (by decide)) hr rfl (pd_cons (pd_var 0 (pv 0)) pd_nil) (consE_len nilE_len))) (blkOk_by (own := [("deed", 3)]) (N := n_next_ones) (sc := defScope (top 88)) (by decide +kernel)) (fun _ _ _ _ _ => (gd_name 3 (pg_name (i := 3) sc_next_ones.nd rfl (by first | exact Or.inl rfl | exact Or.inr rfl)))) (fun _ _ _ _ _ => (tsd_one (td_isN (pd_fn (F_bar_of.mono (by decide)) hr rfl (pd_cons (pd_var 0 (pv 0)) (pd_cons (pd_var 1 (pv 1)) (pd_cons (pd_var 3 (pv 3)) pd_nil))) (consE_len (consE_len (consE_len nilE_len))))))) (fun _ _ _ _ _ => (pd_var 3 (pv 3))) (by decide))
    (pss_one (ps_ret (pf_lc (own := [("deed", 3)]) sc_next_ones.nd (id_seq (pd_var 2 (pv 2))) (blkOk_by (own := [("deed", 3)]) (N := n_next_ones) (sc := defScope (top 88)) (by decide +kernel)) (fun _ _ _ _ _ => (gd_name 3 (pg_name (i := 3) sc_next_ones.nd rfl (by first | exact Or.inl rfl | exact Or.inr rfl)))) (fun _ _ _ _ _ => tsd_nil) (fun _ _ _ _ _ => (pd_tup (pd_cons (pd_var 3 (pv 3)) (pd_cons (pd_fn (F_done_by.mono (by decide)) hr rfl (pd_cons (pd_var 0 (pv 0)) (pd_cons (pd_var 1 (pv 1)) (pd_cons (pd_var 3 (pv 3)) pd_nil))) (consE_len (consE_len (consE_len nilE_len)))) pd_nil)))) (by decide)))), ?_⟩
  exact tail_new (N := n_next_ones) (fun ρ d z => by
    obtain ⟨d', _, h3⟩ := Option.map_eq_some_iff.mp (show (lcE _ _ _ _ _ ρ).map _ = some (Res.rt d) from z)
    cases h3) h
end
/-! ### dict([(k, v), ..]) -/
def pairD (p : PyData × PyData) : PyData := .tuple [p.1, p.2]
theorem ps_of {K : PySem.W.Frag} {H : Hp} : ∀ {xs : List V} {l : List (PyData × PyData)}, ImAll K H xs (l.map pairD) → (∀ p ∈ l, (∃ ds, p.1 = .tuple ds) ∧ (nkD p.1).depth ≤ 8) →
    ∃ ps kvs, xs = ps.map V.ref ∧ PsOk K H ps kvs ∧ Paired (fun (p : PyData × V) (q : PyData × PyData) => p.1 = q.1 ∧ Im K H p.2 q.2) kvs l
  | _, [], h, _ => by
    cases h
    exact ⟨[], [], rfl, .nil, .nil⟩
  | _, p :: l, h, hk => by
    rw [List.map_cons] at h
    cases h with
    | cons a r =>
      obtain ⟨b, x, y, rfl, hb, ix, iy⟩ := (show Im K H _ (.tuple [p.1, p.2]) from a).pair
      obtain ⟨ps, kvs, e1, e2, e3⟩ := ps_of r fun q hq => hk q (List.mem_cons_of_mem _ hq)
      have := hk p List.mem_cons_self
      exact ⟨b :: ps, (p.1, y) :: kvs, by rw [e1]; rfl, .cons ⟨x, hb, ix, this.1, this.2⟩ e2, .cons ⟨rfl, iy⟩ e3⟩
def tFD (P : Program) (w : World) (K : PySem.W.Frag) (f : Ev) : TE := fun σ H Q => ∃ ρ l, RepS K H σ ρ ∧ f ρ = some (.list (l.map pairD)) ∧ (∀ p ∈ l, (∃ ds, p.1 = PyData.tuple ds) ∧ (nkD p.1).depth ≤ 8) ∧ (l.map fun p => nkD p.1).Nodup ∧ ∀ a H', H a = none → Same H H' → FD P w K H' a l → Q (.ref a) H'
theorem pe_fdict {X : Cx} {e : Expr} {f : Ev} {p pos : Pos} (hm : X.mg "dict" = none) (hu : X.A.units + 10 < cLine) (he : PE X e (tD X.K f)) (hc : X.calm = true := by rfl) (hg : Gl X "dict" := by rfl) (hs : starEach [e] X.env = (false, eval e X.env) :: starEach [] X.env := by rfl) (hpl : (backTo pos (starEach [] X.env)).any (·.1) = false := by rfl) :
    PE X (.Call (.Name "dict" p) [e] [] pos) (tFD X.prog X.w X.K f) := pe_w (pe_callTy (call_kdict hu hc) hg hm PyProof.Rows.boot_dict (pa_cons he pa_nil hs) (he := hs) (hpl := hpl)) fun σ H Q h => by
  obtain ⟨ρ, l, r, q, hk, hn, k⟩ := h
  refine ⟨ρ, _, r, q, fun v H1 s1 r1 => ?_⟩
  obtain ⟨a, xs, rfl, h1, h2⟩ := r1.lst
  obtain ⟨ps, kvs, e1, e2, e3⟩ := ps_of h2 hk
  subst e1
  have e4 : (kvs.map fun p => nkD p.1) = l.map fun p => nkD p.1 := by
    clear h1 h2 e2 q hk hn k r1
    induction e3 with
    | nil => rfl
    | cons z _ ih => rw [List.map_cons, List.map_cons, z.1, ih]
  refine ⟨a, ps, kvs, rfl, h1, e2, by rw [e4]; exact hn, fun p o hp nt kd => ?_⟩
  exact k p _ (Same.back s1 hp) (s1.trans (Same.new hp)) ⟨kvs, kd, Paired.mapP e3 fun x y z => ⟨z.1, z.2.mono (TK.new hp)⟩⟩
end Wk

set_option maxHeartbeats 4000000
/-! spread_from, spread -/
namespace Wk
open PySem L2 PyProof.Rows
section
variable {P : Program} {w : World} {K : PySem.W.Frag} {mg : Str → Option Value} {base : Heap}
abbrev n_spread_from : List Str := ["house", "stands", "found", "waiting", "later", "one", "deed", "other", "stand"]
theorem sc_spread_from : FnScope n_spread_from ["house", "stands"] (defScope (top 89)) := ⟨rfl, rfl, rfl, by decide +kernel, rfl, by decide +kernel, by decide +kernel⟩
def sp_spread_from (P : Program) (w : World) (K : PySem.W.Frag) : Sp := fun vs H Q _ => ∃ (hv v : V) (a : Addr) (h : House) (s0 : Stand), vs = [hv, .ref a] ∧ Im K H hv (houseD h) ∧ H a = some (.lst [v]) ∧ Im K H v (standD s0) ∧ Good h ∧ GoodS h s0 ∧
  ∀ F E H', Same H H' → H F = none → BFin h s0 E → FD P w K H' F (entL E) → Q (.ref F) H'
theorem rep2 {K : PySem.W.Frag} {H : Hp} {a b : V} {x y : PyData} {σ : L2.St} {ρ : DE} (r : σ.length = ρ.length) (h : ∀ (i : Nat) (d : PyData), ρ[i]? = some (some d) → ∃ v, σ[i]? = some (some v) ∧ Rp K H v d) : RepS K H σ ρ := ⟨r, h⟩
theorem repAll {K : PySem.W.Frag} {H : Hp} : ∀ {σ : L2.St} {ρ : DE}, Paired (fun (x : Option V) (d : Option PyData) => ∀ y, d = some y → ∃ v, x = some v ∧ Rp K H v y) σ ρ → RepS K H σ ρ
  | _, _, .nil => ⟨rfl, fun i d q => by simp at q⟩
  | x :: σ, d :: ρ, .cons a r => by
    have ih := repAll r
    refine ⟨by rw [List.length_cons, List.length_cons, ih.1], fun i e q => ?_⟩
    cases i with
    | zero =>
      have q : d = some e := by simpa using q
      obtain ⟨v, h1, h2⟩ := a e q
      exact ⟨v, by rw [h1]; rfl, h2⟩
    | succ i =>
      obtain ⟨v, h1, h2⟩ := ih.2 i e (by simpa using q)
      exact ⟨v, by simpa using h1, h2⟩
theorem rSome {K : PySem.W.Frag} {H : Hp} {v : V} {d : PyData} (h : Rp K H v d) : ∀ y, some d = some y → ∃ u, some v = some u ∧ Rp K H u y := fun y e => by
  cases e
  exact ⟨v, rfl, h⟩
theorem rNone {K : PySem.W.Frag} {H : Hp} {x : Option V} : ∀ y : PyData, (none : Option PyData) = some y → ∃ u, x = some u ∧ Rp K H u y := fun y e => nomatch e
theorem im_stands {K : PySem.W.Frag} {H : Hp} {xs : List V} {l : List Stand} (h : ImAll K H xs (l.map standD)) {i : Nat} {x : V} (e : xs[i]? = some x) : ∃ s, l[i]? = some s ∧ Im K H x (standD s) := by
  obtain ⟨d, h1, h2⟩ := h.get' e
  rw [List.getElem?_map] at h1
  obtain ⟨s, h3, rfl⟩ := Option.map_eq_some_iff.mp h1
  exact ⟨s, h3, h2⟩
theorem im_len {K : PySem.W.Frag} {H : Hp} {α : Type} {F : α → PyData} {xs : List V} {l : List α} (h : ImAll K H xs (l.map F)) : xs.length = l.length := by rw [h.length, List.length_map]
def nxD (p : Deed × Stand) : PyData := .tuple [deedD p.1, standD p.2]
theorem nexts_mem {h : House} {s : Stand} {d : Deed} (hd : GoodD h d) (c : can h s d = true) : (d, done h s d) ∈ nexts h s :=
  List.mem_map.mpr ⟨d, List.mem_filter.mpr ⟨deeds_good.mpr hd, c⟩, rfl⟩
theorem nexts_of {h : House} {s : Stand} {p : Deed × Stand} (hp : p ∈ nexts h s) : GoodD h p.1 ∧ can h s p.1 = true ∧ p.2 = done h s p.1 := by
  obtain ⟨d, hd, rfl⟩ := List.mem_map.mp hp
  obtain ⟨h1, h2⟩ := List.mem_filter.mp hd
  exact ⟨deeds_good.mp h1, h2, rfl⟩
theorem depth_stand7 (s : Stand) : (standD s).depth ≤ 7 := by
  have := depth_key s.2
  show max 0 (max (PyData.depth (keyD s.2)) 0) + 1 ≤ 7
  omega
theorem ok_spread_from (M : Mo mg) (D : Dn K mg "spread_from" (top 89)) (F_next : FnAt P w K mg base 4 "next_ones" ["house", "stand"] (spF K 2 f_next_ones)) : FnAt P w K mg base 5 "spread_from" ["house", "stands"] (sp_spread_from P w K) := by
  obtain ⟨f, fd, F, hm⟩ := D.ex
  refine fn_raw (N := n_spread_from) F hm (F.bindsN fun _ _ _ _ _ _ us hl => match us, hl with | [_, _], _ => rfl) sc_spread_from (fun vs H Q E h => by obtain ⟨_, _, _, _, _, rfl, _⟩ := h; rfl) (fun cdv A outer s H vs Q E hr h => ?_)
  have hu := hr.units
  have nd := sc_spread_from.nd
  refine ⟨_, pss_cons (ps_par (i := 2) (j := 3) rfl nd rfl rfl (by decide) rfl rfl (pa_cons (pe_fdict M.b_dict (u10 hr)
      (pd_lc (own := [("stand", 8)]) nd (id_seq (pd_var 1 (pv 1))) (blkOk_by (own := [("stand", 8)]) (N := n_spread_from) (sc := defScope (top 89)) (by decide +kernel)) (fun _ _ _ _ _ => (gd_name 8 (pg_name (i := 8) nd rfl (by first | exact Or.inl rfl | exact Or.inr rfl)))) (fun _ _ _ _ _ => tsd_nil) (fun _ _ _ _ _ => (pd_tup (pd_cons (pd_var 8 (pv 8)) (pd_cons pd_non pd_nil)))) (by decide)))
      (pa_cons (pe_callTy call_list_of rfl M.b_list PyProof.Rows.boot_list (pa_cons (pv 1) pa_nil)) pa_nil)) rfl)
    (pss_cons (ps_while PassesOwn.never (td_ne hr.units (pd_var 3 (pv 3)) (pd_lst pd_nil))
      (pss_cons (ps_set (i := 4) nd rfl (.inl rfl) (pe_lst pa_nil))
      (pss_cons (ps_for PassesOwn.never rfl (pi_list (pv 3)) (pg_name (i := 5) nd rfl (.inl rfl))
        (pss_one (ps_for PassesOwn.never rfl (pi_list (pf_fn F_next hr rfl (pd_cons (pd_var 0 (pv 0)) (pd_cons (pd_var 5 (pv 5)) pd_nil)) (consE_len (consE_len nilE_len)))) (pg_tup rfl (pgs_cons (pg_name (i := 6) nd rfl (.inl rfl)) (pgs_cons (pg_name (i := 7) nd rfl (.inl rfl)) pgs_nil)))
          (pss_one (ps_if (pt_cmp (pc_knotin (u9 hr) (pv 7) (pv 2)) rfl)
            (pss_cons (ps_kput (u9 hr) (pv 2) (pv 7) (pe_tup (pa_cons (pv 5) (pa_cons (pv 6) pa_nil))))
            (pss_one (ps_expr (pe_bm PySem.F.plainAttrs_list PySem.F.slot_list_append PySem.F.type_list_append mt_append (pv 4) (pa_cons (pv 7) pa_nil)))))
            pss_nil)))))
      (pss_one (ps_set (i := 3) nd rfl (.inl rfl) (pv 4))))))
    (pss_one (ps_ret (pv 2)))), ?_⟩
  obtain ⟨hv, v, a, h, s0, rfl, hH, hA, hV, G, g0, k⟩ := h
  refine ⟨[some (houseD h), some (.list [standD s0]), none, none, none, none, none, none, none], [(standD s0, .none)], repAll (.cons (rSome (.inl hH)) (.cons (rSome (.inr ⟨a, _, _, rfl, rfl, hA, .cons hV .nil⟩)) (.cons rNone (.cons rNone (.cons rNone (.cons rNone (.cons rNone (.cons rNone (.cons rNone .nil))))))))), ?_, ?_, ?_, fun Fa H1 hFa s1 fd0 => ?_⟩
  · rfl
  · intro p hp
    rw [List.mem_singleton.mp hp]
    exact ⟨⟨_, rfl⟩, stand_depth s0⟩
  · simp
  refine ⟨_, rfl, a, [v], rfl, .inl (SqL.of (s1 _ _ hA)), fun Wa hWa => ?_⟩
  refine ⟨_, _, rfl, ?_⟩
  have hW0 := s1.free hWa
  -- the loop
  refine ⟨fun m σ' H' => ∃ E W kk Wx ws x4 x5 x6 x7, σ' = [some hv, some (.ref a), some (.ref Fa), some (.ref Wx), x4, x5, x6, x7, none] ∧ m = 2 * (2058 - E.length) + (if W = [] then 0 else 1) ∧ Same H H' ∧ FD P w K H' Fa (entL E) ∧ BInv h s0 kk E W ∧ H' Wx = some (.lst ws) ∧ ImAll K H' ws (W.map standD), ⟨_, [(s0, 0, none)], [s0], 0, Wa, [v], none, none, none, none, rfl, rfl, s1.trans (Same.new hWa), fd0.new hWa, BInv.init g0, upd_same, .cons (hV.mono ((same_tk s1).trans (TK.new hWa))) .nil⟩, ?_⟩
  rintro m σ' H' ⟨E, W, kk, Wx, ws, x4, x5, x6, x7, rfl, rfl, sm, fdE, B, hWx, hws⟩
  have hFa0 : H Fa = none := hFa
  have lenE := B.base.len G
  refine ⟨[none, none, none, some (.list (W.map standD)), none, none, none, none, none], !W.isEmpty, repAll (.cons rNone (.cons rNone (.cons rNone (.cons (rSome (.inr ⟨Wx, ws, _, rfl, rfl, hWx, hws⟩)) (.cons rNone (.cons rNone (.cons rNone (.cons rNone (.cons rNone .nil))))))))), ne_nil (F := standD) (l := W) (fun x _ => depth_stand7 x), fun H1 s2 => ?_⟩
  have sm1 := sm.trans s2
  have fdE1 := fdE.same s2
  have hWx1 := s2 _ _ hWx
  have hws1 := hws.mono (same_tk s2)
  cases hW : W with
  | nil =>
    subst hW
    refine iteF ?_
    exact ⟨_, rfl, k Fa E H1 sm1 hFa0 B.fin fdE1⟩
  | cons w0 W0 =>
    refine iteT ?_
    rw [← hW]
    have hWne : W ≠ [] := by rw [hW]; simp
    refine ⟨fun σ'' H'' => ∃ E' L kk' Lx ls y4 y5 y6 y7, σ'' = [some hv, some (.ref a), some (.ref Fa), some (.ref Lx), y4, y5, y6, y7, none] ∧ Same H H'' ∧ FD P w K H'' Fa (entL E') ∧ BInv h s0 kk' E' L ∧ H'' Lx = some (.lst ls) ∧ ImAll K H'' ls (L.map standD) ∧ E'.length = E.length + L.length,
      fun σ'' H'' ⟨E', L, kk', Lx, ls, y4, y5, y6, y7, e1, e2, e3, e4, e5, e6, e7⟩ => ⟨2 * (2058 - E'.length) + (if L = [] then 0 else 1), ?_, E', L, kk', Lx, ls, y4, y5, y6, y7, e1, rfl, e2, e3, e4, e5, e6⟩, ?_⟩
    · have := e4.base.len G
      rw [if_neg hWne]
      by_cases hL : L = []
      · rw [if_pos hL]
        rw [hL] at e7
        simp at e7
        omega
      · rw [if_neg hL]
        have : 0 < L.length := List.length_pos_iff.mpr hL
        omega
    refine ⟨by decide, fun La hLa => ?_⟩
    have hLa0 := Same.back sm1 hLa
    have sU : Same H1 (upd H1 La (.lst [])) := Same.new hLa
    have nWL : Wx ≠ La := ne_of_none hWx1 hLa
    obtain ⟨φ0, hφ0⟩ := fdE1.ex
    have nFL : Fa ≠ La := ne_of_none hφ0 hLa
    refine ⟨_, rfl, Wx, rfl, ⟨ws, SqL.of (sU _ _ hWx1)⟩, for_it (walk_list (xs := ws)) (fun i σ3 H3 => ∃ E' L ls y5 y6 y7, σ3 = [some hv, some (.ref a), some (.ref Fa), some (.ref Wx), some (.ref La), y5, y6, y7, none] ∧ Same H H3 ∧ FD P w K H3 Fa (entL E') ∧ LInv h s0 kk E' W L ∧ H3 Wx = some (.lst ws) ∧ ImAll K H3 ws (W.map standD) ∧ H3 La = some (.lst ls) ∧ ImAll K H3 ls (L.map standD) ∧ E'.length = E.length + L.length ∧
      ∀ x ∈ W.take i, ∀ d, GoodD h d → can h x d = true → Has E' (done h x d) (kk + 1)) ⟨E, [], [], x5, x6, x7, rfl, sm1.trans sU, fdE1.new hLa, B.start, sU _ _ hWx1, hws1.mono (TK.new hLa), upd_same, .nil, rfl, by simp⟩
      (fun i σ3 H3 _ ⟨E', L, ls, y5, y6, y7, e0, e1, e2, e3, e4, e5, e6, e7, e8⟩ => SqL.of e4) ?_ ?_⟩
    · rintro i xv σ3 H3 H3' hi ⟨E', L, ls, y5, y6, y7, rfl, e1, e2, e3, e4, e5, e6, e7, e8, e9⟩ ⟨rfl, hxv⟩
      obtain ⟨st, hst, imx⟩ := im_stands e5 hxv
      have gst : GoodS h st := by
        obtain ⟨e', he', ee, _⟩ := e3.sub st (List.mem_of_getElem? hst)
        rw [← ee]
        exact e3.base.good e' he'
      refine ⟨[some (houseD h), none, none, none, none, some (standD st), none, none, none], (nexts h st).map nxD, repAll (.cons (rSome (.inl (hH.mono (same_tk e1)))) (.cons rNone (.cons rNone (.cons rNone (.cons rNone (.cons (rSome (.inl imx)) (.cons rNone (.cons rNone (.cons rNone .nil))))))))), next_ok G gst, fun Na xs H4 hN s4 hNa him => ?_⟩
      have nNL : Na ≠ La := (ne_of_none e6 hN).symm
      obtain ⟨φ1, hφ1⟩ := e2.ex
      have nNF : Na ≠ Fa := (ne_of_none hφ1 hN).symm
      refine ⟨Na, rfl, ⟨xs, SqL.of hNa⟩, for_it (walk_list (xs := xs)) (fun j σ5 H5 => ∃ E' L ls y6 y7, σ5 = [some hv, some (.ref a), some (.ref Fa), some (.ref Wx), some (.ref La), some xv, y6, y7, none] ∧ Same H H5 ∧ FD P w K H5 Fa (entL E') ∧ LInv h s0 kk E' W L ∧ H5 Wx = some (.lst ws) ∧ ImAll K H5 ws (W.map standD) ∧ H5 La = some (.lst ls) ∧ ImAll K H5 ls (L.map standD) ∧ E'.length = E.length + L.length ∧
        (∀ x ∈ W.take i, ∀ d, GoodD h d → can h x d = true → Has E' (done h x d) (kk + 1)) ∧ H5 Na = some (.lst xs) ∧ ImAll K H5 xs ((nexts h st).map nxD) ∧ Im K H5 xv (standD st) ∧ ∀ p ∈ (nexts h st).take j, Has E' p.2 (kk + 1))
        ⟨E', L, ls, y6, y7, rfl, e1.trans s4, e2.same s4, e3, s4 _ _ e4, e5.mono (same_tk s4), s4 _ _ e6, e7.mono (same_tk s4), e8, e9, hNa, him, imx.mono (same_tk s4), by simp⟩
        (fun j σ5 H5 _ ⟨E', L, ls, y6, y7, q0, q1, q2, q3, q4, q5, q6, q7, q8, q9, q10, q11⟩ => SqL.of q10) ?_ ?_⟩
      · rintro j pv5 σ5 H50 H5 hj ⟨E2, L2, ls2, y6', y7', rfl, q1, q2, q3, q4, q5, q6, q7, q8, q9, q10, q11, q12, q13⟩ ⟨rfl, hpv⟩
        obtain ⟨dd, hdd, imp⟩ := q11.get' hpv
        rw [List.getElem?_map] at hdd
        obtain ⟨⟨dp, op⟩, hp, rfl⟩ := Option.map_eq_some_iff.mp hdd
        obtain ⟨gd, cd, ed⟩ := nexts_of (List.mem_of_getElem? hp)
        obtain ⟨ta, v6, v7, rfl, hta, i6, i7⟩ := imp.pair
        have tk1 : (nexts h st).take (j + 1) = (nexts h st).take j ++ [(dp, op)] := by rw [List.take_add_one, hp]; rfl
        obtain ⟨kvs, kd, kis⟩ := q2.isSome (nkD (standD op))
        refine ⟨ta, [v6, v7], rfl, SqT.of hta, rfl, v6, [v7], rfl, v7, [], rfl, rfl, ?_⟩
        refine ⟨_, rfl, _, rfl, Fa, kvs, standD op, rfl, kd, keyD_stand i7, _, rfl, ?_⟩
        rw [kis]
        by_cases hin : op ∈ E2.map (·.1)
        · have : (dGet (entL E2) (nkD (standD op))).isSome = true := by
            cases q : dGet (entL E2) (nkD (standD op)) with
            | none => exact absurd hin (ent_none.mp q)
            | some _ => rfl
          rw [this]
          refine iteF ?_
          refine ⟨E2, L2, ls2, _, _, rfl, q1, q2, q3, q4, q5, q6, q7, q8, q9, q10, q11, q12, fun p hp' => ?_⟩
          rw [tk1] at hp'
          rcases List.mem_append.mp hp' with hp' | hp'
          · exact q13 p hp'
          · rw [List.mem_singleton.mp hp']
            exact q3.has_step hin
        · have hno := ent_none.mpr hin
          rw [hno]
          refine iteT ?_
          obtain ⟨kvs2, kd2, kn, kl, kput⟩ := q2.none hno
          refine ⟨_, rfl, _, rfl, (by show 2 ≤ sizeLine; decide), fun ea hea => ?_⟩
          have tkE : TK H5 (upd H5 ea (.tup [xv, v6])) := TK.new hea
          have smE : Same H5 (upd H5 ea (.tup [xv, v6])) := Same.new hea
          obtain ⟨φ2, hφ2⟩ := q2.ex
          refine ⟨_, rfl, _, rfl, Fa, kvs2, standD op, rfl, kd2.same smE, keyD_stand (i7.mono tkE), kn, ?_, fun ob nt kdo => ?_⟩
          · rw [kl]
            unfold entL
            rw [List.length_map]
            have := q3.base.len G
            exact Nat.lt_of_le_of_lt this (by decide)
          have hFa5 : upd H5 ea (.tup [xv, v6]) Fa = some (.ext φ2) := smE _ _ hφ2
          have tkF : TK (upd H5 ea (.tup [xv, v6])) (upd (upd H5 ea (.tup [xv, v6])) Fa ob) := TK.updO hFa5 fun _ z => nomatch z
          have tkA := tkE.trans tkF
          have hea2 : upd (upd H5 ea (.tup [xv, v6])) Fa ob ea = some (.tup [xv, v6]) := tkF _ _ upd_same
          have fd6 := kput _ (standD op) (.ref ea) (.tuple [standD st, deedD dp]) rfl tkA (.tup hea2 (.cons (q12.mono tkA) (.cons (i6.mono tkA) .nil))) kdo
          have nLF : La ≠ Fa := nFL.symm
          have nWF : Wx ≠ Fa := ne_of q4 hφ2 (fun z => nomatch z)
          have hLa6 : upd (upd H5 ea (.tup [xv, v6])) Fa ob La = some (.lst ls2) := by rw [upd_ne nLF]; exact smE _ _ q6
          have tkL : TK (upd (upd H5 ea (.tup [xv, v6])) Fa ob) (upd (upd (upd H5 ea (.tup [xv, v6])) Fa ob) La (.lst (ls2 ++ [v7]))) := TK.updL hLa6
          have tkAll := tkA.trans tkL
          have sm7 : Same H (upd (upd (upd H5 ea (.tup [xv, v6])) Fa ob) La (.lst (ls2 ++ [v7]))) := Same.mut (Same.mut (q1.trans smE) hFa0) hLa0
          have lenL : ls2.length < sizeLine := by
            have h1 := im_len q7
            have h2 := q3.base.len G
            exact Nat.lt_of_le_of_lt (show ls2.length ≤ 2058 by omega) (by decide)
          refine ⟨.ref La, rfl, .inl ⟨rfl, _, SqL.of hLa6⟩, v7, rfl, La, ls2, v7, rfl, rfl, hLa6, lenL, ?_⟩
          have st8 := q3.step (List.mem_of_getElem? hst) gd cd G (by rw [← ed]; exact hin)
          rw [← ed] at st8
          have keep : ∀ {b : Addr} {o : HO}, H5 b = some o → b ≠ La → b ≠ Fa → upd (upd (upd H5 ea (.tup [xv, v6])) Fa ob) La (.lst (ls2 ++ [v7])) b = some o := fun e n1 n2 => by
            rw [upd_ne n1, upd_ne n2]
            exact smE _ _ e
          refine ⟨E2 ++ [(op, kk + 1, some (st, dp))], L2 ++ [op], ls2 ++ [v7], some v6, some v7, rfl, sm7, ?_, st8, keep q4 nWL nWF, q5.mono tkAll, upd_same, ?_, by simp; omega, fun x hx d hd c => (q9 x hx d hd c).mono fun y hy => List.mem_append_left _ hy, keep q10 nNL nNF, q11.mono tkAll, q12.mono tkAll, fun p hp' => ?_⟩
          · have : entL (E2 ++ [(op, kk + 1, some (st, dp))]) = entL E2 ++ [(standD op, .tuple [standD st, deedD dp])] := by
              unfold entL
              rw [List.map_append]
              rfl
            rw [this]
            exact fd6.other hLa6 (fun _ z => nomatch z) nFL
          · rw [List.map_append]
            exact (q7.mono tkAll).snoc (i7.mono tkAll)
          · rw [tk1] at hp'
            rcases List.mem_append.mp hp' with hp' | hp'
            · exact (q13 p hp').mono fun y hy => List.mem_append_left _ hy
            · rw [List.mem_singleton.mp hp']
              exact ⟨_, List.mem_append_right _ (List.mem_singleton.mpr rfl), rfl, Nat.le_refl _⟩
      · rintro σ5 H5 ⟨E2, L2, ls2, y6', y7', rfl, q1, q2, q3, q4, q5, q6, q7, q8, q9, q10, q11, q12, q13⟩
        refine ⟨E2, L2, ls2, _, _, _, rfl, q1, q2, q3, q4, q5, q6, q7, q8, fun x hx d hd c => ?_⟩
        rw [List.take_add_one, hst] at hx
        rcases List.mem_append.mp hx with hx | hx
        · exact q9 x hx d hd c
        · have hx : x = st := List.mem_singleton.mp hx
          subst hx
          exact q13 (d, done h x d) (by rw [im_len him, List.take_length]; exact nexts_mem hd c)
    · rintro σ3 H3 ⟨E', L, ls, y5, y6, y7, rfl, e1, e2, e3, e4, e5, e6, e7, e8, e9⟩
      rw [im_len e5, List.take_length] at e9
      exact ⟨_, rfl, E', L, kk + 1, La, ls, _, _, _, _, rfl, e1, e2, e3.next e9, e6, e7, e8⟩
end
end Wk

set_option maxHeartbeats 4000000
/-! filled_from, is_greatest -/
namespace Wk
open PySem L2 PyProof.Rows
def kT (l : List (List Nat)) : List (PyData × PyData) := l.map fun k => (keyD k, .bool true)
/-- keys of n teeth -/
structure KsG (n : Nat) (l : List (List Nat)) : Prop where
  nd : l.Nodup
  len : ∀ k ∈ l, k.length = n
  six : ∀ k ∈ l, ∀ x ∈ k, x ≤ 6
  n1 : 1 ≤ n
  n2 : n ≤ 2
theorem KsG.few {n : Nat} {l : List (List Nat)} (G : KsG n l) : l.length ≤ 49 := by
  have h := List.Nodup.length_le_of_subset G.nd fun k hk => mem_keysN (G.len k hk) (G.six k hk)
  rw [keysN_len] at h
  have h3 : 7 ^ n ≤ 7 ^ 2 := Nat.pow_le_pow_right (by omega) G.n2
  have : 7 ^ 2 = 49 := by decide
  omega
theorem plD_key (k : List Nat) : plD (keyD k) = true := plDs_nat k
theorem nk_key {k l : List Nat} (h : nkD (keyD k) = nkD (keyD l)) : k = l := keyD_inj (nkD_inj _ _ (plD_key k) (plD_key l) h)
theorem keyD_key {K : PySem.W.Frag} {H : Hp} {v : V} {k : List Nat} (h : Im K H v (keyD k)) : KeyD K H v (keyD k) := ⟨h, ⟨_, rfl⟩, Nat.le_trans (key_depth k) (by decide)⟩
theorem kT_get {l : List (List Nat)} {k : List Nat} : dGet (kT l) (nkD (keyD k)) = if k ∈ l then some (.bool true) else none := by
  induction l with
  | nil => rfl
  | cons x l ih =>
    by_cases h : x = k
    · subst h
      simp [dGet, kT]
    · have h2 : ¬ nkD (keyD x) = nkD (keyD k) := fun z => h (nk_key z)
      simp only [dGet, kT, List.map_cons, List.find?_cons, decide_eq_false h2] at ih ⊢
      rw [ih]
      simp [show ¬ k = x from fun z => h z.symm]
/-- a tuple of ints -/
def isD (is : List Int) : PyData := .tuple (is.map .int)
theorem isD_depth (is : List Int) : (nkD (isD is)).depth ≤ 8 := by
  have : ∀ is : List Int, NestedKey.depthAll (nkDs (is.map .int)) = 0 := by
    intro is
    induction is with
    | nil => rfl
    | cons x r ih =>
      show max 0 (NestedKey.depthAll (nkDs (r.map .int))) = 0
      rw [ih]
      rfl
  show NestedKey.depthAll (nkDs (is.map .int)) + 1 ≤ 8
  rw [this]
  decide
theorem keyD_is {K : PySem.W.Frag} {H : Hp} {v : V} {is : List Int} (h : Im K H v (isD is)) : KeyD K H v (isD is) := ⟨h, ⟨_, rfl⟩, isD_depth is⟩
theorem moved_ok {k : List Nat} {t : Nat} (by_ : Int) (ht : t < k.length) (hk : k.length ≤ 100) : ∃ is, f_moved_end [keyD k, nD t, .int by_] = some (isD is) := by
  have hku : k[t]? = some k[t] := List.getElem?_eq_getElem ht
  refine ⟨(k.take t).map (fun (x : Nat) => (x : Int)) ++ ((k[t] : Int) + by_) :: (k.drop (t + 1)).map (fun (x : Nat) => (x : Int)), fnF_rt (N := 3) ?_⟩
  show g_moved_end [some (keyD k), some (nD t), some (.int by_)] = _
  unfold g_moved_end
  have c1 : cutG (k.map nD) none (some (t : Int)) = (k.take t).map nD := by rw [cutG_to, List.map_take]
  have c2 : cutG (k.map nD) (some ((t : Int) + 1)) none = (k.drop (t + 1)).map nD := by
    have := cutG_from (k.map nD) (t + 1)
    rw [List.map_drop]
    exact this
  have s1 : soO (vE 1) [some (keyD k), some (nD t), some (.int by_)] = some (some (t : Int)) := rfl
  have s2 : soO (op2 addD (vE 1) (cE (.int 1))) [some (keyD k), some (nD t), some (.int by_)] = some (some ((t : Int) + 1)) := rfl
  have h4' : ixD (.tuple (k.map nD)) (nD t) = some (nD k[t]) := ixN (by rw [List.getElem?_map, hku]; rfl)
  rw [rtS_eq]
  simp only [op2_eq, slE_eq, s1, s2, vE_eq, tupE_eq, consE_eq, nilE_eq, noO_eq]
  simp only [List.getElem?_cons_succ, List.getElem?_cons_zero, Option.getD_some, Option.bind_some, Option.map_some, keyD, h4', addD_int, slD_tup, c1, c2]
  rw [tupF_of (by simp) (by simp)]
  simp only [Option.bind_some]
  rw [addD_tup (by simp; omega)]
  simp only [Option.bind_some]
  rw [addD_tup (by simp; omega)]
  simp [isD]
  rfl
theorem pc_kinE (P : Program) (w : World) (K : PySem.W.Frag) {X : Cx} {i o : Expr} {ty td : TE} (hu : X.A.units + 9 < cLine) (hi : PE X i ty) (ho : PE X o td) (hP : X.prog = P := by rfl) (hw : X.w = w := by rfl) (hK : X.K = K := by rfl) : PC X .In i o (tKIn ty td P w K) := by
  subst hP hw hK
  exact pc_kin hu hi ho
theorem yesT {σ : L2.St} {H : Hp} {A B : Hp → Prop} (h : A H) : tYes σ H (fun b H' => if b = true then A H' else B H') := by
  show if true = true then A H else B H
  rw [if_pos rfl]
  exact h
theorem paired_fst {K : PySem.W.Frag} {H : Hp} : ∀ {kvs : List (PyData × V)} {l : List (PyData × PyData)}, Paired (fun (p : PyData × V) (q : PyData × PyData) => p.1 = q.1 ∧ Im K H p.2 q.2) kvs l → kvs.map (·.1) = l.map (·.1)
  | _, _, .nil => rfl
  | _, _, .cons z r => by rw [List.map_cons, List.map_cons, z.1, paired_fst r]
section
variable {P : Program} {w : World} {K : PySem.W.Frag} {mg : Str → Option Value} {base : Heap}
abbrev n_filled_from : List Str := ["keys", "low", "found", "high", "steps", "one", "other", "tooth"]
theorem sc_filled_from : FnScope n_filled_from ["keys", "low"] (defScope (top 39)) := ⟨rfl, rfl, rfl, by decide +kernel, rfl, by decide +kernel, by decide +kernel⟩
def sp_filled_from (P : Program) (w : World) (K : PySem.W.Frag) : Sp := fun vs H Q _ => ∃ (a : Addr) (lv : V) (n : Nat) (ks : List (List Nat)) (low : List Nat), vs = [.ref a, lv] ∧ FD P w K H a (kT ks) ∧ KsG n ks ∧ Im K H lv (keyD low) ∧ low.length = n ∧
  ∀ F l H', H F = none → Same H H' → FD P w K H' F (kT l) → KsG n l → Q (.ref F) H'
theorem kT_keys {K : PySem.W.Frag} {H : Hp} {kvs : List (PyData × V)} {l : List (List Nat)} (h : Paired (fun (p : PyData × V) (q : PyData × PyData) => p.1 = q.1 ∧ Im K H p.2 q.2) kvs (kT l)) : kvs.map (·.1) = l.map keyD := by
  have : kvs.map (·.1) = (kT l).map (·.1) := paired_fst h
  rw [this]
  unfold kT
  rw [List.map_map]
  rfl
theorem alike_nats : ∀ a b : List Nat, PySem.W.alikeAll (a.map nD) (b.map nD) = true
  | [], _ => by simp [PySem.W.alikeAll]
  | _ :: _, [] => by simp [PySem.W.alikeAll]
  | x :: a, y :: b => by
    show (true && PySem.W.alikeAll (a.map nD) (b.map nD)) = true
    rw [alike_nats a b]
    rfl
theorem srt_keys {n : Nat} {l : List (List Nat)} (G : KsG n l) : Srt (l.map keyD) where
  al := fun d hd d' hd' => by
    obtain ⟨k, _, rfl⟩ := List.mem_map.mp hd
    obtain ⟨k', _, rfl⟩ := List.mem_map.mp hd'
    exact alike_nats k k'
  so := .inl fun d hd => by
    obtain ⟨k, hk, rfl⟩ := List.mem_map.mp hd
    have := G.len k hk
    have := G.n1
    cases k with
    | nil => simp at this; omega
    | cons x r => exact ⟨_, _, rfl⟩
  dp := fun d hd => by
    obtain ⟨k, _, rfl⟩ := List.mem_map.mp hd
    exact Nat.le_trans (depth_key k) (by decide)
  sz := by
    rw [List.length_map]
    exact Nat.le_trans G.few (by decide)
theorem perm_map {α β : Type} {f : α → β} : ∀ {l : List α} {ds : List β}, ds.Perm (l.map f) → ∃ l' : List α, l'.Perm l ∧ ds = l'.map f := fun {l ds} h => by
  obtain ⟨l', h1, h2⟩ := perm_lift f h l rfl
  exact ⟨l', h1, h2.symm⟩
theorem ok_filled_from (M : Mo mg) (D : Dn K mg "filled_from" (top 39)) (F_moved_end : FnAt P w K mg base 1 "moved_end" ["key", "tooth", "by"] (spD K 3 f_moved_end)) : FnAt P w K mg base 2 "filled_from" ["keys", "low"] (sp_filled_from P w K) := by
  obtain ⟨f, fd, F, hm⟩ := D.ex
  refine fn_raw (N := n_filled_from) F hm (F.bindsN fun _ _ _ _ _ _ us hl => match us, hl with | [_, _], _ => rfl) sc_filled_from (fun vs H Q E h => by obtain ⟨_, _, _, _, _, rfl, _⟩ := h; rfl) (fun cdv A outer s H vs Q E hr h => ?_)
  have nd := sc_filled_from.nd
  refine ⟨_, pss_cons (ps_set (i := 2) nd rfl (by first | exact Or.inl rfl | exact Or.inr rfl) pe_knew)
    (pss_cons (ps_for PassesOwn.never rfl (pi_list (pe_callB (cr_sortKD hr.units rfl) rfl M.b_sorted PyProof.Rows.boot_sorted (pa_cons (pv 0) pa_nil))) (pg_name (i := 3) nd rfl (by first | exact Or.inl rfl | exact Or.inr rfl))
      (pss_one (ps_if (td_val (pd_all M.b_all (pd_cons (pd_lc (own := [("one", 5), ("other", 6)]) sc_filled_from.nd (id_zip M.b_zip (pd_var 3 (pv 3)) (pd_var 1 (pv 1))) (blkOk_by (own := [("one", 5), ("other", 6)]) (N := n_filled_from) (sc := defScope (top 39)) (by decide +kernel)) (fun _ _ _ _ _ => (gd_tup (gd_cons (gd_name 5 (pg_name (i := 5) sc_filled_from.nd rfl (by first | exact Or.inl rfl | exact Or.inr rfl))) (gd_cons (gd_name 6 (pg_name (i := 6) sc_filled_from.nd rfl (by first | exact Or.inl rfl | exact Or.inr rfl))) gd_nil)) (csP_len (csP_len nlP_len)))) (fun _ _ _ _ _ => tsd_nil) (fun _ _ _ _ _ => (pd_ge (pd_var 5 (pv 5)) (pd_var 6 (pv 6)))) (by decide)) pd_nil)))
        (pss_cons (pf_setLc 4 (own := [("tooth", 7)]) sc_filled_from.nd (sw_true rfl rfl rfl (by decide +kernel)) (id_range M.b_range (pd_len M.b_len (pd_cons (pd_var 1 (pv 1)) pd_nil))) (blkOk_by (own := [("tooth", 7)]) (N := n_filled_from) (sc := defScope (top 39)) (by decide +kernel)) (fun _ _ _ _ _ => (gd_name 7 (pg_name (i := 7) sc_filled_from.nd rfl (by first | exact Or.inl rfl | exact Or.inr rfl)))) (fun _ _ _ _ _ => (tsd_one (td_gt (pd_ix (pd_var 3 (pv 3)) (pd_var 7 (pv 7))) (pd_ix (pd_var 1 (pv 1)) (pd_var 7 (pv 7)))))) (fun _ _ _ _ _ => (pd_var 7 (pv 7))) (by decide))
        (pss_one (ps_if (pt_val (pe_callB (cr_all rfl) rfl M.b_all PyProof.Rows.boot_all (pa_cons (pe_lc (own := [("tooth", 7)]) (g := gName 7) (tt := tYes) (te := tKIn (tD K (callE f_moved_end (consE (vE 3) (consE (vE 7) (consE (cE (.int (-1))) nilE))))) (tVar 2) P w K) rfl nd (pi_list (pv 4)) (blkOk_by (own := [("tooth", 7)]) (N := n_filled_from) (sc := defScope (top 39)) (by decide +kernel)) (fun _ _ _ _ _ => pg_name (i := 7) nd rfl (by first | exact Or.inl rfl | exact Or.inr rfl)) (fun _ _ _ _ _ => pts_nil) (fun _ _ _ _ _ => pe_cmp (pc_kinE P w K (u9 hr) (pd_fn (F_moved_end.mono (by decide)) hr rfl (pd_cons (pd_var 3 (pv 3)) (pd_cons (pd_var 7 (pv 7)) (pd_cons (pd_neg 1) pd_nil))) (consE_len (consE_len (consE_len nilE_len)))) (pv 2)) rfl)) pa_nil)) (by intro _; rfl))
          (pss_one (ps_kput (u9 hr) (pv 2) (pv 3) pe_bl)) pss_nil)))
        pss_nil)))
    (pss_one (ps_ret (pv 2)))), ?_⟩
  obtain ⟨a, lv, n, ks, low, rfl, hF, G, hl, hln, k⟩ := h
  intro Fa o0 hFa nt0 kd0
  have fd0 : FD P w K (upd H Fa o0) Fa (kT []) := ⟨[], kd0, .nil⟩
  have sm0 : Same H (upd H Fa o0) := Same.new hFa
  obtain ⟨kvs, hkd, hpr⟩ := hF
  have hkeys := kT_keys hpr
  refine ⟨_, rfl, a, kvs, rfl, hkd.same sm0, ?_, fun S ys ds hS hpm him => ?_⟩
  · rw [hkeys]
    exact srt_keys G
  rw [hkeys] at hpm
  obtain ⟨ls, hpl, rfl⟩ := perm_map hpm
  have GL : KsG n ls := ⟨hpl.symm.nodup G.nd, fun q hq => G.len q (hpl.mem_iff.mp hq), fun q hq => G.six q (hpl.mem_iff.mp hq), G.n1, G.n2⟩
  have few := GL.few
  have smS : Same (upd H Fa o0) (upd (upd H Fa o0) S (.lst ys)) := Same.new hS
  obtain ⟨φ0, hφ0⟩ := fd0.ex
  refine ⟨S, rfl, ⟨ys, SqL.of upd_same⟩, for_it (walk_list (xs := ys)) (fun i σ3 H3 => ∃ l y3 y4 y5 y6 y7, σ3 = [some (.ref a), some lv, some (.ref Fa), y3, y4, y5, y6, y7] ∧ Same H H3 ∧ FD P w K H3 Fa (kT l) ∧ KsG n l ∧ (∀ q ∈ l, q ∈ ls.take i) ∧ H3 S = some (.lst ys) ∧ ImAll K H3 ys (ls.map keyD))
    ⟨[], none, none, none, none, none, rfl, sm0.trans smS, fd0.new hS, ⟨.nil, by simp, by simp, G.n1, G.n2⟩, by simp, upd_same, him⟩ (fun i σ3 H3 _ ⟨_, _, _, _, _, _, _, _, _, _, _, e, _⟩ => SqL.of e) ?_ ?_⟩
  · rintro i xv H30 σ3 H3 hi ⟨l, y3, y4, y5, y6, y7, rfl, e1, e2, e3, e4, e5, e6⟩ ⟨rfl, hxv⟩
    obtain ⟨d0, hd0, imx⟩ := e6.get' hxv
    rw [List.getElem?_map] at hd0
    obtain ⟨hi0, hhi, rfl⟩ := Option.map_eq_some_iff.mp hd0
    have hmem := List.mem_of_getElem? hhi
    have hlen := GL.len hi0 hmem
    have n2 := G.n2
    have tkS : (ls.take (i + 1)) = ls.take i ++ [hi0] := by rw [List.take_add_one, hhi]; rfl
    have himl : Im K H3 lv (keyD low) := hl.mono (same_tk e1)
    have keep : ∀ q ∈ l, q ∈ ls.take (i + 1) := fun q hq => by rw [tkS]; exact List.mem_append_left _ (e4 q hq)
    have z0 : zipI (vE 3) (vE 1) [none, some (keyD low), none, some (keyD hi0), none, none, none, none] = some ((hi0.zip low).map fun p => .tuple [nD p.1, nD p.2]) := by
      rw [← zipD_map]
      exact zipI_tup rfl rfl
    refine ⟨[none, some (keyD low), none, some (keyD hi0), none, none, none, none], (hi0.zip low).all fun p => decide (p.2 ≤ p.1), repAll (.cons rNone (.cons (rSome (.inl himl)) (.cons rNone (.cons (rSome (.inl imx)) (.cons rNone (.cons rNone (.cons rNone (.cons rNone .nil)))))))), ?_, fun H4 s4 => ?_⟩
    · unfold tE
      rw [all_bool (F := fun p : Nat × Nat => .tuple [nD p.1, nD p.2]) (l := hi0.zip low) (fun p => decide (p.2 ≤ p.1)) z0 (by rw [List.length_zip]; omega) fun p _ => ⟨_, rfl, by simp [wipeE]⟩]
    · have t4 := e1.trans s4
      cases hb : (hi0.zip low).all fun p => decide (p.2 ≤ p.1) with
      | false =>
        refine iteF ?_
        exact ⟨l, _, _, _, _, _, rfl, t4, e2.same s4, e3, keep, s4 _ _ e5, e6.mono (same_tk s4)⟩
      | true =>
        refine iteT ?_
        have ix1 : ∀ t : Nat, t < n → ixD (keyD hi0) (nD t) = some (nD (hi0.getD t 0)) := fun t ht => ixN (by rw [List.getElem?_map, List.getElem?_eq_getElem (by omega)]; simp [List.getElem?_eq_getElem (show t < hi0.length by omega)])
        have ix2 : ∀ t : Nat, t < n → ixD (keyD low) (nD t) = some (nD (low.getD t 0)) := fun t ht => ixN (by rw [List.getElem?_map, List.getElem?_eq_getElem (by omega)]; simp [List.getElem?_eq_getElem (show t < low.length by omega)])
        have st1 : lcE (rgI (callE lenF (consE (vE 1) nilE))) (nmP 7) (cmp2 gtB (op2 ixD (vE 3) (vE 7)) (op2 ixD (vE 1) (vE 7))) (vE 7) [7] [none, some (keyD low), none, some (keyD hi0), none, none, none, none] = some (.list (((List.range n).filter fun t => decide (low.getD t 0 < hi0.getD t 0)).map nD)) :=
          lcE_some (ds := (List.range n).map nD) (by
            rw [rgI_int (m := (n : Int)) (by simp [keyD, hln]) (by omega) (by omega), Int.toNat_natCast, intsD_is]) (by simp; omega) (lcL_map fun t ht => ⟨_, rfl, by
              have ht := List.mem_range.mp ht
              simp [wipeE, ix1 t ht, ix2 t ht], fun _ => ⟨rfl, rfl⟩⟩)
        refine ⟨[none, some (keyD low), none, some (keyD hi0), none, none, none, none], _, repAll (.cons rNone (.cons (rSome (.inl (himl.mono (same_tk s4)))) (.cons rNone (.cons (rSome (.inl (imx.mono (same_tk s4)))) (.cons rNone (.cons rNone (.cons rNone (.cons rNone .nil)))))))), st1, fun St sx H5 hSt s5 hSt5 hsx => ?_⟩
        have t5 := t4.trans s5
        have fd5 := (e2.same s4).same s5
        have imx5 := (imx.mono (same_tk s4)).mono (same_tk s5)
        refine ⟨_, rfl, St, rfl, ⟨sx, SqL.of hSt5⟩, fun Db hDb => lc_it (walk_list (xs := sx)) (fun j H6 => ∃ bs : List Bool, Same H5 H6 ∧ H6 Db = some (.lst (bs.map V.bl)) ∧ bs.length ≤ j) ⟨[], Same.new hDb, upd_same, Nat.le_refl _⟩ (fun j H6 _ ⟨_, e, _⟩ => SqL.of (e _ _ hSt5)) ?_ ?_⟩
        · rintro j tv H60 H6 hj ⟨bs, g1, g2, g3⟩ ⟨rfl, htv⟩
          obtain ⟨dt, hdt, imt⟩ := hsx.get' htv
          rw [List.getElem?_map] at hdt
          obtain ⟨t, ht, rfl⟩ := Option.map_eq_some_iff.mp hdt
          have htn : t < n := List.mem_range.mp (List.mem_filter.mp (List.mem_of_getElem? ht)).1
          obtain ⟨is, his⟩ := moved_ok (k := hi0) (t := t) (-1) (by omega) (by omega)
          refine ⟨rfl, ?_⟩
          refine yesT ?_
          refine ⟨[none, none, none, some (keyD hi0), none, none, none, some (nD t)], isD is, repAll (.cons rNone (.cons rNone (.cons rNone (.cons (rSome (.inl (imx5.mono (same_tk g1)))) (.cons rNone (.cons rNone (.cons rNone (.cons (rSome (.inl (imt.mono (same_tk g1)))) .nil)))))))), ?_, fun yv H7 s7 r7 => ?_⟩
          · simp [his]
          · have fd7 := (fd5.same g1).same s7
            obtain ⟨kvs7, kd7, _⟩ := fd7.isSome (nkD (isD is))
            refine ⟨_, rfl, Fa, kvs7, isD is, rfl, kd7, keyD_is (r7.im rfl), bs.map V.bl, s7 _ _ g2, ?_, bs ++ [(kGet kvs7 (nkD (isD is))).isSome], ?_, ?_, ?_⟩
            · rw [List.length_map]
              have := List.length_filter_le (fun t => decide (low.getD t 0 < hi0.getD t 0)) (List.range n)
              have hl6 := im_len hsx
              rw [List.length_range] at this
              exact Nat.lt_of_le_of_lt (show bs.length ≤ 100 by omega) (by decide)
            · exact Same.mut (g1.trans s7) hDb
            · rw [upd_same, List.map_append]
              rfl
            · simp
              omega
        · rintro H6 ⟨bs, g1, g2, g3⟩
          refine ⟨Db, bs, rfl, SqL.of g2, bs.all id, rfl, ?_⟩
          have t6 := t5.trans g1
          have fd6 := fd5.same g1
          have k6 : ∀ o, H3 S = some o → H6 S = some o := fun o z => g1 _ _ (s5 _ _ (s4 _ _ z))
          have tk6 : TK H3 H6 := ((same_tk s4).trans (same_tk s5)).trans (same_tk g1)
          cases bs.all id with
          | false =>
            refine iteF ?_
            exact ⟨l, _, _, _, _, _, rfl, t6, fd6, e3, keep, k6 _ e5, e6.mono tk6⟩
          | true =>
            refine iteT ?_
            have hno : dGet (kT l) (nkD (keyD hi0)) = none := by
              rw [kT_get, if_neg]
              intro z
              have h1 := e4 _ z
              have h2 := GL.nd
              rw [← List.take_append_drop (i + 1) ls, tkS, List.append_assoc, List.nodup_append] at h2
              exact h2.2.2 hi0 h1 hi0 (by simp) rfl
            obtain ⟨kvs8, kd8, kn, kl, kput⟩ := fd6.none hno
            have hlf := e3.few
            refine ⟨_, rfl, _, rfl, Fa, kvs8, keyD hi0, rfl, kd8, keyD_key (imx5.mono (same_tk g1)), kn, ?_, fun ob nt kdo => ?_⟩
            · rw [kl]
              unfold kT
              rw [List.length_map]
              exact Nat.lt_of_le_of_lt hlf (by decide)
            obtain ⟨φ6, hφ6⟩ := fd6.ex
            have tkF : TK H6 (upd H6 Fa ob) := TK.updO hφ6 fun _ z => nomatch z
            have nSF : S ≠ Fa := ne_of (k6 _ e5) hφ6 (fun z => nomatch z)
            have fd9 := kput _ (keyD hi0) (.bl true) (.bool true) rfl tkF (.bl true) kdo
            refine ⟨l ++ [hi0], _, _, _, _, _, rfl, Same.mut t6 hFa, ?_, ⟨?_, ?_, ?_, G.n1, G.n2⟩, ?_, ?_, e6.mono (tk6.trans tkF)⟩
            · have : kT (l ++ [hi0]) = kT l ++ [(keyD hi0, .bool true)] := by simp [kT]
              rw [this]
              exact fd9
            · rw [List.nodup_append]
              refine ⟨e3.nd, by simp, fun q hq q2 hq2 => ?_⟩
              rw [List.mem_singleton.mp hq2]
              intro z
              subst z
              rw [kT_get, if_pos hq] at hno
              cases hno
            · intro q hq
              rcases List.mem_append.mp hq with hq | hq
              · exact e3.len q hq
              · rw [List.mem_singleton.mp hq]; exact hlen
            · intro q hq
              rcases List.mem_append.mp hq with hq | hq
              · exact e3.six q hq
              · rw [List.mem_singleton.mp hq]; exact GL.six hi0 hmem
            · intro q hq
              rw [tkS]
              rcases List.mem_append.mp hq with hq | hq
              · exact List.mem_append_left _ (e4 q hq)
              · exact List.mem_append_right _ hq
            · rw [upd_ne nSF]
              exact k6 _ e5
  · rintro σ3 H3 ⟨l, y3, y4, y5, y6, y7, rfl, e1, e2, e3, e4, e5, e6⟩
    exact ⟨_, rfl, k Fa l H3 hFa e1 e2 e3⟩
end
end Wk

set_option maxHeartbeats 4000000
/-! d.get(k, x) of a dict with nested keys; is_greatest -/
namespace Wk
open PySem L2 PyProof.Rows
def tKGet2 (P : Program) (w : World) (K : PySem.W.Frag) (td ty tx : TE) : TE := fun σ H Q => td σ H fun x H1 => ∃ a, x = .ref a ∧ (∃ kvs, KD P w K H1 a kvs) ∧ ty σ H1 fun y H2 => tx σ H2 fun z H3 => ∃ kvs d, KD P w K H3 a kvs ∧ KeyD K H3 y d ∧ Q ((kGet kvs (nkD d)).getD z) H3
section
variable {X : Cx} {pins : List (Addr × Obj)} {σ : L2.St} {H : Hp} {s : Shared} {a : Addr} {kvs : List (PyData × V)} {A : Around} {E : Value → Shared → Prop}
theorem kd_noDict (I : Inv X pins σ H s) (h : KD X.prog X.w X.K H a kvs) : ∀ b, Value.ref a = .ref b → ∃ ob, s.heap.get? b = some ob ∧ ob.dict = none := fun b q => by
  cases q
  obtain ⟨ob, ks, xs, h1, h2, r, dd, _⟩ := kd_of I h
  obtain ⟨o, es, ep, k1, k2, _⟩ := dd
  exact ⟨o, k1, k2.2.1⟩
theorem kd_get2 {Q : Value → Shared → Prop} {y z : V} {u uz : Value} {d : PyData} (hu : A.units + 9 < cLine) (I : Inv X pins σ H s) (h : KD X.prog X.w X.K H a kvs) (k : KeyD X.K H y d) (ry : RelV y u) (rz : RelV z uz)
    (q : ∀ w' s', Inv X pins σ H s' → RelV ((kGet kvs (nkD d)).getD z) w' → Q w' s') : wpAny (model X.prog X.w) A (call (.builtin "dict.get") [.ref a, u, uz]) Q E s := by
  obtain ⟨b, rfl⟩ := keyD_ref k
  obtain rfl : u = Value.ref b := ry
  obtain ⟨ob, ks, xs, h1, h2, r, dd, hd, hz, hl⟩ := kd_of I h
  refine call_meetsIn PySem.F.slot_dict_get (kd_type I h) PySem.F.entry_dict_get (PySem.F.args_dict_get_3 _ _ _) (meetsH_dict_get_default (nestedKind X.prog X.w) a b hd uz) ⟨room_in1 hu, nkD d, xs, ⟨im_key I _ _ _ k.1 rfl, k.2.2⟩, dd, q _ _ (I.tok _) ?_⟩
  exact (kGet_rel (nkD d) h2 r).getD rz
end
section
variable {X : Cx} {o e f : Expr} {apos cpos : Pos} {td ty tx : TE}
theorem pe_kget2 (P : Program) (w : World) (K : PySem.W.Frag) (hu : X.A.units + 9 < cLine) (ho : PE X o td) (he : PE X e ty) (hf : PE X f tx) (m : M2 X o "get" apos e f cpos) (hP : X.prog = P := by rfl) (hw : X.w = w := by rfl) (hK : X.K = K := by rfl) : PE X (.Call (.Attribute o "get" apos) [e, f] [] cpos) (tKGet2 P w K td ty tx) := by
  subst hP hw hK
  refine ⟨fun pins s σ H Q I h => ?_⟩
  refine wpAny_Call_method m.base m.few m.line PySem.F.plainAttrs_dict PySem.F.slot_dict_get PySem.F.type_dict_get (thn (ho.run pins s σ H _ I h) fun u s1 ⟨x, H1, I1, rx, a, ex, ⟨kv0, d0⟩, q1⟩ => ?_)
  subst ex
  obtain rfl : u = Value.ref a := rx
  refine ⟨kd_type I1 d0, kd_noDict I1 d0, ?_⟩
  rw [m.trees]
  refine Calls.callWith_builtin rfl (Calls.evalArgs_plain (Calls.spliced_cons (thn (he.run pins s1 σ H1 _ I1 q1) fun iv s2 ⟨y, H2, I2, ry, q2⟩ =>
    Calls.spliced_cons (thn (hf.run pins s2 σ H2 _ I2 q2) fun fv s3 ⟨z, H3, I3, rz, kvs, d, kd, kk, q3⟩ => Calls.spliced_nil ?_))))
  exact kd_get2 hu I3 kd kk ry rz fun w' s4 I4 rw' => ⟨_, H3, I4, rw', q3⟩
end
section
variable {P : Program} {w : World} {K : PySem.W.Frag} {mg : Str → Option Value} {base : Heap}
/-- all filled: for each low key the highs, as dicts -/
abbrev Fils := List (List Nat × List (List Nat))
def FilR (P : Program) (w : World) (K : PySem.W.Frag) (H : Hp) : List (PyData × V) → Fils → Prop := Paired fun p q => p.1 = keyD q.1 ∧ ∃ b, p.2 = .ref b ∧ FD P w K H b (kT q.2)
def Fil (P : Program) (w : World) (K : PySem.W.Frag) (H : Hp) (a : Addr) (m : Fils) : Prop := ∃ kvs, KD P w K H a kvs ∧ FilR P w K H kvs m
theorem FilR.same {H H' : Hp} (e : Same H H') : ∀ {kvs : List (PyData × V)} {m : Fils}, FilR P w K H kvs m → FilR P w K H' kvs m
  | _, _, .nil => .nil
  | _, _, .cons ⟨z, b, e1, fd⟩ r => .cons ⟨z, b, e1, fd.same e⟩ (FilR.same e r)
theorem Fil.same {H H' : Hp} {a : Addr} {m : Fils} (e : Same H H') (h : Fil P w K H a m) : Fil P w K H' a m := by
  obtain ⟨kvs, h1, h2⟩ := h
  exact ⟨kvs, h1.same e, h2.same e⟩
theorem fil_get {H : Hp} {k : NestedKey} : ∀ {kvs : List (PyData × V)} {m : Fils}, FilR P w K H kvs m → ∀ v, kGet kvs k = some v → ∃ b l, v = .ref b ∧ FD P w K H b (kT l)
  | _, _, .nil, v, e => by simp [kGet] at e
  | p :: kvs, q :: m, .cons ⟨z, b, e1, fd⟩ r, v, e => by
    by_cases h : nkD p.1 = k
    · simp [kGet, h] at e
      exact ⟨b, q.2, by rw [← e, e1], fd⟩
    · simp only [kGet, List.find?_cons, decide_eq_false h] at e
      exact fil_get r v e
theorem fil_there {H : Hp} {q : List Nat × List (List Nat)} : ∀ {kvs : List (PyData × V)} {m : Fils}, FilR P w K H kvs m → (m.map (·.1)).Nodup → q ∈ m → ∃ b, kGet kvs (nkD (keyD q.1)) = some (.ref b) ∧ FD P w K H b (kT q.2)
  | _, _, .nil, _, h => by cases h
  | p :: kvs, x :: m, .cons ⟨z, b, e1, fd⟩ r, n, h => by
    rw [List.map_cons, List.nodup_cons] at n
    by_cases hq : x.1 = q.1
    · have : q = x := by
        rcases List.mem_cons.mp h with e | h
        · exact e
        · exact absurd (hq ▸ List.mem_map.mpr ⟨q, h, rfl⟩) n.1
      subst this
      exact ⟨b, by simp [kGet, z, e1], fd⟩
    · have h2 : q ∈ m := by
        rcases List.mem_cons.mp h with e | h
        · rw [e] at hq; exact absurd rfl hq
        · exact h
      obtain ⟨b', e2, fd2⟩ := fil_there r n.2 h2
      have hne : ¬ nkD p.1 = nkD (keyD q.1) := fun z2 => hq (nk_key (by rw [← z]; exact z2))
      refine ⟨b', ?_, fd2⟩
      simp only [kGet, List.find?_cons, decide_eq_false hne]
      exact e2
abbrev n_is_greatest : List Str := ["filled", "low", "high", "tooth"]
theorem sc_is_greatest : FnScope n_is_greatest ["filled", "low", "high"] (defScope (top 40)) := ⟨rfl, rfl, rfl, by decide +kernel, rfl, by decide +kernel, by decide +kernel⟩
def sp_is_greatest (P : Program) (w : World) (K : PySem.W.Frag) : Sp := fun vs H Q _ => ∃ (a : Addr) (lv hv : V) (m : Fils) (low high : List Nat) (l : List (List Nat)), vs = [.ref a, lv, hv] ∧ Fil P w K H a m ∧ (m.map (·.1)).Nodup ∧ (low, l) ∈ m ∧ Im K H lv (keyD low) ∧ Im K H hv (keyD high) ∧ low.length = high.length ∧ low.length ≤ 2 ∧
  ∀ b H', Same H H' → Q (.bl b) H'
theorem ok_is_greatest (M : Mo mg) (D : Dn K mg "is_greatest" (top 40)) (F_moved_end : FnAt P w K mg base 1 "moved_end" ["key", "tooth", "by"] (spD K 3 f_moved_end)) : FnAt P w K mg base 2 "is_greatest" ["filled", "low", "high"] (sp_is_greatest P w K) := by
  obtain ⟨f, fd, F, hm⟩ := D.ex
  refine fn_raw (N := n_is_greatest) F hm (F.bindsN fun _ _ _ _ _ _ us hl => match us, hl with | [_, _, _], _ => rfl) sc_is_greatest (fun vs H Q E h => by obtain ⟨_, _, _, _, _, _, _, rfl, _⟩ := h; rfl) (fun cdv A outer s H vs Q E hr h => ?_)
  have nd := sc_is_greatest.nd
  refine ⟨_, pss_cons (ps_for PassesOwn.never rfl (id_range M.b_range (pd_len M.b_len (pd_cons (pd_var 1 (pv 1)) pd_nil))) (pg_name (i := 3) nd rfl (.inl rfl))
      (pss_cons (ps_if (pt_cmp (pc_kinE P w K (u9 hr) (pd_fn (F_moved_end.mono (by decide)) hr rfl (pd_cons (pd_var 2 (pv 2)) (pd_cons (pd_var 3 (pv 3)) (pd_cons pd_int pd_nil))) (consE_len (consE_len (consE_len nilE_len)))) (pe_kget (u9 hr) (pv 0) (pv 1))) rfl) (pss_one (ps_ret pe_bl)) pss_nil)
      (pss_one (ps_if (pt_cmp (pc_kinE P w K (u9 hr) (pv 2) (pe_kget2 P w K (u9 hr) (pv 0) (pd_fn (F_moved_end.mono (by decide)) hr rfl (pd_cons (pd_var 1 (pv 1)) (pd_cons (pd_var 3 (pv 3)) (pd_cons (pd_neg 1) pd_nil))) (consE_len (consE_len (consE_len nilE_len)))) pe_knew ⟨rfl, rfl, rfl, rfl⟩)) rfl) (pss_one (ps_ret pe_bl)) pss_nil))))
    (pss_one (ps_ret pe_bl)), ?_⟩
  obtain ⟨a, lv, hv, m, low, high, l, rfl, hF, hnd, hmem, hlo, hhi, hl1, hl2, k⟩ := h
  refine ⟨[none, some (keyD low), none, none], (List.range low.length).map nD, repAll (.cons rNone (.cons (rSome (.inl hlo)) (.cons rNone (.cons rNone .nil)))), ?_, fun J H1 s1 hW => ?_⟩
  · rw [rgI_int (m := (low.length : Int)) (by simp [keyD]) (by omega) (by omega), Int.toNat_natCast, intsD_is]
  refine for_it hW.w (fun i σ3 H3 => ∃ y3, σ3 = [some (.ref a), some lv, some hv, y3] ∧ Same H1 H3) ⟨_, rfl, Same.refl _⟩ (fun i σ3 H3 _ ⟨_, _, e⟩ => e) ?_ ?_
  · rintro i xv σ3 H3 H4 hi ⟨y3, rfl, e1⟩ ⟨d, hd, s4, imt⟩
    rw [List.getElem?_map] at hd
    obtain ⟨t, ht, rfl⟩ := Option.map_eq_some_iff.mp hd
    have htn : t < low.length := List.mem_range.mp (List.mem_of_getElem? ht)
    have t4 := (s1.trans e1).trans s4
    have hhi4 := hhi.mono (same_tk t4)
    have hlo4 := hlo.mono (same_tk t4)
    obtain ⟨is1, his1⟩ := moved_ok (k := high) (t := t) 1 (by omega) (by omega)
    obtain ⟨is2, his2⟩ := moved_ok (k := low) (t := t) (-1) (by omega) (by omega)
    refine ⟨[none, none, some (keyD high), some (nD t)], isD is1, repAll (.cons rNone (.cons rNone (.cons (rSome (.inl hhi4)) (.cons (rSome (.inl imt)) .nil)))), ?_, fun yv H5 s5 r5 => ?_⟩
    · simp [his1]
    have t5 := t4.trans s5
    obtain ⟨kvs, kd, fr⟩ := hF.same t5
    obtain ⟨b, hb, fdb⟩ := fil_there fr hnd hmem
    obtain ⟨kvb, kdb, _⟩ := fdb.isSome (nkD (isD is1))
    refine ⟨_, rfl, _, rfl, a, kvs, keyD low, .ref b, rfl, kd, keyD_key (hlo.mono (same_tk t5)), hb, b, kvb, isD is1, rfl, kdb, keyD_is (r5.im rfl), _, rfl, ?_⟩
    cases (kGet kvb (nkD (isD is1))).isSome with
    | true =>
      refine iteT ?_
      exact k false H5 t5
    | false =>
      refine iteF ?_
      refine ⟨_, rfl, _, rfl, a, rfl, ⟨kvs, kd⟩, ?_⟩
      refine ⟨[none, some (keyD low), none, some (nD t)], isD is2, repAll (.cons rNone (.cons (rSome (.inl (hlo.mono (same_tk t5)))) (.cons rNone (.cons (rSome (.inl (imt.mono (same_tk s5)))) .nil)))), ?_, fun zv H6 s6 r6 p o hp nt kdp => ?_⟩
      · simp [his2]
      have t6 := t5.trans s6
      have s7 : Same H6 (upd H6 p o) := Same.new hp
      have t7 := t6.trans s7
      have fin : ∀ bb : Bool, (if bb = true then Q (.bl false) (upd H6 p o) else ∃ y3, ([some (.ref a), some lv, some hv, y3].set 3 (some xv) : L2.St) = [some (.ref a), some lv, some hv, some xv] ∧ Same H1 (upd H6 p o)) := fun bb => by
        cases bb with
        | true =>
          rw [if_pos rfl]
          exact k false _ t7
        | false =>
          rw [if_neg Bool.false_ne_true]
          exact ⟨none, rfl, (((e1.trans s4).trans s5).trans s6).trans s7⟩
      obtain ⟨kvs7, kd7, fr7⟩ := hF.same t7
      refine ⟨kvs7, isD is2, kd7, keyD_is ((r6.im rfl).mono (same_tk s7)), ?_⟩
      have last : ∀ (b' : Addr) (kv' : List (PyData × V)), KD P w K (upd H6 p o) b' kv' → ∃ a_1 kvs_1 d, (V.ref b') = .ref a_1 ∧ KD P w K (upd H6 p o) a_1 kvs_1 ∧ KeyD K (upd H6 p o) hv d ∧ ∃ c, V.bl (kGet kvs_1 (nkD d)).isSome = .bl c ∧ (if c = true then Q (.bl false) (upd H6 p o) else ∃ y3, ([some (.ref a), some lv, some hv, some xv] : L2.St) = [some (.ref a), some lv, some hv, y3] ∧ Same H1 (upd H6 p o)) := fun b' kv' kd' => by
        refine ⟨b', kv', keyD high, rfl, kd', keyD_key (hhi.mono (same_tk t7)), _, rfl, ?_⟩
        cases (kGet kv' (nkD (keyD high))).isSome with
        | true => rw [if_pos rfl]; exact k false _ t7
        | false => rw [if_neg Bool.false_ne_true]; exact ⟨_, rfl, (((e1.trans s4).trans s5).trans s6).trans s7⟩
      cases hg : kGet kvs7 (nkD (isD is2)) with
      | none => exact last p [] kdp
      | some v =>
        obtain ⟨b', l', rfl, fd'⟩ := fil_get fr7 v hg
        obtain ⟨kv', kd', _⟩ := fd'.isSome (nkD (keyD high))
        exact last b' kv' kd'
  · rintro σ3 H3 ⟨y3, rfl, e1⟩
    exact k true H3 (s1.trans e1)
end
end Wk

set_option maxHeartbeats 4000000
/-! greatest_by -/
namespace Wk
open PySem L2 PyProof.Rows
section
variable {P : Program} {w : World} {K : PySem.W.Frag} {mg : Str → Option Value} {base : Heap}
abbrev n_greatest_by : List Str := ["keys", "filled", "found", "low", "high"]
theorem sc_greatest_by : FnScope n_greatest_by ["keys"] (defScope (top 41)) := ⟨rfl, rfl, rfl, by decide +kernel, rfl, by decide +kernel, by decide +kernel⟩
def sp_greatest_by (P : Program) (w : World) (K : PySem.W.Frag) : Sp := fun vs H Q _ => ∃ (a : Addr) (n : Nat) (ks : List (List Nat)), vs = [.ref a] ∧ FD P w K H a (kT ks) ∧ KsG n ks ∧
  ∀ v ds H', Same H H' → Im K H' v (.tuple ds) → ds.length ≤ 2401 → ds.any isL = false → Q v H'
theorem psOk_mono {K : PySem.W.Frag} {H H' : Hp} (t : TK H H') : ∀ {ps : List Addr} {kvs : List (PyData × V)}, PsOk K H ps kvs → PsOk K H' ps kvs
  | _, _, .nil => .nil
  | _, _, .cons ⟨y, h1, k⟩ r => .cons ⟨y, t _ _ h1, k.1.mono t, k.2⟩ (psOk_mono t r)
theorem psOk_snoc {K : PySem.W.Frag} {H : Hp} {p : Addr} {kv : PyData × V} : ∀ {ps : List Addr} {kvs : List (PyData × V)}, PsOk K H ps kvs → (∃ y, H p = some (.tup [y, kv.2]) ∧ KeyD K H y kv.1) → PsOk K H (ps ++ [p]) (kvs ++ [kv]) := fun h e => paired_snoc h e
theorem filR_mono {H H' : Hp} (t : TK H H') (e : ∀ b φ, H b = some (.ext φ) → H' b = some (.ext φ)) : ∀ {kvs : List (PyData × V)} {m : Fils}, FilR P w K H kvs m → FilR P w K H' kvs m
  | _, _, .nil => .nil
  | _, _, .cons ⟨z, b, e1, fd⟩ r => .cons ⟨z, b, e1, fd.mono t fun o q => by
      obtain ⟨φ, hφ⟩ := fd.ex
      rw [hφ] at q
      cases q
      exact e _ _ hφ⟩ (filR_mono t e r)
theorem filR_get {H : Hp} {i : Nat} {p : PyData × V} : ∀ {kvs : List (PyData × V)} {m : Fils}, FilR P w K H kvs m → kvs[i]? = some p → ∃ q, m[i]? = some q ∧ p.1 = keyD q.1 ∧ ∃ b, p.2 = .ref b ∧ FD P w K H b (kT q.2) := by
  induction i with
  | zero =>
    intro kvs m h e
    cases h with
    | nil => simp at e
    | cons a r =>
      simp at e
      subst e
      exact ⟨_, rfl, a⟩
  | succ i ih =>
    intro kvs m h e
    cases h with
    | nil => simp at e
    | cons a r =>
      obtain ⟨q, h1, h2⟩ := ih r (by simpa using e)
      exact ⟨q, by simpa using h1, h2⟩
theorem filR_keys {H : Hp} : ∀ {kvs : List (PyData × V)} {m : Fils}, FilR P w K H kvs m → (kvs.map fun p => nkD p.1) = (m.map (·.1)).map fun k => nkD (keyD k)
  | _, _, .nil => rfl
  | _, _, .cons ⟨z, _⟩ r => by rw [List.map_cons, List.map_cons, List.map_cons, z, filR_keys r]
theorem nodup_keys : ∀ {l : List (List Nat)}, l.Nodup → (l.map fun k => nkD (keyD k)).Nodup
  | [], _ => .nil
  | x :: l, h => by
    rw [List.nodup_cons] at h
    rw [List.map_cons, List.nodup_cons]
    refine ⟨fun z => ?_, nodup_keys h.2⟩
    obtain ⟨y, hy, e⟩ := List.mem_map.mp z
    rw [nk_key e] at hy
    exact h.1 hy
theorem alike_gaps : ∀ a b : Box, PySem.W.alikeAll (a.map gapD) (b.map gapD) = true
  | [], _ => by simp [PySem.W.alikeAll]
  | _ :: _, [] => by simp [PySem.W.alikeAll]
  | x :: a, y :: b => by
    show (PySem.W.alike (gapD x) (gapD y) && PySem.W.alikeAll (a.map gapD) (b.map gapD)) = true
    rw [alike_gaps a b]
    rfl
theorem srt_boxes {n : Nat} {l : List Box} (n1 : 1 ≤ n) (hl : ∀ b ∈ l, b.length = n) (hz : l.length ≤ 10000) : Srt (l.map boxD) where
  al := fun d hd d' hd' => by
    obtain ⟨k, _, rfl⟩ := List.mem_map.mp hd
    obtain ⟨k', _, rfl⟩ := List.mem_map.mp hd'
    exact alike_gaps k k'
  so := .inl fun d hd => by
    obtain ⟨k, hk, rfl⟩ := List.mem_map.mp hd
    have := hl k hk
    cases k with
    | nil => simp at this; omega
    | cons x r => exact ⟨_, _, rfl⟩
  dp := fun d hd => by
    obtain ⟨k, _, rfl⟩ := List.mem_map.mp hd
    exact Nat.le_trans (depth_box k) (by decide)
  sz := by
    rw [List.length_map]
    exact Nat.le_trans hz (by decide)
theorem ok_greatest_by (M : Mo mg) (D : Dn K mg "greatest_by" (top 41)) (F_filled : FnAt P w K mg base 2 "filled_from" ["keys", "low"] (sp_filled_from P w K)) (F_great : FnAt P w K mg base 2 "is_greatest" ["filled", "low", "high"] (sp_is_greatest P w K)) : FnAt P w K mg base 3 "greatest_by" ["keys"] (sp_greatest_by P w K) := by
  obtain ⟨f, fd, F, hm⟩ := D.ex
  refine fn_raw (N := n_greatest_by) F hm (F.bindsN fun _ _ _ _ _ _ us hl => match us, hl with | [_], _ => rfl) sc_greatest_by (fun vs H Q E h => by obtain ⟨_, _, _, rfl, _⟩ := h; rfl) (fun cdv A outer s H vs Q E hr h => ?_)
  have nd := sc_greatest_by.nd
  refine ⟨_, pss_cons (ps_set (i := 1) nd rfl (by first | exact Or.inl rfl | exact Or.inr rfl) (pe_callTy (call_kdict (u10 hr) rfl) rfl M.b_dict PyProof.Rows.boot_dict (pa_cons
      (pe_lc (own := [("low", 3)]) (g := gName 3) (tt := tYes) (te := tTup (tCons (tVar 3) (tCons (tCall (sp_filled_from P w K) [] E0 (tCons (tVar 0) (tCons (tVar 3) tNil))) tNil))) rfl nd (pi_kd (pv 0)) (blkOk_by (own := [("low", 3)]) (N := n_greatest_by) (sc := defScope (top 41)) (by decide +kernel))
        (fun _ _ _ _ _ => pg_name (i := 3) nd rfl (by first | exact Or.inl rfl | exact Or.inr rfl)) (fun _ _ _ _ _ => pts_nil) (fun _ _ _ _ _ => pe_tup (pa_cons (pv 3) (pa_cons (pe_fn (F_filled.mono (by decide)) hr (pa_cons (pv 0) (pa_cons (pv 3) pa_nil))) pa_nil)))) pa_nil)))
    (pss_cons (ps_set (i := 2) nd rfl (by first | exact Or.inl rfl | exact Or.inr rfl) (pe_lst pa_nil))
    (pss_cons (ps_for PassesOwn.never rfl (pi_kd (pv 1)) (pg_name (i := 3) nd rfl (by first | exact Or.inl rfl | exact Or.inr rfl))
      (pss_one (ps_expr (pe_bm PySem.F.plainAttrs_list PySem.F.slot_list_extend PySem.F.type_list_extend mt_extend (pv 2) (pa_cons
        (pe_lc (own := [("high", 4)]) (g := gName 4) (tt := tB (tCall (sp_is_greatest P w K) [] E0 (tCons (tVar 1) (tCons (tVar 3) (tCons (tVar 4) tNil))))) (te := tD K (callE tupleF (consE (lzE (vE 3) (vE 4)) nilE))) rfl nd (pi_kd (pe_kget (u9 hr) (pv 1) (pv 3))) (blkOk_by (own := [("high", 4)]) (N := n_greatest_by) (sc := defScope (top 41)) (by decide +kernel))
          (fun _ _ _ _ _ => pg_name (i := 4) nd rfl (by first | exact Or.inl rfl | exact Or.inr rfl)) (fun _ _ _ _ _ => pts_one (pt_val (pe_fn (F_great.mono (by decide)) hr (pa_cons (pv 1) (pa_cons (pv 3) (pa_cons (pv 4) pa_nil)))) (by intro _; rfl))) (fun _ _ _ _ _ => pd_tuple M.b_tuple (pd_cons (pd_lzip M.b_zip M.b_list (pd_var 3 (pv 3)) (pd_var 4 (pv 4))) pd_nil))) pa_nil)))))
    (pss_one (ps_ret (pe_callTy call_tuple_of rfl M.b_tuple PyProof.Rows.boot_tuple (pa_cons (pe_callB (cr_sortSq hr.units) rfl M.b_sorted PyProof.Rows.boot_sorted (pa_cons (pv 2) pa_nil)) pa_nil)))))), ?_⟩
  obtain ⟨a, n, ks, rfl, hF, G, k⟩ := h
  have few := G.few
  obtain ⟨kv0, ⟨o0, nk0, hA, ok0⟩, pr0⟩ := id hF
  have hk0 : kv0.map (·.1) = ks.map keyD := kT_keys pr0
  have hl0 : kv0.length = ks.length := by
    have := congrArg List.length hk0
    simpa using this
  refine ⟨_, rfl, a, o0, nk0, rfl, hA, fun D hD => lc_it (walk_kd hA ok0) (fun i H1 => ∃ (ps : List Addr) (kv1 : List (PyData × V)) (m : Fils), Same H H1 ∧ H1 D = some (.lst (ps.map V.ref)) ∧ PsOk K H1 ps kv1 ∧ FilR P w K H1 kv1 m ∧ m.map (·.1) = ks.take i ∧ (∀ q ∈ m, KsG n q.2) ∧ ps.length ≤ i)
    ⟨[], [], [], Same.new hD, upd_same, .nil, .nil, by simp, by simp, Nat.le_refl _⟩ (fun i H1 _ ⟨_, _, _, e, _⟩ => ⟨same_tk e, by rw [e _ _ hA, hA]⟩) ?_ ?_⟩
  · rintro i x H10 H1 hi ⟨ps, kv1, m, e1, e2, e3, e4, e5, e6, e7⟩ ⟨rfl, pp, hpp, imx⟩
    obtain ⟨low, hlow, hpe⟩ : ∃ low, ks[i]? = some low ∧ pp.1 = keyD low := by
      have h1 : (kv0.map (·.1))[i]? = some pp.1 := by rw [List.getElem?_map, hpp]; rfl
      rw [hk0, List.getElem?_map] at h1
      obtain ⟨low, h2, h3⟩ := Option.map_eq_some_iff.mp h1
      exact ⟨low, h2, h3.symm⟩
    rw [hpe] at imx
    refine ⟨rfl, ?_⟩
    refine yesT ?_
    refine ⟨_, rfl, ⟨_, rfl, _, rfl, a, x, n, ks, low, rfl, hF.same e1, G, imx, G.len low (List.mem_of_getElem? hlow), fun Fl l H2 hFl s2 fdl gl => ?_⟩⟩
    refine ⟨by show 2 ≤ sizeLine; decide, fun T hT => ?_⟩
    have sT : Same H2 (upd H2 T (.tup [x, .ref Fl])) := Same.new hT
    have sA := s2.trans sT
    have hD2 : upd H2 T (.tup [x, .ref Fl]) D = some (.lst (ps.map V.ref)) := sA _ _ e2
    have tkL : TK (upd H2 T (.tup [x, .ref Fl])) (upd (upd H2 T (.tup [x, .ref Fl])) D (.lst (ps.map V.ref ++ [.ref T]))) := TK.updL hD2
    have exk : ∀ b φ, upd H2 T (.tup [x, .ref Fl]) b = some (.ext φ) → upd (upd H2 T (.tup [x, .ref Fl])) D (.lst (ps.map V.ref ++ [.ref T])) b = some (.ext φ) := fun b φ q => by
      rw [upd_ne (ne_of q hD2 (fun z => nomatch z))]
      exact q
    have fdA := fdl.same sT
    refine ⟨ps.map V.ref, hD2, ?_, ps ++ [T], kv1 ++ [(keyD low, .ref Fl)], m ++ [(low, l)], Same.mut (e1.trans sA) hD, by rw [upd_same, List.map_append]; rfl, ?_, ?_, ?_, ?_, ?_⟩
    · rw [List.length_map]
      exact Nat.lt_of_le_of_lt (show ps.length ≤ 49 by omega) (by decide)
    · refine psOk_snoc (psOk_mono ((same_tk sA).trans tkL) e3) ⟨x, ?_, keyD_key ((imx.mono (same_tk sA)).mono tkL)⟩
      exact tkL _ _ upd_same
    · refine paired_snoc (filR_mono tkL exk (e4.same sA)) ⟨rfl, Fl, rfl, ?_⟩
      exact fdA.mono tkL fun o q => by
        obtain ⟨φ, hφ⟩ := fdA.ex
        rw [hφ] at q
        cases q
        exact exk _ _ hφ
    · rw [List.map_append, e5, List.take_add_one, hlow]
      rfl
    · intro q hq
      rcases List.mem_append.mp hq with hq | hq
      · exact e6 q hq
      · rw [List.mem_singleton.mp hq]; exact gl
    · simp
      omega
  · rintro H1 ⟨ps, kv1, m, e1, e2, e3, e4, e5, e6, e7⟩
    rw [hl0, List.take_length] at e5
    have hmnd : (m.map (·.1)).Nodup := by rw [e5]; exact G.nd
    refine ⟨D, ps, kv1, rfl, e2, e3, by rw [filR_keys e4]; exact nodup_keys hmnd, fun p op hp ntp kdp => ?_⟩
    have sP : Same H1 (upd H1 p op) := Same.new hp
    have hp0 : H p = none := Same.back e1 hp
    have tP := e1.trans sP
    have frP := e4.same sP
    obtain ⟨o2, nk2, hA2, ok2⟩ := id kdp
    have hml : kv1.length = m.length := Paired.length e4
    have hml2 : m.length = ks.length := by rw [← List.length_map (f := (·.1)) (as := m), e5]
    refine ⟨Nat.zero_le _, fun R hR => ?_⟩
    have sR : Same (upd H1 p op) (upd (upd H1 p op) R (.lst [])) := Same.new hR
    have hR0 : H R = none := Same.back tP hR
    refine ⟨_, rfl, p, o2, nk2, rfl, sR _ _ hA2, for_it (walk_kd (sR _ _ hA2) (ok2.mono (same_tk sR))) (fun i σ3 H3 => ∃ (fs : List V) (bs : List Box) (y3 y4 : Option V), σ3 = [some (.ref a), some (.ref p), some (.ref R), y3, y4] ∧ Same (upd H1 p op) H3 ∧ H3 R = some (.lst fs) ∧ ImAll K H3 fs (bs.map boxD) ∧ (∀ b ∈ bs, b.length = n) ∧ bs.length ≤ i * 49)
      ⟨[], [], none, none, rfl, sR, upd_same, .nil, by simp, by simp⟩ (fun i σ3 H3 _ ⟨fs, bs, y3, y4, _, e, g, _⟩ => ?_) ?_ ?_⟩
    · refine ⟨fun b xs q => ?_, ?_⟩
      · by_cases hb : b = R
        · rw [hb, upd_same] at q
          cases q
        · rw [upd_ne hb] at q
          exact e _ _ q
      · rw [e _ _ hA2, sR _ _ hA2]
    · rintro i x σ3 H30 H3 hi ⟨fs, bs, y3, y4, rfl, g1, g2, g3, g4, g5⟩ ⟨rfl, pp, hpp, imx⟩
      have tH := tP.trans g1
      have fr3 := frP.same g1
      obtain ⟨⟨low, l⟩, hm, hpe, b, hb, fdb⟩ := filR_get fr3 hpp
      have hmem : (low, l) ∈ m := List.mem_of_getElem? hm
      have gl := e6 _ hmem
      have fewl : l.length ≤ 49 := gl.few
      have hlowk : low ∈ ks := by
        rw [← e5]
        exact List.mem_map.mpr ⟨_, hmem, rfl⟩
      rw [hpe] at imx
      have kd3 : KD P w K H3 p kv1 := kdp.same g1
      obtain ⟨b', hget, fdb'⟩ := fil_there fr3 hmnd hmem
      obtain ⟨kvb, ⟨ob, nkb, hbA, okb⟩, prb⟩ := id fdb'
      have hkb : kvb.map (·.1) = l.map keyD := kT_keys prb
      have hlb : kvb.length = l.length := by
        have := congrArg List.length hkb
        simpa using this
      refine ⟨_, rfl, .inl ⟨rfl, _, SqL.of g2⟩, ?_⟩
      refine ⟨_, rfl, _, rfl, p, kv1, keyD low, .ref b', rfl, kd3, keyD_key imx, hget, b', ob, nkb, rfl, hbA, fun D2 hD2 => lc_it (walk_kd hbA okb) (fun j H6 => ∃ (ys : List V) (cs : List Box), Same H3 H6 ∧ H6 D2 = some (.lst ys) ∧ ImAll K H6 ys (cs.map boxD) ∧ (∀ c ∈ cs, c.length = n) ∧ cs.length ≤ j)
        ⟨[], [], Same.new hD2, upd_same, .nil, by simp, Nat.le_refl _⟩ (fun j H6 _ ⟨_, _, e, _⟩ => ⟨same_tk e, by rw [e _ _ hbA, hbA]⟩) ?_ ?_⟩
      · rintro j xh H60 H6 hj ⟨ys, cs, q1, q2, q3, q4, q5⟩ ⟨rfl, ph, hph, imh⟩
        obtain ⟨high, hhigh, hphe⟩ : ∃ high, l[j]? = some high ∧ ph.1 = keyD high := by
          have h1 : (kvb.map (·.1))[j]? = some ph.1 := by rw [List.getElem?_map, hph]; rfl
          rw [hkb, List.getElem?_map] at h1
          obtain ⟨hi2, h2, h3⟩ := Option.map_eq_some_iff.mp h1
          exact ⟨hi2, h2, h3.symm⟩
        rw [hphe] at imh
        have lenh := gl.len high (List.mem_of_getElem? hhigh)
        have lenl := G.len low hlowk
        have n2 := G.n2
        refine ⟨rfl, ?_⟩
        refine ⟨_, rfl, _, rfl, _, rfl, p, x, xh, m, low, high, l, rfl, ⟨kv1, kd3.same q1, fr3.same q1⟩, hmnd, hmem, imx.mono (same_tk q1), imh, by omega, by omega, fun bb H7 s7 => ?_⟩
        refine ⟨bb, rfl, ?_⟩
        have keep : ∃ (ys : List V) (cs : List Box), Same H3 H7 ∧ H7 D2 = some (.lst ys) ∧ ImAll K H7 ys (cs.map boxD) ∧ (∀ c ∈ cs, c.length = n) ∧ cs.length ≤ j + 1 := ⟨ys, cs, q1.trans s7, s7 _ _ q2, q3.mono (same_tk s7), q4, by omega⟩
        cases bb with
        | false =>
          refine iteF ?_
          exact keep
        | true =>
          refine iteT ?_
          have im7l : Im K H7 x (keyD low) := (imx.mono (same_tk q1)).mono (same_tk s7)
          have im7h : Im K H7 xh (keyD high) := imh.mono (same_tk s7)
          refine ⟨[none, none, none, some (keyD low), some (keyD high)], boxD (low.zip high), repAll (.cons rNone (.cons rNone (.cons rNone (.cons (rSome (.inl im7l)) (.cons (rSome (.inl im7h)) .nil))))), ?_, fun yv H8 s8 r8 => ?_⟩
          · have z0 : lzE (vE 3) (vE 4) [none, none, none, some (keyD low), some (keyD high)] = some (.list ((low.zip high).map gapD)) := by
              show (if (low.map nD).length = (high.map nD).length ∧ (low.map nD).length ≤ 1000 then some (PyData.list (zipD (low.map nD) (high.map nD))) else none) = _
              rw [if_pos ⟨by simp; omega, by simp; omega⟩, zipD_map]
              rfl
            rw [callE_eq, consE_eq, z0]
            rfl
          · have h8 : H8 D2 = some (.lst ys) := s8 _ _ (s7 _ _ q2)
            refine ⟨ys, h8, ?_, ys ++ [yv], cs ++ [low.zip high], Same.mut ((q1.trans s7).trans s8) hD2, upd_same, ?_, ?_, by simp; omega⟩
            · have := im_len q3
              exact Nat.lt_of_le_of_lt (show ys.length ≤ 49 by omega) (by decide)
            · rw [List.map_append]
              exact (((q3.mono (same_tk s7)).mono (same_tk s8)).snoc (r8.im rfl)).mono (TK.updL h8)
            · intro c hc
              rcases List.mem_append.mp hc with hc | hc
              · exact q4 c hc
              · rw [List.mem_singleton.mp hc, List.length_zip]
                omega
      · rintro H6 ⟨ys, cs, q1, q2, q3, q4, q5⟩
        have hR6 : H6 R = some (.lst fs) := q1 _ _ g2
        have nDR : R ≠ D2 := ne_of_none g2 hD2
        have l1 := im_len g3
        have l2 := im_len q3
        have hi49 : i < 49 := by omega
        have b1 : bs.length ≤ 48 * 49 := by
          have : i * 49 ≤ 48 * 49 := Nat.mul_le_mul_right _ (by omega)
          omega
        refine ⟨R, D2, fs, ys, rfl, rfl, hR6, q2, ?_, ?_⟩
        · exact Nat.le_trans (show fs.length + ys.length ≤ 5000 by omega) (by decide)
        · have tkR : TK H6 (upd H6 R (.lst (fs ++ ys))) := TK.updL hR6
          refine ⟨fs ++ ys, bs ++ cs, _, _, rfl, Same.mut (g1.trans q1) hR, upd_same, ?_, ?_, ?_⟩
          · rw [List.map_append]
            exact ((g3.mono (same_tk q1)).append q3).mono tkR
          · intro c hc
            rcases List.mem_append.mp hc with hc | hc
            · exact g4 c hc
            · exact q4 c hc
          · simp
            omega
    · rintro σ3 H3 ⟨fs, bs, y3, y4, rfl, g1, g2, g3, g4, g5⟩
      have hb : bs.length ≤ 2401 := by
        have : kv1.length * 49 ≤ 49 * 49 := Nat.mul_le_mul_right _ (by omega)
        omega
      refine ⟨_, rfl, R, fs, bs.map boxD, rfl, .inl g2, g3, srt_boxes G.n1 g4 (by omega), fun S ys hS pm im => ?_⟩
      refine ⟨S, ys, rfl, .inl ⟨SqL.of upd_same, fun T hT => ?_⟩⟩
      have sS : Same H3 (upd H3 S (.lst ys)) := Same.new hS
      have sT : Same (upd H3 S (.lst ys)) (upd (upd H3 S (.lst ys)) T (.tup ys)) := Same.new hT
      refine k (.ref T) _ _ (((tP.trans g1).trans sS).trans sT) (.tup upd_same (im.mono (same_tk sT))) ?_ ?_
      · rw [pm.length_eq, List.length_map]
        exact hb
      · rw [List.any_eq_false]
        intro d hd
        obtain ⟨b, _, rfl⟩ := List.mem_map.mp (pm.mem_iff.mp hd)
        simp [boxD, isL]
end
end Wk

set_option maxHeartbeats 4000000
/-! lot_of, spread, way -/
namespace Wk
open PySem L2 PyProof.Rows
theorem lc_of {K : PySem.W.Frag} {wi : TI} {p : PatF} {c : EvB} {e : Ev} {vs sl : List Nat} {σ : L2.St} {H : Hp} {Q : VK} (hsl : ∀ i ∈ sl, i ∈ vs) (mono : ∀ R R' : It → Hp → Prop, (∀ J H, R J H → R' J H) → wi σ H R → wi σ H R')
    (h : wi σ H fun J H1 => ∃ ds ρw res, DW K J ds H1 ∧ ds.length ≤ 10000 ∧ RepS K H1 (wipe σ vs) ρw ∧ lcL p c e ρw ds = some res ∧ ∀ D H' xs, H1 D = none → Same H1 H' → H' D = some (.lst xs) → ImAll K H' xs res → Q (.ref D) H') :
    tLc wi (tG K p sl) (tT K c) (tD K e) vs σ H Q :=
  mono _ _ (fun J H1 ⟨ds, ρw, res, hW, hz, r, hres, k⟩ D hD => lc_read (D' := H1) hW hD hsl hz r hres fun H' xs s2 h4 h5 => k D H' xs hD s2 h4 h5) h
theorem mono_kd {P : Program} {w : World} {i : Nat} {σ : L2.St} {H : Hp} (R R' : It → Hp → Prop) (m : ∀ J H, R J H → R' J H) (h : iKD (tVar i) P w σ H R) : iKD (tVar i) P w σ H R' := by
  obtain ⟨v, e, a, o, ks, h1, h2, h3⟩ := h
  exact ⟨v, e, a, o, ks, h1, h2, m _ _ h3⟩
section
variable {P : Program} {w : World} {K : PySem.W.Frag} {mg : Str → Option Value} {base : Heap}
abbrev n_lot_of : List Str := ["house", "found", "lot", "hall", "keys", "own", "key", "box"]
theorem sc_lot_of : FnScope n_lot_of ["house", "found"] (defScope (top 92)) := ⟨rfl, rfl, rfl, by decide +kernel, rfl, by decide +kernel, by decide +kernel⟩
def sp_lot_of (P : Program) (w : World) (K : PySem.W.Frag) : Sp := fun vs H Q _ => ∃ (hv : V) (a : Addr) (h : House) (s0 : Stand) (E : List Ent), vs = [hv, .ref a] ∧ Im K H hv (houseD h) ∧ FD P w K H a (entL E) ∧ Good h ∧ Base h s0 E ∧ h.teeth ≤ 2 ∧
  ∀ v ds H', Same H H' → Im K H' v (.tuple ds) → Q v H'
theorem hall_nodup {l : List Stand} (h : l.Nodup) (i : Nat) : ((l.filter fun s => s.1 == i).map (·.2)).Nodup := by
  induction l with
  | nil => exact .nil
  | cons x l ih =>
    rw [List.nodup_cons] at h
    rw [List.filter_cons]
    split
    · rename_i hx
      rw [List.map_cons, List.nodup_cons]
      refine ⟨fun z => ?_, ih h.2⟩
      obtain ⟨y, hy, e⟩ := List.mem_map.mp z
      obtain ⟨h1, h2⟩ := List.mem_filter.mp hy
      have e1 : x.1 = i := by simpa using hx
      have e2 : y.1 = i := by simpa using h2
      have : y = x := Prod.ext (by rw [e1, e2]) e
      rw [this] at h1
      exact h.1 h1
    · exact ih h.2
theorem kT_pairs (l : List (List Nat)) : (kT l).map pairD = l.map fun k => .tuple [keyD k, .bool true] := by
  unfold kT
  rw [List.map_map]
  rfl
theorem ok_lot_of (M : Mo mg) (D : Dn K mg "lot_of" (top 92)) (F_great : FnAt P w K mg base 3 "greatest_by" ["keys"] (sp_greatest_by P w K)) : FnAt P w K mg base 4 "lot_of" ["house", "found"] (sp_lot_of P w K) := by
  obtain ⟨f, fd, F, hm⟩ := D.ex
  refine fn_raw (N := n_lot_of) F hm (F.bindsN fun _ _ _ _ _ _ us hl => match us, hl with | [_, _], _ => rfl) sc_lot_of (fun vs H Q E h => by obtain ⟨_, _, _, _, _, rfl, _⟩ := h; rfl) (fun cdv A outer s H vs Q E hr h => ?_)
  have nd := sc_lot_of.nd
  refine ⟨_, pss_cons (ps_set (i := 2) nd rfl (by first | exact Or.inl rfl | exact Or.inr rfl) (pe_lst pa_nil))
    (pss_cons (ps_for PassesOwn.never rfl (pi_range1 rfl M.b_range (pa_cons (pd_ix (pd_var 0 (pv 0)) pd_int) pa_nil)) (pg_name (i := 3) nd rfl (by first | exact Or.inl rfl | exact Or.inr rfl))
      (pss_cons (ps_set (i := 4) nd rfl (by first | exact Or.inl rfl | exact Or.inr rfl) (pe_callTy (call_kdict (u10 hr) rfl) rfl M.b_dict PyProof.Rows.boot_dict (pa_cons
        (pe_lc (own := [("own", 5), ("key", 6)]) (g := tG K (tpP (csP (nmP 5) (csP (nmP 6) nlP))) [5, 6]) (tt := tT K (cmp2 eqB (vE 5) (vE 3))) (te := tD K (tupE (consE (vE 6) (consE (cE (.bool true)) nilE)))) rfl nd (pi_kd (pv 1)) (blkOk_by (own := [("own", 5), ("key", 6)]) (N := n_lot_of) (sc := defScope (top 92)) (by decide +kernel))
          (fun _ _ _ _ _ => (gd_tup (gd_cons (gd_name 5 (pg_name (i := 5) sc_lot_of.nd rfl (by first | exact Or.inl rfl | exact Or.inr rfl))) (gd_cons (gd_name 6 (pg_name (i := 6) sc_lot_of.nd rfl (by first | exact Or.inl rfl | exact Or.inr rfl))) gd_nil)) (csP_len (csP_len nlP_len)))) (fun _ _ _ _ _ => (tsd_one (td_eq hr.units (pd_var 5 (pv 5)) (pd_var 3 (pv 3))))) (fun _ _ _ _ _ => (pd_tup (pd_cons (pd_var 6 (pv 6)) (pd_cons pd_bl pd_nil))))) pa_nil)))
      (pss_one (ps_expr (pe_bm PySem.F.plainAttrs_list PySem.F.slot_list_extend PySem.F.type_list_extend mt_extend (pv 2) (pa_cons
        (pe_lc (own := [("box", 7)]) (g := tG K (nmP 7) [7]) (tt := tT K yesB) (te := tD K (tupE (consE (vE 3) (consE (vE 7) nilE)))) rfl nd (pi_tup (pe_fn (F_great.mono (by decide)) hr (pa_cons (pv 4) pa_nil))) (blkOk_by (own := [("box", 7)]) (N := n_lot_of) (sc := defScope (top 92)) (by decide +kernel))
          (fun _ _ _ _ _ => (gd_name 7 (pg_name (i := 7) sc_lot_of.nd rfl (by first | exact Or.inl rfl | exact Or.inr rfl)))) (fun _ _ _ _ _ => tsd_nil) (fun _ _ _ _ _ => (pd_tup (pd_cons (pd_var 3 (pv 3)) (pd_cons (pd_var 7 (pv 7)) pd_nil))))) pa_nil))))))
    (pss_one (ps_ret (pe_callTy call_tuple_of rfl M.b_tuple PyProof.Rows.boot_tuple (pa_cons (pv 2) pa_nil))))), ?_⟩
  obtain ⟨hv, a, h, s0, E0, rfl, hH, hF, G, B, t2, k⟩ := h
  have lenE := B.len G
  refine ⟨Nat.zero_le _, fun R hR => ?_⟩
  have sR : Same H (upd H R (.lst [])) := Same.new hR
  refine ⟨[some (houseD h), none, none, none, none, none, none, none], nD h.halls, repAll (.cons (rSome (.inl (hH.mono (same_tk sR)))) (.cons rNone (.cons rNone (.cons rNone (.cons rNone (.cons rNone (.cons rNone (.cons rNone .nil)))))))), by simp, fun v1 H1 s1 r1 => ?_⟩
  rw [r1.int]
  have h6 := G.h6
  refine ⟨(h.halls : Int), rfl, by omega, by omega, ?_⟩
  have tR1 := sR.trans s1
  refine for_it walk_range (fun i σ3 H3 => ∃ (fs : List V) (ds : List PyData) (y3 y4 : Option V), σ3 = [some hv, some (.ref a), some (.ref R), y3, y4, none, none, none] ∧ Same H H3 ∧ H3 R = some (.lst fs) ∧ ImAll K H3 fs ds ∧ ds.length ≤ i * 2401)
    ⟨[], [], none, none, rfl, tR1, s1 _ _ upd_same, .nil, by simp⟩ (fun _ _ _ _ _ => trivial) ?_ ?_
  · rintro i x σ3 H30 H3 hi ⟨fs, ds, y3, y4, rfl, g1, g2, g3, g4⟩ ⟨rfl, hx0⟩
    have hih : i < h.halls := by simpa using hi
    obtain rfl : x = V.int (i : Nat) := by
      rw [hx0]
      show V.int (0 + (i : Nat)) = _
      rw [Int.zero_add]
    obtain ⟨kv0, ⟨o0, nk0, hA, ok0⟩, pr0⟩ := hF.same g1
    have hk0 : kv0.map (·.1) = E0.map fun e => standD e.1 := by
      rw [paired_fst pr0]
      unfold entL
      rw [List.map_map]
      rfl
    have hl0 : kv0.length = E0.length := by
      have := congrArg List.length hk0
      simpa using this
    let l := ((E0.map (·.1)).filter fun s => s.1 == i).map (·.2)
    have Gl : KsG h.teeth l := ⟨hall_nodup B.nodup i, fun q hq => by
      obtain ⟨s, hs, rfl⟩ := List.mem_map.mp hq
      obtain ⟨e, he, rfl⟩ := List.mem_map.mp (List.mem_filter.mp hs).1
      exact (B.good e he).len, fun q hq => by
      obtain ⟨s, hs, rfl⟩ := List.mem_map.mp hq
      obtain ⟨e, he, rfl⟩ := List.mem_map.mp (List.mem_filter.mp hs).1
      exact (B.good e he).six, G.t1, t2⟩
    have hres : lcL (tpP (csP (nmP 5) (csP (nmP 6) nlP))) (cmp2 eqB (vE 5) (vE 3)) (tupE (consE (vE 6) (consE (cE (.bool true)) nilE))) [none, none, none, some (nD i), none, none, none, none] (kv0.map (·.1)) = some ((kT l).map pairD) := by
      rw [hk0, kT_pairs]
      have := lcL_map (p := tpP (csP (nmP 5) (csP (nmP 6) nlP))) (c := cmp2 eqB (vE 5) (vE 3)) (e := tupE (consE (vE 6) (consE (cE (.bool true)) nilE))) (ρ := [none, none, none, some (nD i), none, none, none, none]) (F := standD) (q := fun s : Stand => s.1 == i) (G := fun s => PyData.tuple [keyD s.2, .bool true]) (l := E0.map (·.1)) fun s _ => ⟨_, rfl, by
        by_cases hq : s.1 = i
        · simp [hq]
        · simp [hq, show ¬ (s.1 : Int) = i from by omega], fun _ => ⟨by simp [tupF_of, keyD], rfl⟩⟩
      rw [List.map_map] at this
      rw [show (E0.map fun e => standD e.1) = E0.map (standD ∘ fun e => e.1) from rfl, this]
      show some _ = some (l.map _)
      simp only [l, List.map_map]
      rfl
    have rw3 : RepS K H3 [some hv, some (.ref a), some (.ref R), some (.int (i : Nat)), y4, none, none, none] [none, none, none, some (nD i), none, none, none, none] := repAll (.cons rNone (.cons rNone (.cons rNone (.cons (rSome (.inl (.int _))) (.cons rNone (.cons rNone (.cons rNone (.cons rNone .nil))))))))
    unfold gName tSeq tAsg tCB tCons
    refine lc_of (K := K) (by decide) mono_kd ⟨_, rfl, a, o0, nk0, rfl, hA, _, _, _, dw_kd hA ok0, by rw [List.length_map]; omega, rw3, hres, fun D1 H4 xs hD1 s4 hD4 hx4 => ?_⟩
    obtain ⟨ps, kvs, e1, e2, e3⟩ := ps_of hx4 fun p hp => by
      obtain ⟨q, _, rfl⟩ := List.mem_map.mp hp
      exact ⟨⟨_, rfl⟩, Nat.le_trans (key_depth q) (by decide)⟩
    subst e1
    have hkk : kvs.map (·.1) = l.map keyD := kT_keys e3
    refine ⟨D1, ps, kvs, rfl, hD4, e2, ?_, fun p o hp nt kd => ?_⟩
    · have : (kvs.map fun p => nkD p.1) = (kvs.map (·.1)).map nkD := by rw [List.map_map]; rfl
      rw [this, hkk, List.map_map]
      exact nodup_keys Gl.nd
    have sP : Same H4 (upd H4 p o) := Same.new hp
    have fdk : FD P w K (upd H4 p o) p (kT l) := ⟨kvs, kd, Paired.mapP e3 fun x y z => ⟨z.1, z.2.mono (same_tk sP)⟩⟩
    have t4 := (g1.trans s4).trans sP
    have hR4 : upd H4 p o R = some (.lst fs) := sP _ _ (s4 _ _ g2)
    refine ⟨_, rfl, .inl ⟨rfl, _, SqL.of hR4⟩, ?_⟩
    try unfold tCons
    refine lc_of (K := K) (by decide) (fun R R' m q => by
      obtain ⟨v1, q0, a1, n1, ks1, q1, q2, q3, q4⟩ := q
      exact ⟨v1, q0, a1, n1, ks1, q1, q2, q3, fun v ds H' z1 z2 z3 z4 => by
        obtain ⟨b1, z5, z6, z7⟩ := q4 v ds H' z1 z2 z3 z4
        exact ⟨b1, z5, z6, m _ _ z7⟩⟩) ⟨_, rfl, p, h.teeth, l, rfl, fdk, Gl, fun gv gs H5 s5 im5 hg5 hgl => ?_⟩
    obtain ⟨ga, gx, rfl, hga, hgx⟩ := im5.inT
    have hres2 : lcL (nmP 7) yesB (tupE (consE (vE 3) (consE (vE 7) nilE))) [none, none, none, some (nD i), none, none, none, none] gs = some (gs.map fun d => PyData.tuple [nD i, d]) := by
      have := lcL_all (p := nmP 7) (e := tupE (consE (vE 3) (consE (vE 7) nilE))) (ρ := [none, none, none, some (nD i), none, none, none, none]) (F := id) (G := fun d => PyData.tuple [nD i, d]) (l := gs) fun d hd => ⟨_, rfl, by
        have hdl : isL d = false := by
          rw [List.any_eq_false] at hgl
          simpa using hgl d hd
        simp [tupF_of, hdl], rfl⟩
      rwa [List.map_id] at this
    have rw5 : RepS K H5 [some hv, some (.ref a), some (.ref R), some (.int (i : Nat)), some (.ref p), none, none, none] [none, none, none, some (nD i), none, none, none, none] := repAll (.cons rNone (.cons rNone (.cons rNone (.cons (rSome (.inl (.int _))) (.cons rNone (.cons rNone (.cons rNone (.cons rNone .nil))))))))
    refine ⟨ga, rfl, ⟨gx, SqT.of hga⟩, _, _, _, dw_tup hga hgx, by omega, rw5, hres2, fun D2 H6 zs hD2 s6 hD6 hz6 => ?_⟩
    have hR6 : H6 R = some (.lst fs) := s6 _ _ (s5 _ _ hR4)
    have lz := hz6.length
    rw [List.length_map] at lz
    have lf := g3.length
    have i6 : i * 2401 ≤ 5 * 2401 := Nat.mul_le_mul_right _ (by omega)
    refine ⟨R, D2, fs, zs, rfl, rfl, hR6, hD6, Nat.le_trans (show fs.length + zs.length ≤ 20000 by omega) (by decide), ?_⟩
    have tkR : TK H6 (upd H6 R (.lst (fs ++ zs))) := TK.updL hR6
    have t6 := (t4.trans s5).trans s6
    refine ⟨fs ++ zs, ds ++ gs.map fun d => PyData.tuple [nD i, d], _, _, rfl, Same.mut t6 hR, upd_same, ?_, ?_⟩
    · exact ((g3.mono (((same_tk s4).trans (same_tk sP)).trans ((same_tk s5).trans (same_tk s6)))).append hz6).mono tkR
    · rw [List.length_append, List.length_map]
      omega
  · rintro σ3 H3 ⟨fs, ds, y3, y4, rfl, g1, g2, g3, g4⟩
    refine ⟨_, rfl, R, fs, rfl, .inl ⟨SqL.of g2, fun T hT => ?_⟩⟩
    have sT : Same H3 (upd H3 T (.tup fs)) := Same.new hT
    exact k (.ref T) ds _ (g1.trans sT) (.tup upd_same (g3.mono (same_tk sT)))
/-! ### spread -/
abbrev n_spread : List Str := ["house", "stand"]
theorem sc_spread : FnScope n_spread ["house", "stand"] (defScope (top 90)) := ⟨rfl, rfl, rfl, by decide +kernel, rfl, by decide +kernel, by decide +kernel⟩
def sp_spread (P : Program) (w : World) (K : PySem.W.Frag) : Sp := fun vs H Q _ => ∃ (hv v : V) (h : House) (s0 : Stand), vs = [hv, v] ∧ Im K H hv (houseD h) ∧ Im K H v (standD s0) ∧ Good h ∧ GoodS h s0 ∧
  ∀ F E H', Same H H' → H F = none → BFin h s0 E → FD P w K H' F (entL E) → Q (.ref F) H'
theorem ok_spread (M : Mo mg) (D : Dn K mg "spread" (top 90)) (F_from : FnAt P w K mg base 5 "spread_from" ["house", "stands"] (sp_spread_from P w K)) : FnAt P w K mg base 6 "spread" ["house", "stand"] (sp_spread P w K) := by
  obtain ⟨f, fd, F, hm⟩ := D.ex
  refine fn_raw (N := n_spread) F hm (F.bindsN fun _ _ _ _ _ _ us hl => match us, hl with | [_, _], _ => rfl) sc_spread (fun vs H Q E h => by obtain ⟨_, _, _, _, rfl, _⟩ := h; rfl) (fun cdv A outer s H vs Q E hr h => ?_)
  refine ⟨_, pss_one (ps_ret (pe_fn F_from hr (pa_cons (pv 0) (pa_cons (pe_lst (pa_cons (pv 1) pa_nil)) pa_nil)))), ?_⟩
  obtain ⟨hv, v, h, s0, rfl, hH, hV, G, g0, k⟩ := h
  refine ⟨_, rfl, _, rfl, by show 1 ≤ sizeLine; decide, fun p hp => ?_⟩
  have sP : Same H (upd H p (.lst [v])) := Same.new hp
  exact ⟨hv, v, p, h, s0, rfl, hH.mono (same_tk sP), upd_same, hV.mono (same_tk sP), G, g0, fun F E H' s' hF B fdF => k F E H' (sP.trans s') (Same.back sP hF) B fdF⟩
end
end Wk

set_option maxHeartbeats 4000000
/-! way -/
namespace Wk
open PySem L2 PyProof.Rows
/-- a row from a stand to a goal -/
def Goes (h : House) (s0 : Stand) (g : Nat × Box) (r : List Deed) : Prop := (∀ d ∈ r, GoodD h d) ∧ ∃ t, run h s0 r = some t ∧ isThere g t = true
section
variable {P : Program} {w : World} {K : PySem.W.Frag} {mg : Str → Option Value} {base : Heap}
abbrev n_way : List Str := ["house", "stand", "goal", "found", "other"]
theorem sc_way : FnScope n_way ["house", "stand", "goal"] (defScope (top 93)) := ⟨rfl, rfl, rfl, by decide +kernel, rfl, by decide +kernel, by decide +kernel⟩
/-- what way tells -/
def WayD (h : House) (s0 : Stand) (g : Nat × Box) (d : PyData) : Prop :=
  (∃ r, d = .tuple [.str "row", rowD r] ∧ Goes h s0 g r ∧ r.length ≤ 10000 ∧ ∀ r', Goes h s0 g r' → r.length ≤ r'.length) ∨ ∃ ds, d = .tuple [.str "shut", .tuple ds] ∧ ∀ r', ¬ Goes h s0 g r'
def sp_way (K : PySem.W.Frag) : Sp := fun vs H Q _ => ∃ (hv v gv : V) (h : House) (s0 : Stand) (g : Nat × Box), vs = [hv, v, gv] ∧ Im K H hv (houseD h) ∧ Im K H v (standD s0) ∧ Im K H gv (goalD g) ∧ Good h ∧ GoodS h s0 ∧ g.1 < h.halls ∧ GoodB h.teeth g.2 ∧ h.teeth ≤ 2 ∧
  ∀ u d H', Same H H' → Im K H' u d → WayD h s0 g d → Q u H'
theorem ok_way (M : Mo mg) (D : Dn K mg "way" (top 93)) (F_wish : FnAt P w K mg base 11 "need_wish" ["house", "stand", "goal"] (spD K 3 f_need_wish)) (F_spread : FnAt P w K mg base 6 "spread" ["house", "stand"] (sp_spread P w K))
    (F_there : FnAt P w K mg base 2 "is_there" ["goal", "stand"] (spD K 2 f_is_there)) (F_row : FnAt P w K mg base 1 "row_to" ["found", "stand"] (sp_row_to P w K)) (F_lot : FnAt P w K mg base 4 "lot_of" ["house", "found"] (sp_lot_of P w K)) : FnAt P w K mg base 12 "way" ["house", "stand", "goal"] (sp_way K) := by
  obtain ⟨f, fd, F, hm⟩ := D.ex
  refine fn_raw (N := n_way) F hm (F.bindsN fun _ _ _ _ _ _ us hl => match us, hl with | [_, _, _], _ => rfl) sc_way (fun vs H Q E h => by obtain ⟨_, _, _, _, _, _, rfl, _⟩ := h; rfl) (fun cdv A outer s H vs Q E hr h => ?_)
  have nd := sc_way.nd
  refine ⟨_, pss_cons (ps_expr (pd_fn (F_wish.mono (by decide)) hr rfl (pd_cons (pd_var 0 (pv 0)) (pd_cons (pd_var 1 (pv 1)) (pd_cons (pd_var 2 (pv 2)) pd_nil))) (consE_len (consE_len (consE_len nilE_len)))))
    (pss_cons (ps_set (i := 3) nd rfl (by first | exact Or.inl rfl | exact Or.inr rfl) (pe_fn (F_spread.mono (by decide)) hr (pa_cons (pv 0) (pa_cons (pv 1) pa_nil))))
    (pss_cons (ps_for PassesOwn.never rfl (pi_kd (pv 3)) (pg_name (i := 4) nd rfl (by first | exact Or.inl rfl | exact Or.inr rfl))
      (pss_one (ps_if (td_val (pd_fn (F_there.mono (by decide)) hr rfl (pd_cons (pd_var 2 (pv 2)) (pd_cons (pd_var 4 (pv 4)) pd_nil)) (consE_len (consE_len nilE_len))))
        (pss_one (ps_ret (pe_tup (pa_cons (pd_gS (K := K) M.ROW) (pa_cons (pe_fn (F_row.mono (by decide)) hr (pa_cons (pv 3) (pa_cons (pv 4) pa_nil))) pa_nil)))))
        pss_nil)))
    (pss_one (ps_ret (pe_tup (pa_cons (pd_gS (K := K) M.SHUT) (pa_cons (pe_fn (F_lot.mono (by decide)) hr (pa_cons (pv 0) (pa_cons (pv 3) pa_nil))) pa_nil))))))), ?_⟩
  obtain ⟨hv, v, gv, h, s0, g, rfl, hH, hV, hG, G, g0, hg1, hgb, t2, k⟩ := h
  have hgl : g.2.length ≤ 10000 := by rw [hgb.1]; have := G.t3; omega
  refine ⟨[some (houseD h), some (standD s0), some (goalD g), none, none], .none, repAll (.cons (rSome (.inl hH)) (.cons (rSome (.inl hV)) (.cons (rSome (.inl hG)) (.cons rNone (.cons rNone .nil))))), by simp [need_wish_ok G g0 hg1 hgb], fun v1 H1 s1 r1 => ?_⟩
  refine ⟨_, rfl, _, rfl, hv, v, h, s0, rfl, hH.mono (same_tk s1), hV.mono (same_tk s1), G, g0, fun Fa E0 H2 s2 hFa B fdF => ?_⟩
  have t2' := s1.trans s2
  have lenE := B.base.len G
  obtain ⟨kv0, ⟨o0, nk0, hA, ok0⟩, pr0⟩ := id fdF
  have hk0 : kv0.map (·.1) = E0.map fun e => standD e.1 := by
    rw [paired_fst pr0]
    unfold entL
    rw [List.map_map]
    rfl
  have hl0 : kv0.length = E0.length := by
    have := congrArg List.length hk0
    simpa using this
  refine ⟨_, rfl, Fa, o0, nk0, rfl, hA, for_it (walk_kd hA ok0) (fun i σ3 H3 => ∃ y4, σ3 = [some hv, some v, some gv, some (.ref Fa), y4] ∧ Same H2 H3 ∧ ∀ e ∈ E0.take i, isThere g e.1 = false) ⟨none, rfl, Same.refl _, by simp⟩ (fun i σ3 H3 _ ⟨_, _, e, _⟩ => ⟨same_tk e, by rw [e _ _ hA, hA]⟩) ?_ ?_⟩
  · rintro i x σ3 H30 H3 hi ⟨y4, rfl, g1, g2⟩ ⟨rfl, pp, hpp, imx⟩
    obtain ⟨e0, he0, hpe⟩ : ∃ e0, E0[i]? = some e0 ∧ pp.1 = standD e0.1 := by
      have h1 : (kv0.map (·.1))[i]? = some pp.1 := by rw [List.getElem?_map, hpp]; rfl
      rw [hk0, List.getElem?_map] at h1
      obtain ⟨e0, h2, h3⟩ := Option.map_eq_some_iff.mp h1
      exact ⟨e0, h2, h3.symm⟩
    rw [hpe] at imx
    have t3 := t2'.trans g1
    refine ⟨[none, none, some (goalD g), none, some (standD e0.1)], isThere g e0.1, repAll (.cons rNone (.cons rNone (.cons (rSome (.inl (hG.mono (same_tk t3)))) (.cons rNone (.cons (rSome (.inl imx)) .nil))))), ?_, fun H4 s4 => ?_⟩
    · unfold tE
      simp [there_ok hgl]
    · cases hb : isThere g e0.1 with
      | false =>
        refine iteF ?_
        refine ⟨_, rfl, g1.trans s4, fun e he => ?_⟩
        rw [List.take_add_one, he0] at he
        rcases List.mem_append.mp he with he | he
        · exact g2 e he
        · rw [List.mem_singleton.mp he]
          exact hb
      | true =>
        refine iteT ?_
        have t4 := t3.trans s4
        have hmem := List.mem_of_getElem? he0
        obtain ⟨r, c1, c2, c3, c4⟩ := B.base.row e0.2.1 hmem rfl
        have hdep := B.base.dep e0 hmem
        have rlen : r.length ≤ 10000 := by omega
        refine ⟨[none, none, none, none, none], .str "row", repAll (.cons rNone (.cons rNone (.cons rNone (.cons rNone (.cons rNone .nil))))), rfl, fun v5 H5 s5 r5 => ?_⟩
        refine ⟨_, rfl, _, rfl, Fa, x, entL E0, e0.1, r, rfl, ((fdF.same g1).same s4).same s5, (imx.mono (same_tk s4)).mono (same_tk s5), c1, rlen, fun rv H6 s6 im6 => ?_⟩
        refine ⟨by show 2 ≤ sizeLine; decide, fun T hT => ?_⟩
        have sT : Same H6 (upd H6 T (.tup [v5, rv])) := Same.new hT
        refine k (.ref T) _ _ (((t4.trans s5).trans s6).trans sT) (.tup upd_same (.cons (((r5.im rfl).mono (same_tk s6)).mono (same_tk sT)) (.cons (im6.mono (same_tk sT)) .nil))) (.inl ⟨r, rfl, ⟨c4, e0.1, c3, hb⟩, rlen, fun r' hr' => ?_⟩)
        obtain ⟨q1, t, q2, q3⟩ := hr'
        obtain ⟨er, her, ers, erd⟩ := B.base.root
        obtain ⟨e', he', het, hed⟩ := B.reach her q1 (by rw [ers]; exact q2)
        rw [erd, Nat.zero_add] at hed
        rw [c2]
        refine Nat.le_trans ?_ hed
        obtain ⟨j, hj⟩ := List.mem_iff_getElem?.mp he'
        have hji : ¬ j < i := fun hlt => by
          have := g2 e' (List.mem_of_getElem? (show (E0.take i)[j]? = some e' by rw [List.getElem?_take_of_lt hlt]; exact hj))
          rw [het, q3] at this
          cases this
        rcases Nat.lt_or_ge i j with hlt | hge
        · have hsz := (List.getElem?_eq_some_iff.mp hj)
          have hsz0 := (List.getElem?_eq_some_iff.mp he0)
          obtain ⟨z1, z2⟩ := hsz
          obtain ⟨z3, z4⟩ := hsz0
          have := List.pairwise_iff_getElem.mp B.base.sorted i j z3 z1 hlt
          rwa [z2, z4] at this
        · have : j = i := by omega
          subst this
          rw [hj] at he0
          cases he0
          exact Nat.le_refl _
  · rintro σ3 H3 ⟨y4, rfl, g1, g2⟩
    rw [hl0, List.take_length] at g2
    have t3 := t2'.trans g1
    refine ⟨[none, none, none, none, none], .str "shut", repAll (.cons rNone (.cons rNone (.cons rNone (.cons rNone (.cons rNone .nil))))), rfl, fun v5 H5 s5 r5 => ?_⟩
    refine ⟨_, rfl, _, rfl, hv, Fa, h, s0, E0, rfl, hH.mono (same_tk (t3.trans s5)), (fdF.same g1).same s5, G, B.base, t2, fun lv ds H6 s6 im6 => ?_⟩
    refine ⟨by show 2 ≤ sizeLine; decide, fun T hT => ?_⟩
    have sT : Same H6 (upd H6 T (.tup [v5, lv])) := Same.new hT
    refine k (.ref T) _ _ (((t3.trans s5).trans s6).trans sT) (.tup upd_same (.cons (((r5.im rfl).mono (same_tk s6)).mono (same_tk sT)) (.cons (im6.mono (same_tk sT)) .nil))) (.inr ⟨ds, rfl, fun r' hr' => ?_⟩)
    obtain ⟨q1, t, q2, q3⟩ := hr'
    obtain ⟨er, her, ers, erd⟩ := B.base.root
    obtain ⟨e', he', het, hed⟩ := B.reach her q1 (by rw [ers]; exact q2)
    have := g2 e' he'
    rw [het, q3] at this
    cases this
end
end Wk

set_option maxHeartbeats 2000000
/-! the search by coins, plain -/
namespace Wk
open PySem L2
abbrev Pd := List (Stand × Nat)
abbrev Wt := List (Nat × List Stand)
def InW (W : Wt) (c : Nat) (s : Stand) : Prop := ∃ l, (c, l) ∈ W ∧ s ∈ l
def Reach (h : House) (s0 s : Stand) (c : Nat) : Prop := ∃ r, (∀ d ∈ r, GoodD h d) ∧ run h s0 r = some s ∧ coins h s0.1 r = c
section
variable {h : House} {s0 : Stand}
theorem coins_snoc : ∀ {r : List Deed} {s t : Stand} {d : Deed}, run h s r = some t → coins h s.1 (r ++ [d]) = coins h s.1 r + price h t.1 d
  | [], s, t, d, e => by
    cases e
    show price h s.1 d + 0 = 0 + price h s.1 d
    omega
  | x :: r, s, t, d, e => by
    unfold run at e
    split at e
    · have ih := coins_snoc (d := d) e
      show price h s.1 x + coins h (toH h s.1 x) (r ++ [d]) = price h s.1 x + coins h (toH h s.1 x) r + price h t.1 d
      have e2 : (done h s x).1 = toH h s.1 x := rfl
      rw [e2] at ih
      rw [ih]
      omega
    · cases e
theorem Reach.step {s : Stand} {c : Nat} {d : Deed} (R : Reach h s0 s c) (hd : GoodD h d) (k : can h s d = true) : Reach h s0 (done h s d) (c + price h s.1 d) := by
  obtain ⟨r, h1, h2, h3⟩ := R
  refine ⟨r ++ [d], fun x hx => ?_, run_snoc (s := s0) h2 k rfl, by rw [coins_snoc h2, h3]⟩
  rcases List.mem_append.mp hx with hx | hx
  · exact h1 x hx
  · rw [List.mem_singleton.mp hx]; exact hd
def Paid (P : Pd) (s : Stand) (c : Nat) : Prop := ∃ k, (s, k) ∈ P ∧ k ≤ c
def Wait (W : Wt) (s : Stand) (c : Nat) : Prop := ∃ k, InW W k s ∧ k ≤ c
structure CInv (h : House) (s0 : Stand) (g : Nat × Box) (P : Pd) (W : Wt) : Prop where
  good : ∀ c s, InW W c s → GoodS h s ∧ Reach h s0 s c
  pgood : ∀ s c, (s, c) ∈ P → GoodS h s
  nodup : (P.map (·.1)).Nodup
  not_ : ∀ s c, (s, c) ∈ P → isThere g s = false
  start : Paid P s0 0 ∨ Wait W s0 0
  edge : ∀ s c, (s, c) ∈ P → ∀ d, GoodD h d → can h s d = true → Paid P (done h s d) (c + price h s.1 d) ∨ Wait W (done h s d) (c + price h s.1 d)
  mono : ∀ s k, (s, k) ∈ P → ∀ c s', InW W c s' → k ≤ c
/-- a row is paid, or something on it waits for no more -/
theorem CInv.cover {g : Nat × Box} {P : Pd} {W : Wt} (I : CInv h s0 g P W) : ∀ {r : List Deed} {t : Stand}, (∀ d ∈ r, GoodD h d) → run h s0 r = some t → Paid P t (coins h s0.1 r) ∨ ∃ s k, InW W k s ∧ k ≤ coins h s0.1 r := by
  have key : ∀ (n : Nat) (r : List Deed) (t : Stand), r.length = n → (∀ d ∈ r, GoodD h d) → run h s0 r = some t → Paid P t (coins h s0.1 r) ∨ ∃ s k, InW W k s ∧ k ≤ coins h s0.1 r := by
    intro n
    induction n with
    | zero =>
      intro r t hl _ hr
      have : r = [] := List.length_eq_zero_iff.mp hl
      subst this
      cases hr
      rcases I.start with p | ⟨k, w1, w2⟩
      · exact .inl p
      · exact .inr ⟨s0, k, w1, w2⟩
    | succ n ih =>
      intro r t hl hg hr
      obtain ⟨r', d, rfl⟩ : ∃ r' d, r = r' ++ [d] := by
        rcases List.eq_nil_or_concat r with e | ⟨r', d, e⟩
        · rw [e] at hl; cases hl
        · exact ⟨r', d, by rw [e, List.concat_eq_append]⟩
      have split : ∀ (r' : List Deed) (s : Stand), run h s (r' ++ [d]) = some t → ∃ u, run h s r' = some u ∧ can h u d = true ∧ done h u d = t := by
        intro r'
        induction r' with
        | nil =>
          intro s e
          rw [List.nil_append] at e
          unfold run at e
          split at e
          · rename_i c
            cases e
            exact ⟨s, rfl, c, rfl⟩
          · cases e
        | cons x r' ih2 =>
          intro s e
          rw [List.cons_append] at e
          unfold run at e
          split at e
          · rename_i c
            obtain ⟨u, h1, h2⟩ := ih2 _ e
            exact ⟨u, by unfold run; rw [if_pos c]; exact h1, h2⟩
          · cases e
      obtain ⟨u, h1, h2, h3⟩ := split r' s0 hr
      have hc := coins_snoc (d := d) h1
      rw [hc]
      rcases ih r' u (by simpa using hl) (fun x hx => hg x (List.mem_append_left _ hx)) h1 with ⟨k, p1, p2⟩ | ⟨s, k, w1, w2⟩
      · rcases I.edge u k p1 d (hg d (by simp)) h2 with ⟨k2, q1, q2⟩ | ⟨k2, q1, q2⟩
        · rw [h3] at q1
          exact .inl ⟨k2, q1, by omega⟩
        · exact .inr ⟨_, k2, q1, by omega⟩
      · exact .inr ⟨s, k, w1, by omega⟩
  intro r t hg hr
  exact key r.length r t rfl hg hr
/-- the coins at a goal -/
theorem CInv.least {g : Nat × Box} {P : Pd} {W : Wt} (I : CInv h s0 g P W) {m : Nat} (hm : ∀ c s, InW W c s → m ≤ c) {r : List Deed} (hr : Goes h s0 g r) : m ≤ coins h s0.1 r := by
  obtain ⟨h1, t, h2, h3⟩ := hr
  rcases I.cover h1 h2 with ⟨k, p1, p2⟩ | ⟨s, k, w1, w2⟩
  · rw [I.not_ t k p1] at h3
    cases h3
  · exact Nat.le_trans (hm k s w1) w2
theorem CInv.none_ {g : Nat × Box} {P : Pd} (I : CInv h s0 g P []) {r : List Deed} : ¬ Goes h s0 g r := by
  rintro ⟨h1, t, h2, h3⟩
  rcases I.cover h1 h2 with ⟨k, p1, p2⟩ | ⟨s, k, ⟨l, w1, _⟩, w2⟩
  · rw [I.not_ t k p1] at h3
    cases h3
  · cases w1
/-- W' is W without one (m, x) -/
def Less (W W' : Wt) (m : Nat) (x : Stand) : Prop := (∀ c s, InW W' c s → InW W c s) ∧ ∀ c s, InW W c s → InW W' c s ∨ (c = m ∧ s = x)
theorem CInv.skip {g : Nat × Box} {P : Pd} {W W' : Wt} {m k0 : Nat} {x : Stand} (I : CInv h s0 g P W) (L : Less W W' m x) (hx : InW W m x) (hp : (x, k0) ∈ P) : CInv h s0 g P W' := by
  have hk : k0 ≤ m := I.mono x k0 hp m x hx
  have wt : ∀ s c, Wait W s c → Paid P s c ∨ Wait W' s c := fun s c ⟨k, w1, w2⟩ => by
    rcases L.2 k s w1 with w | ⟨e1, e2⟩
    · exact .inr ⟨k, w, w2⟩
    · subst e1 e2
      exact .inl ⟨k0, hp, Nat.le_trans hk w2⟩
  exact ⟨fun c s w => I.good c s (L.1 c s w), I.pgood, I.nodup, I.not_, I.start.elim .inl (wt _ _), fun s c hs d hd k => (I.edge s c hs d hd k).elim .inl (wt _ _), fun s k hs c s' w => I.mono s k hs c s' (L.1 c s' w)⟩
/-- x is paid for m; the nexts of js wait already -/
structure MInv (h : House) (s0 : Stand) (g : Nat × Box) (P : Pd) (W : Wt) (m : Nat) (x : Stand) (js : List (Deed × Stand)) : Prop where
  good : ∀ c s, InW W c s → GoodS h s ∧ Reach h s0 s c
  pgood : ∀ s c, (s, c) ∈ P → GoodS h s
  nodup : (P.map (·.1)).Nodup
  not_ : ∀ s c, (s, c) ∈ P → isThere g s = false
  paid : (x, m) ∈ P
  rx : Reach h s0 x m
  start : Paid P s0 0 ∨ Wait W s0 0
  edge : ∀ s c, (s, c) ∈ P → s ≠ x → ∀ d, GoodD h d → can h s d = true → Paid P (done h s d) (c + price h s.1 d) ∨ Wait W (done h s d) (c + price h s.1 d)
  own : ∀ p ∈ js, Wait W p.2 (m + price h x.1 p.1)
  mono : ∀ s k, (s, k) ∈ P → ∀ c s', InW W c s' → k ≤ c
theorem CInv.pay {g : Nat × Box} {P : Pd} {W W' : Wt} {m : Nat} {x : Stand} (I : CInv h s0 g P W) (L : Less W W' m x) (hx : InW W m x) (hm : ∀ c s, InW W c s → m ≤ c) (hn : x ∉ P.map (·.1)) (hg : isThere g x = false) : MInv h s0 g (P ++ [(x, m)]) W' m x [] := by
  have inl : ∀ q, q ∈ P → q ∈ P ++ [(x, m)] := fun q hq => List.mem_append_left _ hq
  have inr : (x, m) ∈ P ++ [(x, m)] := by simp
  have pd : ∀ s c, Paid P s c → Paid (P ++ [(x, m)]) s c := fun s c ⟨k, p1, p2⟩ => ⟨k, inl _ p1, p2⟩
  have wt : ∀ s c, Wait W s c → Paid (P ++ [(x, m)]) s c ∨ Wait W' s c := fun s c ⟨k, w1, w2⟩ => by
    rcases L.2 k s w1 with w | ⟨e1, e2⟩
    · exact .inr ⟨k, w, w2⟩
    · subst e1 e2
      exact .inl ⟨k, inr, w2⟩
  obtain ⟨gx, rx⟩ := I.good m x hx
  have of : ∀ {s c}, (s, c) ∈ P ++ [(x, m)] → (s, c) ∈ P ∨ (s = x ∧ c = m) := fun hq => by
    rcases List.mem_append.mp hq with hq | hq
    · exact .inl hq
    · have := List.mem_singleton.mp hq
      injection this with e1 e2
      exact .inr ⟨e1, e2⟩
  refine ⟨fun c s w => I.good c s (L.1 c s w), fun s c hs => ?_, ?_, fun s c hs => ?_, inr, rx, I.start.elim (fun p => .inl (pd _ _ p)) (wt _ _), fun s c hs ne d hd k => ?_, by simp, fun s k hs c s' w => ?_⟩
  · rcases of hs with hs | ⟨rfl, rfl⟩
    · exact I.pgood s c hs
    · exact gx
  · rw [List.map_append, List.nodup_append]
    refine ⟨I.nodup, by simp, fun a ha b hb => ?_⟩
    have hb : b = x := by simpa using hb
    intro z
    rw [z, hb] at ha
    exact hn ha
  · rcases of hs with hs | ⟨rfl, rfl⟩
    · exact I.not_ s c hs
    · exact hg
  · rcases of hs with hs | ⟨rfl, rfl⟩
    · exact (I.edge s c hs d hd k).elim (fun p => .inl (pd _ _ p)) (wt _ _)
    · exact absurd rfl ne
  · rcases of hs with hs | ⟨rfl, rfl⟩
    · exact I.mono s k hs c s' (L.1 c s' w)
    · exact hm c s' (L.1 c s' w)
/-- one more waits -/
def More (W W' : Wt) (m : Nat) (x : Stand) : Prop := (∀ c s, InW W c s → InW W' c s) ∧ InW W' m x ∧ ∀ c s, InW W' c s → InW W c s ∨ (c = m ∧ s = x)
theorem MInv.put {g : Nat × Box} {P : Pd} {W W' : Wt} {m : Nat} {x : Stand} {js : List (Deed × Stand)} (I : MInv h s0 g P W m x js) (G : Good h) (hmx : ∀ s k, (s, k) ∈ P → k ≤ m) {d : Deed} (hd : GoodD h d) (k : can h x d = true) (M : More W W' (m + price h x.1 d) (done h x d)) : MInv h s0 g P W' m x (js ++ [(d, done h x d)]) := by
  have wt : ∀ s c, Wait W s c → Wait W' s c := fun s c ⟨k, w1, w2⟩ => ⟨k, M.1 _ _ w1, w2⟩
  refine ⟨fun c s w => ?_, I.pgood, I.nodup, I.not_, I.paid, I.rx, I.start.elim .inl fun w => .inr (wt _ _ w), fun s c hs ne d hd k => (I.edge s c hs ne d hd k).elim .inl fun w => .inr (wt _ _ w), fun p hp => ?_, fun s k hs c s' w => ?_⟩
  · rcases M.2.2 c s w with w | ⟨rfl, rfl⟩
    · exact I.good c s w
    · exact ⟨done_good G (I.pgood x m I.paid) k, I.rx.step hd k⟩
  · rcases List.mem_append.mp hp with hp | hp
    · exact wt _ _ (I.own p hp)
    · rw [List.mem_singleton.mp hp]
      exact ⟨_, M.2.1, Nat.le_refl _⟩
  · rcases M.2.2 c s' w with w | ⟨rfl, rfl⟩
    · exact I.mono s k hs c s' w
    · exact Nat.le_trans (hmx s k hs) (Nat.le_add_right _ _)
theorem MInv.fin {g : Nat × Box} {P : Pd} {W : Wt} {m : Nat} {x : Stand} (I : MInv h s0 g P W m x (nexts h x)) : CInv h s0 g P W := by
  refine ⟨I.good, I.pgood, I.nodup, I.not_, I.start, fun s c hs d hd k => ?_, I.mono⟩
  by_cases e : s = x
  · subst e
    have : c = m := by
      have h1 := I.paid
      have nd := I.nodup
      generalize P = P' at hs h1 nd
      induction P' with
      | nil => cases hs
      | cons q P' ih =>
        rw [List.map_cons, List.nodup_cons] at nd
        rcases List.mem_cons.mp hs with a | a
        · rcases List.mem_cons.mp h1 with b | b
          · rw [← a] at b
            injection b with _ b
            exact b.symm
          · rw [← a] at nd
            exact absurd (List.mem_map.mpr ⟨_, b, rfl⟩) nd.1
        · rcases List.mem_cons.mp h1 with b | b
          · rw [← b] at nd
            exact absurd (List.mem_map.mpr ⟨_, a, rfl⟩) nd.1
          · exact ih a b nd.2
    subst this
    exact .inr (I.own _ (nexts_mem hd k))
  · exact I.edge s c hs e d hd k
theorem CInv.init {g : Nat × Box} (hs : GoodS h s0) : CInv h s0 g [] [(0, [s0])] := by
  have one : ∀ c s, InW [(0, [s0])] c s → c = 0 ∧ s = s0 := fun c s ⟨l, w1, w2⟩ => by
    have := List.mem_singleton.mp w1
    injection this with e1 e2
    subst e2
    exact ⟨e1, List.mem_singleton.mp w2⟩
  refine ⟨fun c s w => ?_, (fun s c q => nomatch q), .nil, (fun s c q => nomatch q), .inr ⟨0, ⟨[s0], by simp, by simp⟩, Nat.le_refl _⟩, (fun s c q => nomatch q), (fun s k q => nomatch q)⟩
  obtain ⟨rfl, rfl⟩ := one c s w
  exact ⟨hs, [], by simp, rfl, rfl⟩
end
end Wk

set_option maxHeartbeats 4000000
/-! least_coins -/
namespace Wk
open PySem L2 PyProof.Rows
/-! ### d != {} -/
def rNeE : R2 := fun x y H Q => ∃ (a b : Addr) (kvs : List (Key × V)), x = .ref a ∧ y = .ref b ∧ H a = some (.dK kvs) ∧ H b = some (.dK []) ∧ Q (.bl (!kvs.isEmpty)) H
theorem op_neE {X : Cx} (hu : X.A.units + 64 < cLine) : OpR X (compareOp .NotEq) rNeE := by
  intro pins s σ H x y v u Q I rx ry h
  obtain ⟨a, b, kvs, rfl, rfl, h1, h2, q⟩ := h
  obtain rfl : v = Value.ref a := rx
  obtain rfl : u = Value.ref b := ry
  obtain ⟨_, ha, vs, r1, d1⟩ := dk_of I.hok h1
  obtain ⟨_, hb, ws, r2, d2⟩ := dk_of I.hok h2
  cases r2
  have hl : kvs.length = vs.length := Paired.length r1
  show wpAny _ _ (richCompare .NotEq (.ref a) (.ref b)) _ _ _
  refine PySem.W.keq_ne ha hb d1 d2 (r := true) (by omega) (fun e => ?_) ⟨.bl _, H, I, rfl, ?_⟩
  · have : vs = [] := List.length_eq_zero_iff.mp e
    rw [this]
    exact .nil
  · have : (!(vs.length == ([] : List (Key × Value)).length && true)) = !kvs.isEmpty := by
      cases kvs with
      | nil => cases r1; rfl
      | cons _ _ => cases r1; rfl
    rw [this]
    exact q
/-! ### what waits, in the heap -/
def WRel (K : PySem.W.Frag) (H : Hp) : List (Key × V) → Wt → Prop := Paired fun p q => p.1 = .inl (q.1 : Int) ∧ ∃ b xs, p.2 = .ref b ∧ H b = some (.lst xs) ∧ ImAll K H xs (q.2.map standD)
structure WR (K : PySem.W.Frag) (H0 H : Hp) (kvs : List (Key × V)) (W : Wt) : Prop where
  rel : WRel K H kvs W
  nd : (kvs.map (·.2)).Nodup
  fr : ∀ p ∈ kvs, ∀ b, p.2 = .ref b → H0 b = none
  kn : (W.map (·.1)).Nodup
theorem WRel.mono {K : PySem.W.Frag} {H H' : Hp} (t : TK H H') : ∀ {kvs : List (Key × V)} {W : Wt}, WRel K H kvs W → (∀ p ∈ kvs, ∀ b xs, p.2 = .ref b → H b = some (.lst xs) → H' b = some (.lst xs)) → WRel K H' kvs W
  | _, _, .nil, _ => .nil
  | _, _, .cons ⟨e, b, xs, h1, h2, h3⟩ r, k => .cons ⟨e, b, xs, h1, k _ List.mem_cons_self b xs h1 h2, h3.mono t⟩ (WRel.mono t r fun p hp => k p (List.mem_cons_of_mem _ hp))
theorem WR.same {K : PySem.W.Frag} {H0 H H' : Hp} {kvs : List (Key × V)} {W : Wt} (e : Same H H') (w : WR K H0 H kvs W) : WR K H0 H' kvs W := ⟨w.rel.mono (same_tk e) fun p _ b xs _ h => e _ _ h, w.nd, w.fr, w.kn⟩
/-- an object that is no list is written -/
theorem WR.other {K : PySem.W.Frag} {H0 H : Hp} {a : Addr} {o o' : HO} {kvs : List (Key × V)} {W : Wt} (ha : H a = some o') (n1 : ∀ xs, o' ≠ .tup xs) (n2 : ∀ xs, o' ≠ .lst xs) (w : WR K H0 H kvs W) : WR K H0 (upd H a o) kvs W :=
  ⟨w.rel.mono (TK.updO ha n1) fun p _ b xs _ h => by rw [upd_ne (ne_of h ha (n2 xs).symm)]; exact h, w.nd, w.fr, w.kn⟩
theorem paired_split {α β : Type} {F : α → β → Prop} {b : β} {B : List β} : ∀ {A : List β} {k : List α}, Paired F k (A ++ b :: B) → ∃ k1 a k2, k = k1 ++ a :: k2 ∧ Paired F k1 A ∧ F a b ∧ Paired F k2 B
  | [], _, .cons (a := a) h r => ⟨[], a, _, rfl, .nil, h, r⟩
  | x :: A, _, .cons (a := a) h r => by
    obtain ⟨k1, a', k2, e, h1, h2, h3⟩ := paired_split (A := A) r
    exact ⟨a :: k1, a', k2, by rw [e]; rfl, .cons h h1, h2, h3⟩
theorem paired_app {α β : Type} {F : α → β → Prop} : ∀ {k1 k2 : List α} {A B : List β}, Paired F k1 A → Paired F k2 B → Paired F (k1 ++ k2) (A ++ B)
  | _, _, _, _, .nil, s => s
  | _, _, _, _, .cons h r, s => .cons h (paired_app r s)
theorem wrel_keys {K : PySem.W.Frag} {H : Hp} : ∀ {kvs : List (Key × V)} {W : Wt}, WRel K H kvs W → kvs.map (·.1) = W.map fun q => (Sum.inl (q.1 : Int) : Key)
  | _, _, .nil => rfl
  | _, _, .cons ⟨e, _⟩ r => by rw [List.map_cons, List.map_cons, e, wrel_keys r]
theorem valV_skip {k : Key} {p : List (Key × V)} : ∀ {k1 : List (Key × V)}, (∀ q ∈ k1, q.1 ≠ k) → valV (k1 ++ p) k = valV p k
  | [], _ => rfl
  | x :: k1, h => by
    rw [List.cons_append, valV_neg (h x List.mem_cons_self)]
    exact valV_skip fun q hq => h q (List.mem_cons_of_mem _ hq)
def cnt (W : Wt) : Nat := (W.map fun q => q.2.length).sum
theorem cnt_app (A B : Wt) : cnt (A ++ B) = cnt A + cnt B := by simp [cnt]
theorem cnt_cons (q : Nat × List Stand) (B : Wt) : cnt (q :: B) = q.2.length + cnt B := by simp [cnt]
theorem len_cnt : ∀ {W : Wt}, (∀ q ∈ W, q.2 ≠ []) → W.length ≤ cnt W
  | [], _ => Nat.le_refl _
  | q :: W, h => by
    have h1 := len_cnt fun x hx => h x (List.mem_cons_of_mem _ hx)
    have h2 : 0 < q.2.length := List.length_pos_iff.mpr (h q List.mem_cons_self)
    rw [cnt_cons, List.length_cons]
    omega
theorem inW_app {A B : Wt} {c : Nat} {s : Stand} : InW (A ++ B) c s ↔ InW A c s ∨ InW B c s := by
  unfold InW
  constructor
  · rintro ⟨l, h1, h2⟩
    rcases List.mem_append.mp h1 with h | h
    · exact .inl ⟨l, h, h2⟩
    · exact .inr ⟨l, h, h2⟩
  · rintro (⟨l, h1, h2⟩ | ⟨l, h1, h2⟩)
    · exact ⟨l, List.mem_append_left _ h1, h2⟩
    · exact ⟨l, List.mem_append_right _ h1, h2⟩
theorem inW_cons {q : Nat × List Stand} {B : Wt} {c : Nat} {s : Stand} : InW (q :: B) c s ↔ (c = q.1 ∧ s ∈ q.2) ∨ InW B c s := by
  unfold InW
  constructor
  · rintro ⟨l, h1, h2⟩
    rcases List.mem_cons.mp h1 with h | h
    · rw [← h]
      exact .inl ⟨rfl, h2⟩
    · exact .inr ⟨l, h, h2⟩
  · rintro (⟨rfl, h2⟩ | ⟨l, h1, h2⟩)
    · exact ⟨q.2, List.mem_cons_self, h2⟩
    · exact ⟨l, List.mem_cons_of_mem _ h1, h2⟩
theorem less_set {A B : Wt} {m : Nat} {l : List Stand} {x : Stand} : Less (A ++ (m, l ++ [x]) :: B) (A ++ (m, l) :: B) m x := by
  constructor
  · intro c s w
    rw [inW_app, inW_cons] at w ⊢
    rcases w with w | ⟨e, w⟩ | w
    · exact .inl w
    · exact .inr (.inl ⟨e, List.mem_append_left _ w⟩)
    · exact .inr (.inr w)
  · intro c s w
    rw [inW_app, inW_cons] at w ⊢
    rcases w with w | ⟨e, w⟩ | w
    · exact .inl (.inl w)
    · rcases List.mem_append.mp w with w | w
      · exact .inl (.inr (.inl ⟨e, w⟩))
      · exact .inr ⟨e, List.mem_singleton.mp w⟩
    · exact .inl (.inr (.inr w))
theorem less_drop {A B : Wt} {m : Nat} {x : Stand} : Less (A ++ (m, [x]) :: B) (A ++ B) m x := by
  constructor
  · intro c s w
    rw [inW_app] at w
    rw [inW_app, inW_cons]
    rcases w with w | w
    · exact .inl w
    · exact .inr (.inr w)
  · intro c s w
    rw [inW_app, inW_cons] at w
    rw [inW_app]
    rcases w with w | ⟨e, w⟩ | w
    · exact .inl (.inl w)
    · exact .inr ⟨e, List.mem_singleton.mp w⟩
    · exact .inl (.inr w)
theorem more_set {A B : Wt} {m : Nat} {l : List Stand} {x : Stand} : More (A ++ (m, l) :: B) (A ++ (m, l ++ [x]) :: B) m x :=
  ⟨less_set.1, by rw [inW_app, inW_cons]; exact .inr (.inl ⟨rfl, by simp⟩), less_set.2⟩
theorem more_new {A : Wt} {m : Nat} {x : Stand} : More A (A ++ [(m, [x])]) m x := by
  refine ⟨fun c s w => by rw [inW_app]; exact .inl w, by rw [inW_app, inW_cons]; exact .inr (.inl ⟨rfl, by simp⟩), fun c s w => ?_⟩
  rw [inW_app, inW_cons] at w
  rcases w with w | ⟨e, w⟩ | ⟨l, w, _⟩
  · exact .inl w
  · exact .inr ⟨e, List.mem_singleton.mp w⟩
  · cases w
section
variable {K : PySem.W.Frag} {H0 H : Hp} {kvs : List (Key × V)} {A B : Wt} {m : Nat} {l : List Stand}
/-- the list at one of the coins -/
theorem WR.at_ (w : WR K H0 H kvs (A ++ (m, l) :: B)) : ∃ k1 k2 b xs, kvs = k1 ++ (.inl (m : Int), .ref b) :: k2 ∧ WRel K H k1 A ∧ WRel K H k2 B ∧ H b = some (.lst xs) ∧ ImAll K H xs (l.map standD) ∧ H0 b = none ∧ valV kvs (.inl (m : Int)) = some (.ref b) ∧ dropK kvs (.inl (m : Int)) = k1 ++ k2 := by
  obtain ⟨k1, ⟨pk, pv'⟩, k2, e, h1, ⟨h2, b, xs, h3, h4, h5⟩, h6⟩ := paired_split w.rel
  simp only at h2 h3
  subst h2 h3
  have kn := w.kn
  rw [List.map_append, List.map_cons, List.nodup_append, List.nodup_cons] at kn
  have n1 : ∀ q ∈ k1, q.1 ≠ (Sum.inl (m : Int) : Key) := fun q hq z => by
    have : q.1 ∈ k1.map (·.1) := List.mem_map.mpr ⟨q, hq, rfl⟩
    rw [wrel_keys h1] at this
    obtain ⟨y, hy, e2⟩ := List.mem_map.mp this
    rw [z] at e2
    have : y.1 = m := by
      injection e2 with e2
      omega
    exact kn.2.2 y.1 (List.mem_map.mpr ⟨y, hy, rfl⟩) m List.mem_cons_self this
  have n2 : ∀ q ∈ k2, q.1 ≠ (Sum.inl (m : Int) : Key) := fun q hq z => by
    have : q.1 ∈ k2.map (·.1) := List.mem_map.mpr ⟨q, hq, rfl⟩
    rw [wrel_keys h6] at this
    obtain ⟨y, hy, e2⟩ := List.mem_map.mp this
    rw [z] at e2
    have : y.1 = m := by
      injection e2 with e2
      omega
    exact kn.2.1.1 (this ▸ List.mem_map.mpr ⟨y, hy, rfl⟩)
  refine ⟨k1, k2, b, xs, e, h1, h6, h4, h5, w.fr (.inl (m : Int), .ref b) (by rw [e]; simp) b rfl, ?_, ?_⟩
  · rw [e, valV_skip n1, valV_pos rfl]
  · rw [e]
    unfold dropK
    rw [List.filter_append, List.filter_cons, if_neg (by simp)]
    congr 1
    · exact List.filter_eq_self.mpr fun q hq => by simpa using n1 q hq
    · exact List.filter_eq_self.mpr fun q hq => by simpa using n2 q hq
/-- .. is written -/
theorem WR.set {l' : List Stand} {b : Addr} {xs' : List V} {k1 k2 : List (Key × V)} (w : WR K H0 H (k1 ++ (.inl (m : Int), .ref b) :: k2) (A ++ (m, l) :: B)) {xs : List V} (hb : H b = some (.lst xs)) (im : ImAll K H xs' (l'.map standD)) (h1 : WRel K H k1 A) (h2 : WRel K H k2 B) : WR K H0 (upd H b (.lst xs')) (k1 ++ (.inl (m : Int), .ref b) :: k2) (A ++ (m, l') :: B) := by
  have t : TK H (upd H b (.lst xs')) := TK.updL hb
  have nd := w.nd
  rw [List.map_append, List.map_cons, List.nodup_append, List.nodup_cons] at nd
  refine ⟨paired_app (h1.mono t fun p hp c ys e hc => ?_) (.cons ⟨rfl, b, xs', rfl, upd_same, im.mono t⟩ (h2.mono t fun p hp c ys e hc => ?_)), w.nd, w.fr, ?_⟩
  · have : c ≠ b := fun z => by
      subst z
      exact nd.2.2 p.2 (List.mem_map.mpr ⟨p, hp, rfl⟩) _ List.mem_cons_self e
    rw [upd_ne this]
    exact hc
  · have : c ≠ b := fun z => by
      subst z
      exact nd.2.1.1 (e ▸ List.mem_map.mpr ⟨p, hp, rfl⟩)
    rw [upd_ne this]
    exact hc
  · have := w.kn
    rw [List.map_append, List.map_cons] at this ⊢
    exact this
/-- .. is dropped -/
theorem WR.drop {b : Addr} {k1 k2 : List (Key × V)} (w : WR K H0 H (k1 ++ (.inl (m : Int), .ref b) :: k2) (A ++ (m, l) :: B)) (h1 : WRel K H k1 A) (h2 : WRel K H k2 B) : WR K H0 H (k1 ++ k2) (A ++ B) := by
  have nd := w.nd
  have kn := w.kn
  rw [List.map_append, List.map_cons, List.nodup_append, List.nodup_cons] at nd kn
  refine ⟨paired_app h1 h2, ?_, fun p hp => w.fr p ?_, ?_⟩
  · rw [List.map_append, List.nodup_append]
    exact ⟨nd.1, nd.2.1.2, fun a ha c hc => nd.2.2 a ha c (List.mem_cons_of_mem _ hc)⟩
  · rcases List.mem_append.mp hp with h | h
    · exact List.mem_append_left _ h
    · exact List.mem_append_right _ (List.mem_cons_of_mem _ h)
  · rw [List.map_append, List.nodup_append]
    exact ⟨kn.1, kn.2.1.2, fun a ha c hc => kn.2.2 a ha c (List.mem_cons_of_mem _ hc)⟩
/-- a new one is laid -/
theorem WR.new {W : Wt} {b : Addr} {xs : List V} (w : WR K H0 H kvs W) (hm : m ∉ W.map (·.1)) (hb : H b = some (.lst xs)) (hn : ∀ p ∈ kvs, p.2 ≠ .ref b) (h0 : H0 b = none) (im : ImAll K H xs (l.map standD)) : WR K H0 H (kvs ++ [(.inl (m : Int), .ref b)]) (W ++ [(m, l)]) := by
  refine ⟨paired_app w.rel (.cons ⟨rfl, b, xs, rfl, hb, im⟩ .nil), ?_, fun p hp c e => ?_, ?_⟩
  · rw [List.map_append, List.nodup_append]
    refine ⟨w.nd, by simp, fun a ha c hc => ?_⟩
    obtain ⟨p, hp, rfl⟩ := List.mem_map.mp ha
    have hc : c = .ref b := by simpa using hc
    rw [hc]
    exact hn p hp
  · rcases List.mem_append.mp hp with h | h
    · exact w.fr p h c e
    · rw [List.mem_singleton.mp h] at e
      cases e
      exact h0
  · rw [List.map_append, List.nodup_append]
    refine ⟨w.kn, by simp, fun a ha c hc => ?_⟩
    have hc : c = m := by simpa using hc
    intro z
    rw [z, hc] at ha
    exact hm ha
theorem valV_none {W : Wt} (r : WRel K H kvs W) (hm : m ∉ W.map (·.1)) : valV kvs (.inl (m : Int)) = none := by
  have h1 : ∀ q ∈ kvs, q.1 ≠ (Sum.inl (m : Int) : Key) := fun q hq z => by
    have : q.1 ∈ kvs.map (·.1) := List.mem_map.mpr ⟨q, hq, rfl⟩
    rw [wrel_keys r] at this
    obtain ⟨y, hy, e2⟩ := List.mem_map.mp this
    rw [z] at e2
    have : y.1 = m := by
      injection e2 with e2
      omega
    exact hm (this ▸ List.mem_map.mpr ⟨y, hy, rfl⟩)
  have := valV_skip (p := []) h1
  rw [List.append_nil] at this
  exact this
end
theorem im_last {K : PySem.W.Frag} {H : Hp} {d : PyData} : ∀ {xs : List V} {ds : List PyData}, ImAll K H xs (ds ++ [d]) → ∃ ys y, xs = ys ++ [y] ∧ ImAll K H ys ds ∧ Im K H y d
  | _, [], .cons h r => by
    cases r
    exact ⟨[], _, rfl, .nil, h⟩
  | _, e :: ds, .cons h r => by
    obtain ⟨ys, y, e1, h1, h2⟩ := im_last r
    exact ⟨_ :: ys, y, by rw [e1]; rfl, .cons h h1, h2⟩
def pT (P : Pd) : List (PyData × PyData) := P.map fun p => (standD p.1, .bool true)
theorem pT_none {P : Pd} {s : Stand} : dGet (pT P) (nkD (standD s)) = none ↔ s ∉ P.map (·.1) := by
  unfold dGet pT
  rw [Option.map_eq_none_iff, List.find?_eq_none]
  constructor
  · intro h hs
    obtain ⟨e, he, rfl⟩ := List.mem_map.mp hs
    exact h _ (List.mem_map.mpr ⟨e, he, rfl⟩) (by simp)
  · intro h p hp
    obtain ⟨e, he, rfl⟩ := List.mem_map.mp hp
    simp
    intro z
    exact h (List.mem_map.mpr ⟨e, he, nk_stand z⟩)
end Wk

set_option maxHeartbeats 4000000
/-! least_coins, the walk -/
namespace Wk
open PySem L2 PyProof.Rows
section
variable {P : Program} {w : World} {K : PySem.W.Frag} {mg : Str → Option Value} {base : Heap}
abbrev n_least_coins : List Str := ["house", "stand", "goal", "paid", "waiting", "coins", "one", "deed", "other"]
theorem sc_least_coins : FnScope n_least_coins ["house", "stand", "goal"] (defScope (top 95)) := ⟨rfl, rfl, rfl, by decide +kernel, rfl, by decide +kernel, by decide +kernel⟩
/-- what least_coins tells -/
def LeastD (h : House) (s0 : Stand) (g : Nat × Box) (v : V) : Prop :=
  (v = .non ∧ ∀ r, ¬ Goes h s0 g r) ∨ ∃ m : Nat, v = .int (m : Int) ∧ (∃ r, Goes h s0 g r ∧ coins h s0.1 r = m) ∧ ∀ r, Goes h s0 g r → m ≤ coins h s0.1 r
def sp_least_coins (K : PySem.W.Frag) : Sp := fun vs H Q _ => ∃ (hv v gv : V) (h : House) (s0 : Stand) (g : Nat × Box), vs = [hv, v, gv] ∧ Im K H hv (houseD h) ∧ Im K H v (standD s0) ∧ Im K H gv (goalD g) ∧ Good h ∧ GoodS h s0 ∧ g.1 < h.halls ∧ GoodB h.teeth g.2 ∧
  ∀ u H', Same H H' → LeastD h s0 g u → Q u H'
theorem ok_least_coins (M : Mo mg) (D : Dn K mg "least_coins" (top 95)) (F_wish : FnAt P w K mg base 11 "need_wish" ["house", "stand", "goal"] (spD K 3 f_need_wish)) (F_there : FnAt P w K mg base 2 "is_there" ["goal", "stand"] (spD K 2 f_is_there))
    (F_next : FnAt P w K mg base 4 "next_ones" ["house", "stand"] (spF K 2 f_next_ones)) (F_price : FnAt P w K mg base 2 "price_of" ["house", "hall", "deed"] (spD K 3 f_price_of)) : FnAt P w K mg base 12 "least_coins" ["house", "stand", "goal"] (sp_least_coins K) := by
  obtain ⟨f, fd, F, hm⟩ := D.ex
  refine fn_raw (N := n_least_coins) F hm (F.bindsN fun _ _ _ _ _ _ us hl => match us, hl with | [_, _, _], _ => rfl) sc_least_coins (fun vs H Q E h => by obtain ⟨_, _, _, _, _, _, rfl, _⟩ := h; rfl) (fun cdv A outer s H vs Q E hr h => ?_)
  have nd := sc_least_coins.nd
  have hu1 := hu_of hr
  refine ⟨_, pss_cons (ps_expr (pd_fn (F_wish.mono (by decide)) hr rfl (pd_cons (pd_var 0 (pv 0)) (pd_cons (pd_var 1 (pv 1)) (pd_cons (pd_var 2 (pv 2)) pd_nil))) (consE_len (consE_len (consE_len nilE_len)))))
    (pss_cons (ps_par (i := 3) (j := 4) rfl nd rfl rfl (by decide) rfl rfl (pa_cons pe_knew (pa_cons (pe_disp (pps_cons pe_int (pe_lst (pa_cons (pv 1) pa_nil)) pps_nil) rfl rfl (by simp) (by decide)) pa_nil)) rfl)
    (pss_cons (ps_while PassesOwn.never (pt_cmpR (op_neE hr.units) (pv 4) pe_dnewK (nomark _))
      (pss_cons (ps_set (i := 5) nd rfl (.inl rfl) (pe_callB (cr_minK rfl) rfl M.b_min (by decide +kernel) (pa_cons (pv 4) pa_nil)))
      (pss_cons (ps_set (i := 6) nd rfl (.inl rfl) (pe_bm0 PySem.F.plainAttrs_list PySem.F.slot_list_pop PySem.F.type_list_pop mt_pop (pe_dget hu1 (pv 4) (pv 5) (fun _ _ => rfl))))
      (pss_cons (ps_if (pt_cmpR (op_eqP hr.units) (pe_dget hu1 (pv 4) (pv 5) (fun _ _ => rfl)) (pe_lst pa_nil) (nomark _)) (pss_one (ps_expr (pe_dpop1 (pv 4) (pv 5) ⟨rfl, rfl, rfl, rfl⟩))) pss_nil)
      (pss_one (ps_if (pt_cmp (pc_knotin (u9 hr) (pv 6) (pv 3)) rfl)
        (pss_cons (ps_if (td_val (pd_fn (F_there.mono (by decide)) hr rfl (pd_cons (pd_var 2 (pv 2)) (pd_cons (pd_var 6 (pv 6)) pd_nil)) (consE_len (consE_len nilE_len)))) (pss_one (ps_ret (pv 5))) pss_nil)
        (pss_cons (ps_kput (u9 hr) (pv 3) (pv 6) pe_bl)
        (pss_one (ps_for PassesOwn.never rfl (pi_list (pf_fn (F_next.mono (by decide)) hr rfl (pd_cons (pd_var 0 (pv 0)) (pd_cons (pd_var 6 (pv 6)) pd_nil)) (consE_len (consE_len nilE_len)))) (pg_tup rfl (pgs_cons (pg_name (i := 7) nd rfl (.inl rfl)) (pgs_cons (pg_name (i := 8) nd rfl (.inl rfl)) pgs_nil)))
          (pss_one (ps_expr (pe_bm PySem.F.plainAttrs_list PySem.F.slot_list_append PySem.F.type_list_append mt_append
            (pe_dsetd (pv 4) (pd_add (pd_var 5 (pv 5)) (pd_fn (F_price.mono (by decide)) hr rfl (pd_cons (pd_var 0 (pv 0)) (pd_cons (pd_ix (pd_var 6 (pv 6)) pd_int) (pd_cons (pd_var 7 (pv 7)) pd_nil))) (consE_len (consE_len (consE_len nilE_len))))) (pe_lst pa_nil) ⟨rfl, rfl, rfl, rfl⟩) (pa_cons (pv 8) pa_nil))))))))
        pss_nil))))))
    (pss_one (ps_ret pe_non)))), ?_⟩
  obtain ⟨hv, v, gv, h, s0, g, rfl, hH, hV, hG, G, g0, hg1, hgb, k⟩ := h
  have hgl : g.2.length ≤ 10000 := by rw [hgb.1]; have := G.t3; omega
  refine ⟨[some (houseD h), some (standD s0), some (goalD g), none, none, none, none, none, none], .none, repAll (.cons (rSome (.inl hH)) (.cons (rSome (.inl hV)) (.cons (rSome (.inl hG)) (.cons rNone (.cons rNone (.cons rNone (.cons rNone (.cons rNone (.cons rNone .nil))))))))), by simp [need_wish_ok G g0 hg1 hgb], fun v1 H1 s1 r1 => ?_⟩
  intro Pa oP hPa ntP kdP Wa hWa
  have sP : Same H1 (upd H1 Pa oP) := Same.new hPa
  have sW : Same (upd H1 Pa oP) (upd (upd H1 Pa oP) Wa (.dK [])) := Same.new hWa
  have hPa0 : H Pa = none := Same.back s1 hPa
  have hWa0 : H Wa = none := Same.back (s1.trans sP) hWa
  refine ⟨_, rfl, by show 1 ≤ sizeLine; decide, fun La hLa => ?_⟩
  have sL : Same (upd (upd H1 Pa oP) Wa (.dK [])) (upd (upd (upd H1 Pa oP) Wa (.dK [])) La (.lst [v])) := Same.new hLa
  have hLa0 : H La = none := Same.back ((s1.trans sP).trans sW) hLa
  have hWL : upd (upd (upd H1 Pa oP) Wa (.dK [])) La (.lst [v]) Wa = some (.dK []) := sL _ _ upd_same
  refine ⟨hWL, [(.inl 0, .ref La)], rfl, by simp, ?_⟩
  refine ⟨_, _, rfl, ?_⟩
  have nLW : La ≠ Wa := fun z => by
    rw [z, upd_same] at hLa
    cases hLa
  have smI : Same H (upd (upd (upd (upd H1 Pa oP) Wa (.dK [])) La (.lst [v])) Wa (.dK (mergeK [] [(.inl 0, .ref La)]))) := Same.mut (((s1.trans sP).trans sW).trans sL) hWa0
  have tkI : TK H1 (upd (upd (upd (upd H1 Pa oP) Wa (.dK [])) La (.lst [v])) Wa (.dK (mergeK [] [(.inl 0, .ref La)]))) := ((same_tk sP).trans ((same_tk sW).trans (same_tk sL))).trans (TK.updO hWL fun _ z => nomatch z)
  have fdI : FD P w K (upd (upd (upd (upd H1 Pa oP) Wa (.dK [])) La (.lst [v])) Wa (.dK (mergeK [] [(.inl 0, .ref La)]))) Pa (pT []) := by
    have h0 : FD P w K (upd H1 Pa oP) Pa (pT []) := ⟨[], kdP, .nil⟩
    have h1 := (h0.same sW).same sL
    obtain ⟨φ, hφ⟩ := h1.ex
    exact h1.other hWL (fun _ z => nomatch z) (ne_of hφ hWL fun z => nomatch z)
  have hLaI : upd (upd (upd (upd H1 Pa oP) Wa (.dK [])) La (.lst [v])) Wa (.dK (mergeK [] [(.inl 0, .ref La)])) La = some (.lst [v]) := by rw [upd_ne nLW]; exact upd_same
  have wrI : WR K H (upd (upd (upd (upd H1 Pa oP) Wa (.dK [])) La (.lst [v])) Wa (.dK (mergeK [] [(.inl 0, .ref La)]))) [(.inl 0, .ref La)] [(0, [s0])] :=
    ⟨.cons ⟨rfl, La, [v], rfl, hLaI, .cons ((hV.mono (same_tk s1)).mono tkI) .nil⟩ .nil, by simp, fun p hp b e => by
      rw [List.mem_singleton.mp hp] at e
      cases e
      exact hLa0, by simp⟩
  refine ⟨fun m σ' H' => ∃ (Pp : Pd) (W : Wt) (kvs : List (Key × V)) (y5 y6 y7 y8 : Option V), σ' = [some hv, some v, some gv, some (.ref Pa), some (.ref Wa), y5, y6, y7, y8] ∧ m = 13 * (2058 - Pp.length) + cnt W ∧ Same H H' ∧ FD P w K H' Pa (pT Pp) ∧ H' Wa = some (.dK kvs) ∧ WR K H H' kvs W ∧ CInv h s0 g Pp W ∧ (∀ q ∈ W, q.2 ≠ []) ∧ cnt W ≤ 13 * Pp.length + 1,
    ⟨_, [], [(0, [s0])], _, none, none, none, none, rfl, rfl, smI, fdI, upd_same, wrI, CInv.init g0, by simp, by simp [cnt]⟩, ?_⟩
  rintro m σ' H' ⟨Pp, W, kvs, y5, y6, y7, y8, rfl, rfl, sm, fdP, hWd, wr, I, hne, hcnt⟩
  have lenP : Pp.length ≤ 2058 := by
    have := few G I.nodup fun s hs => by
      obtain ⟨e, he, rfl⟩ := List.mem_map.mp hs
      exact I.pgood e.1 e.2 he
    rwa [List.length_map] at this
  refine ⟨_, rfl, fun Ea hEa => ?_⟩
  have sE : Same H' (upd H' Ea (.dK [])) := Same.new hEa
  have smE := sm.trans sE
  have fdE := fdP.same sE
  have wrE := wr.same sE
  have hWE := sE _ _ hWd
  refine ⟨Wa, Ea, kvs, rfl, rfl, hWE, upd_same, _, rfl, ?_⟩
  generalize upd H' Ea (.dK []) = HE at smE fdE wrE hWE ⊢
  cases W with
  | nil =>
    have : kvs = [] := by
      cases wr.rel
      rfl
    subst this
    refine iteF ?_
    exact k .non HE smE (.inl ⟨rfl, fun r hr => I.none_ hr⟩)
  | cons q0 W0 =>
    have hkne : (!kvs.isEmpty) = true := by
      cases kvs with
      | nil => cases wr.rel
      | cons _ _ => rfl
    rw [hkne]
    refine iteT ?_
    generalize hWeq : q0 :: W0 = W at hcnt hne wr wrE I
    refine ⟨fun σ'' H'' => ∃ (Pp' : Pd) (W' : Wt) (kvs' : List (Key × V)) (z5 z6 z7 z8 : Option V), σ'' = [some hv, some v, some gv, some (.ref Pa), some (.ref Wa), z5, z6, z7, z8] ∧ 13 * (2058 - Pp'.length) + cnt W' < 13 * (2058 - Pp.length) + cnt W ∧ Same H H'' ∧ FD P w K H'' Pa (pT Pp') ∧ H'' Wa = some (.dK kvs') ∧ WR K H H'' kvs' W' ∧ CInv h s0 g Pp' W' ∧ (∀ q ∈ W', q.2 ≠ []) ∧ cnt W' ≤ 13 * Pp'.length + 1,
      fun σ'' H'' ⟨Pp', W', kvs', z5, z6, z7, z8, e1, e2, e3⟩ => ⟨13 * (2058 - Pp'.length) + cnt W', e2, Pp', W', kvs', z5, z6, z7, z8, e1, rfl, e3⟩, ?_⟩
    have hkeys := wrel_keys wrE.rel
    refine ⟨_, rfl, Wa, kvs, W.map fun q => (q.1 : Int), rfl, hWE, by rw [hkeys, List.map_map]; rfl, by rw [← hWeq]; simp, fun mm hmem hmin => ?_⟩
    obtain ⟨⟨m0, l⟩, hq, rfl⟩ := List.mem_map.mp hmem
    have hmin0 : ∀ c s, InW W c s → m0 ≤ c := fun c s ⟨l1, w1, _⟩ => by
      have := hmin (c : Int) (List.mem_map.mpr ⟨_, w1, rfl⟩)
      simp only at this
      omega
    obtain ⟨A, B, rfl⟩ := List.append_of_mem hq
    obtain ⟨l', x, rfl⟩ : ∃ l' x, l = l' ++ [x] := by
      rcases List.eq_nil_or_concat l with e | ⟨l', x, e⟩
      · exact absurd e (hne (m0, l) hq)
      · exact ⟨l', x, by rw [e, List.concat_eq_append]⟩
    have hx : InW (A ++ (m0, l' ++ [x]) :: B) m0 x := ⟨l' ++ [x], hq, by simp⟩
    obtain ⟨k1, k2, b, xs, rfl, w1, w2, hb, him, hb0, hval, hdrop⟩ := wrE.at_
    rw [List.map_append] at him
    obtain ⟨xs', xv, rfl, him', imx⟩ := im_last him
    have dg : DGet HE Wa (.int (m0 : Int)) (some (.ref b)) := by
      have := DGet.k (k := Sum.inl (m0 : Int)) hWE
      rw [hval] at this
      exact this
    refine ⟨_, rfl, _, rfl, Wa, .ref b, rfl, dg, .inl ⟨rfl, _, SqL.of hb⟩, ?_⟩
    refine ⟨b, xs' ++ [xv], xv, rfl, rfl, hb, by simp, ?_⟩
    rw [List.dropLast_concat]
    have nbW : b ≠ Wa := ne_of hb hWE (fun z => nomatch z)
    have tkB : TK HE (upd HE b (.lst xs')) := TK.updL hb
    have wrB : WR K H (upd HE b (.lst xs')) (k1 ++ (.inl (m0 : Int), .ref b) :: k2) (A ++ (m0, l') :: B) := wrE.set hb him' w1 w2
    have smB : Same H (upd HE b (.lst xs')) := Same.mut smE hb0
    obtain ⟨φP, hφP⟩ := fdE.ex
    have fdB : FD P w K (upd HE b (.lst xs')) Pa (pT Pp) := fdE.other hb (fun _ z => nomatch z) (ne_of hφP hb fun z => nomatch z)
    have hWB : upd HE b (.lst xs') Wa = some (.dK (k1 ++ (.inl (m0 : Int), .ref b) :: k2)) := by rw [upd_ne nbW.symm]; exact hWE
    have hbB : upd HE b (.lst xs') b = some (.lst xs') := upd_same
    have imxB := imx.mono tkB
    have imlB := him'.mono tkB
    generalize upd HE b (.lst xs') = HB at wrB smB fdB hWB hbB imxB imlB ⊢
    have cA : cnt (A ++ (m0, l' ++ [x]) :: B) = cnt (A ++ (m0, l') :: B) + 1 := by
      rw [cnt_app, cnt_app, cnt_cons, cnt_cons]
      simp
      omega
    have gx : GoodS h x := (I.good m0 x hx).1
    -- the test that drops an empty list
    have step : ∀ (D : Ends) (σ5 : L2.St), σ5[4]? = some (some (V.ref Wa)) → σ5[5]? = some (some (V.int (m0 : Int))) → (∀ (H5 : Hp) (kvs2 : List (Key × V)) (W2 : Wt), Same H H5 → TK HB H5 → FD P w K H5 Pa (pT Pp) → H5 Wa = some (.dK kvs2) → WR K H H5 kvs2 W2 → Less (A ++ (m0, l' ++ [x]) :: B) W2 m0 x → cnt W2 = cnt (A ++ (m0, l') :: B) → (∀ q ∈ W2, q.2 ≠ []) → D.nx σ5 H5) →
        tIfS (tTest (tOp (rEqP K) (tDGet (tVar 4) (tVar 5)) (tLst tNil))) (tDrop (tDPop1 (tVar 4) (tVar 5))) tNext D σ5 HB := by
      intro D σ5 hs4 hs5 hD
      obtain ⟨k1', k2', b', xs2, ek, _, _, _, _, _, hval', hdrop'⟩ := wrB.at_
      have hbb : b' = b := by
        have h1 := DGet.k (k := Sum.inl (m0 : Int)) hWB
        have kn := wrB.kn
        have hv2 : valV (k1 ++ (.inl (m0 : Int), .ref b) :: k2) (.inl (m0 : Int)) = some (.ref b) := hval
        rw [hv2] at hval'
        injection hval' with z
        injection z with z
        exact z.symm
      have dg' : DGet HB Wa (.int (m0 : Int)) (some (.ref b)) := by
        have := DGet.k (k := Sum.inl (m0 : Int)) hWB
        rw [hval] at this
        exact this
      refine ⟨_, hs4, _, hs5, Wa, .ref b, rfl, dg', Nat.zero_le _, fun Fa hFa => ?_⟩
      have sF : Same HB (upd HB Fa (.lst [])) := Same.new hFa
      refine ⟨.list (l'.map standD), .list [], .inr ⟨b, xs', _, rfl, rfl, sF _ _ hbB, imlB.mono (same_tk sF)⟩, .inr ⟨Fa, [], [], rfl, rfl, upd_same, .nil⟩, ?_, _, rfl, ?_⟩
      · have := depthAll_le (n := 7) (F := standD) (l := l') fun s _ => depth_stand7 s
        show PyData.depthAll (l'.map standD) + 1 ≤ 8
        omega
      · cases l' with
        | nil =>
          have : PyData.eqv (.list (([] : List Stand).map standD)) (.list []) = true := rfl
          rw [this]
          refine iteT ?_
          have hWF := sF _ _ hWB
          have wrF := wrB.same sF
          refine ⟨_, hs4, Wa, rfl, .inl ⟨_, .inl hWF⟩, _, hs5, _, .inl (m0 : Int), .ref b, hWF, rfl, hval, ?_⟩
          rw [hdrop]
          have w1F : WRel K (upd HB Fa (.lst [])) k1 A := by
            obtain ⟨j1, p1, j2, e1, g1, g2, g3⟩ := paired_split wrF.rel
            have hl1 : j1.length = k1.length := by rw [Paired.length g1, Paired.length w1]
            have := List.append_inj_left e1 hl1.symm
            rw [this]
            exact g1
          have w2F : WRel K (upd HB Fa (.lst [])) k2 B := by
            obtain ⟨j1, p1, j2, e1, g1, g2, g3⟩ := paired_split wrF.rel
            have hl1 : j1.length = k1.length := by rw [Paired.length g1, Paired.length w1]
            have := List.append_inj_right e1 hl1.symm
            injection this with _ this
            rw [this]
            exact g3
          have wrD := wrF.drop w1F w2F
          refine hD _ (k1 ++ k2) (A ++ B) (Same.mut (smB.trans sF) hWa0) ((same_tk sF).trans (TK.updO hWF fun _ z => nomatch z)) ?_ upd_same (wrD.other hWF (fun _ z => nomatch z) (fun _ z => nomatch z)) less_drop ?_ fun q hq => hne q ?_
          · have f1 := fdB.same sF
            obtain ⟨φ, hφ⟩ := f1.ex
            exact f1.other hWF (fun _ z => nomatch z) (ne_of hφ hWF fun z => nomatch z)
          · rw [cnt_app, cnt_app, cnt_cons]
            simp
          · rcases List.mem_append.mp hq with z | z
            · exact List.mem_append_left _ z
            · exact List.mem_append_right _ (List.mem_cons_of_mem _ z)
        | cons y l2 =>
          have : PyData.eqv (.list ((y :: l2).map standD)) (.list []) = false := rfl
          rw [this]
          refine iteF ?_
          refine hD _ _ _ (smB.trans sF) (same_tk sF) (fdB.same sF) (sF _ _ hWB) (wrB.same sF) less_set rfl fun q hq => ?_
          rcases List.mem_append.mp hq with z | z
          · exact hne q (List.mem_append_left _ z)
          · rcases List.mem_cons.mp z with z | z
            · rw [z]
              simp
            · exact hne q (List.mem_append_right _ (List.mem_cons_of_mem _ z))
    refine step _ _ rfl rfl fun H5 kvs2 W2 sm5 tk5 fd5 hW5 wr5 L5 c5 ne5 => ?_
    have imx5 := imxB.mono tk5
    clear step
    obtain ⟨kvP, kdP5, kis⟩ := fd5.isSome (nkD (standD x))
    refine ⟨_, rfl, _, rfl, Pa, kvP, standD x, rfl, kdP5, keyD_stand imx5, _, rfl, ?_⟩
    rw [kis]
    by_cases hin : x ∈ Pp.map (·.1)
    · have : (dGet (pT Pp) (nkD (standD x))).isSome = true := by
        cases q : dGet (pT Pp) (nkD (standD x)) with
        | none => exact absurd hin (pT_none.mp q)
        | some _ => rfl
      rw [this]
      refine iteF ?_
      obtain ⟨⟨x', k0⟩, hk0, rfl⟩ := List.mem_map.mp hin
      exact ⟨Pp, W2, kvs2, _, _, _, _, rfl, by omega, sm5, fd5, hW5, wr5, I.skip L5 hx hk0, ne5, by omega⟩
    · have hno := pT_none.mpr hin
      rw [hno]
      refine iteT ?_
      refine ⟨[none, none, some (goalD g), none, none, none, some (standD x), none, none], isThere g x, repAll (.cons rNone (.cons rNone (.cons (rSome (.inl (hG.mono (same_tk sm5)))) (.cons rNone (.cons rNone (.cons rNone (.cons (rSome (.inl imx5)) (.cons rNone (.cons rNone .nil))))))))), ?_, fun H6 s6 => ?_⟩
      · unfold tE
        simp [there_ok hgl]
      cases hth : isThere g x with
      | true =>
        refine iteT ?_
        obtain ⟨r, e1, e2, e3⟩ := (I.good m0 x hx).2
        exact ⟨_, rfl, k _ H6 (sm5.trans s6) (.inr ⟨m0, rfl, ⟨r, ⟨e1, x, e2, hth⟩, e3⟩, fun r hr => I.least hmin0 hr⟩)⟩
      | false =>
        refine iteF ?_
        have fd6 := fd5.same s6
        obtain ⟨kvs8, kd8, kn, kl, kput⟩ := fd6.none hno
        refine ⟨_, rfl, _, rfl, Pa, kvs8, standD x, rfl, kd8, keyD_stand (imx5.mono (same_tk s6)), kn, ?_, fun ob nt kdo => ?_⟩
        · rw [kl]
          unfold pT
          rw [List.length_map]
          exact Nat.lt_of_le_of_lt lenP (by decide)
        obtain ⟨φ6, hφ6⟩ := fd6.ex
        have tkF : TK H6 (upd H6 Pa ob) := TK.updO hφ6 fun _ z => nomatch z
        have hW6 := s6 _ _ hW5
        have fd7 := kput _ (standD x) (.bl true) (.bool true) rfl tkF (.bl true) kdo
        have fd7 : FD P w K (upd H6 Pa ob) Pa (pT (Pp ++ [(x, m0)])) := by
          have : pT (Pp ++ [(x, m0)]) = pT Pp ++ [(standD x, .bool true)] := by simp [pT]
          rw [this]
          exact fd7
        have sm7 : Same H (upd H6 Pa ob) := Same.mut (sm5.trans s6) hPa0
        have hW7 : upd H6 Pa ob Wa = some (.dK kvs2) := by rw [upd_ne (ne_of hφ6 hW6 fun z => nomatch z).symm]; exact hW6
        have wr7 : WR K H (upd H6 Pa ob) kvs2 W2 := (wr5.same s6).other hφ6 (fun _ z => nomatch z) (fun _ z => nomatch z)
        have imx7 := (imx5.mono (same_tk s6)).mono tkF
        generalize upd H6 Pa ob = H7 at fd7 sm7 hW7 wr7 imx7 ⊢
        have MI := I.pay L5 hx hmin0 hin hth
        have lenQ : (Pp ++ [(x, m0)]).length ≤ 2058 := by
          have := few G MI.nodup fun s hs => by
            obtain ⟨e, he, rfl⟩ := List.mem_map.mp hs
            exact MI.pgood e.1 e.2 he
          rwa [List.length_map] at this
        rw [List.length_append, List.length_singleton] at lenQ
        have hmx : ∀ s k, (s, k) ∈ Pp ++ [(x, m0)] → k ≤ m0 := fun s k hs => by
          rcases List.mem_append.mp hs with hs | hs
          · exact I.mono s k hs m0 x hx
          · have := List.mem_singleton.mp hs
            injection this with _ e
            omega
        refine ⟨[some (houseD h), none, none, none, none, none, some (standD x), none, none], (nexts h x).map nxD, repAll (.cons (rSome (.inl (hH.mono (same_tk sm7)))) (.cons rNone (.cons rNone (.cons rNone (.cons rNone (.cons rNone (.cons (rSome (.inl imx7)) (.cons rNone (.cons rNone .nil))))))))), next_ok G gx, fun Na xs H8 hN s8 hNa hims => ?_⟩
        have nxl : (nexts h x).length ≤ 12 := by
          unfold nexts
          rw [List.length_map]
          exact Nat.le_trans (List.length_filter_le _ _) (deeds_len G)
        refine ⟨Na, rfl, ⟨xs, SqL.of hNa⟩, for_it (walk_list (xs := xs)) (fun j σ9 H9 => ∃ (W3 : Wt) (kvs3 : List (Key × V)) (z7 z8 : Option V), σ9 = [some hv, some v, some gv, some (.ref Pa), some (.ref Wa), some (.int (m0 : Int)), some xv, z7, z8] ∧ Same H H9 ∧ FD P w K H9 Pa (pT (Pp ++ [(x, m0)])) ∧ H9 Wa = some (.dK kvs3) ∧ WR K H H9 kvs3 W3 ∧ MInv h s0 g (Pp ++ [(x, m0)]) W3 m0 x ((nexts h x).take j) ∧ (∀ q ∈ W3, q.2 ≠ []) ∧ cnt W3 = cnt W2 + j ∧ H9 Na = some (.lst xs) ∧ ImAll K H9 xs ((nexts h x).map nxD) ∧ Im K H9 xv (standD x) ∧ ∀ p ∈ kvs3, p.2 ≠ .ref Na)
          ⟨W2, kvs2, _, _, rfl, sm7.trans s8, fd7.same s8, s8 _ _ hW7, wr7.same s8, MI, ne5, rfl, hNa, hims, imx7.mono (same_tk s8), fun p hp z => ?_⟩ (fun j σ9 H9 _ ⟨_, _, _, _, _, _, _, _, _, _, _, _, e, _⟩ => SqL.of e) ?_ ?_⟩
        · have : ∃ b xs, p.2 = .ref b ∧ H7 b = some (.lst xs) := by
            have hr := wr7.rel
            clear hN
            revert hp
            generalize kvs2 = kk at hr
            generalize W2 = ww at hr
            intro hp
            induction hr with
            | nil => cases hp
            | cons a _ ih =>
              rcases List.mem_cons.mp hp with e | hp
              · obtain ⟨_, b, xs, e1, e2, _⟩ := a
                exact ⟨b, xs, by rw [e]; exact e1, e2⟩
              · exact ih hp
          obtain ⟨b2, xs2, e1, e2⟩ := this
          rw [e1] at z
          injection z with z
          rw [z, hN] at e2
          cases e2
        · rintro j pv9 σ9 H90 H9 hj ⟨W3, kvs3, z7, z8, rfl, q1, q2, q3, q4, q5, q6, q7, q8, q9, q10, q11⟩ ⟨rfl, hpv⟩
          obtain ⟨dd, hdd, imp⟩ := q9.get' hpv
          rw [List.getElem?_map] at hdd
          obtain ⟨⟨dp, op⟩, hp, rfl⟩ := Option.map_eq_some_iff.mp hdd
          obtain ⟨gd, cd, ed⟩ := nexts_of (List.mem_of_getElem? hp)
          have ed : op = done h x dp := ed
          subst ed
          obtain ⟨ta, v7, v8, rfl, hta, i7, i8⟩ := imp.pair
          have tk1 : (nexts h x).take (j + 1) = (nexts h x).take j ++ [(dp, done h x dp)] := by rw [List.take_add_one, hp]; rfl
          have hjl := im_len q9
          have cnt3 : cnt W3 ≤ 30000 := by omega
          have lenW3 := len_cnt q6
          have lenK3 : kvs3.length = W3.length := Paired.length q4.rel
          refine ⟨ta, [v7, v8], rfl, SqT.of hta, rfl, v7, [v8], rfl, v8, [], rfl, rfl, ?_⟩
          refine ⟨_, rfl, Wa, rfl, .inl ⟨_, .inl q3⟩, ?_⟩
          refine ⟨[some (houseD h), none, none, none, none, some (.int (m0 : Int)), some (standD x), some (deedD dp), none], .int ((m0 + price h x.1 dp : Nat) : Int), repAll (.cons (rSome (.inl (hH.mono (same_tk q1)))) (.cons rNone (.cons rNone (.cons rNone (.cons rNone (.cons (rSome (.inl (.int _))) (.cons (rSome (.inl q10)) (.cons (rSome (.inl i7)) (.cons rNone .nil))))))))), ?_, fun vi H10 s10 r10 => ?_⟩
          · have na := can_away cd
            simp [price_ok na, standD]
          rw [r10.int]
          refine ⟨Nat.zero_le _, fun Ld hLd => ?_⟩
          have sD : Same H10 (upd H10 Ld (.lst [])) := Same.new hLd
          have s11 := s10.trans sD
          have t11 := q1.trans s11
          have hLd0 : H Ld = none := Same.back (q1.trans s10) hLd
          have fd11 := q2.same s11
          have hW11 := s11 _ _ q3
          have wr11 := q4.same s11
          have hNa11 := s11 _ _ q8
          have hLd11 : upd H10 Ld (.lst []) Ld = some (.lst []) := upd_same
          have i8' := i8.mono (same_tk s11)
          have nLdN : Na ≠ Ld := ne_of_none (s10 _ _ q8) hLd
          have lfr : ∀ p ∈ kvs3, p.2 ≠ .ref Ld := fun p hp z => by
            have : ∃ b xs, p.2 = .ref b ∧ H10 b = some (.lst xs) := by
              have hr := (q4.same s10).rel
              revert hp
              generalize kvs3 = kk at hr
              generalize W3 = ww at hr
              intro hp
              induction hr with
              | nil => cases hp
              | cons a _ ih =>
                rcases List.mem_cons.mp hp with e | hp
                · obtain ⟨_, b, xs, e1, e2, _⟩ := a
                  exact ⟨b, xs, by rw [e]; exact e1, e2⟩
                · exact ih hp
            obtain ⟨b2, xs2, e1, e2⟩ := this
            rw [e1] at z
            injection z with z
            rw [z, hLd] at e2
            cases e2
          generalize upd H10 Ld (.lst []) = H11 at s11 t11 fd11 hW11 wr11 hNa11 hLd11 i8' ⊢
          refine ⟨kvs3, .inl ((m0 + price h x.1 dp : Nat) : Int), hW11, rfl, Nat.lt_of_le_of_lt (show kvs3.length ≤ 30000 by omega) (by decide), fun vv hvv => ?_, fun hvn => ?_⟩
          · by_cases hk : (m0 + price h x.1 dp) ∈ W3.map (·.1)
            · obtain ⟨⟨c0, l0⟩, hq0, hc0⟩ := List.mem_map.mp hk
              simp only at hc0
              subst hc0
              obtain ⟨A3, B3, rfl⟩ := List.append_of_mem hq0
              obtain ⟨j1, j2, b3, xs3, rfl, u1, u2, hb3, im3, hb30, hv3, _⟩ := wr11.at_
              rw [hv3] at hvv
              injection hvv with hvv
              subst hvv
              have lx3 := im_len im3
              have lc3 : l0.length ≤ cnt (A3 ++ (m0 + price h x.1 dp, l0) :: B3) := by
                rw [cnt_app, cnt_cons]
                simp only
                omega
              refine ⟨.inl ⟨rfl, _, SqL.of hb3⟩, _, rfl, b3, xs3, v8, rfl, rfl, hb3, Nat.lt_of_le_of_lt (show xs3.length ≤ 30000 by omega) (by decide), ?_⟩
              have tk12 : TK H11 (upd H11 b3 (.lst (xs3 ++ [v8]))) := TK.updL hb3
              obtain ⟨φ11, hφ11⟩ := fd11.ex
              refine ⟨A3 ++ (m0 + price h x.1 dp, l0 ++ [done h x dp]) :: B3, _, _, _, rfl, Same.mut t11 hb30, fd11.other hb3 (fun _ z => nomatch z) (ne_of hφ11 hb3 fun z => nomatch z), by rw [upd_ne (ne_of hb3 hW11 fun z => nomatch z).symm]; exact hW11, wr11.set hb3 (by rw [List.map_append]; exact im3.snoc i8') u1 u2, ?_, ?_, ?_, ?_, (q9.mono (same_tk s11)).mono tk12, (q10.mono (same_tk s11)).mono tk12, q11⟩
              · rw [tk1]
                exact q5.put G hmx gd cd more_set
              · intro q hq
                rcases List.mem_append.mp hq with z | z
                · exact q6 q (List.mem_append_left _ z)
                · rcases List.mem_cons.mp z with z | z
                  · rw [z]
                    simp
                  · exact q6 q (List.mem_append_right _ (List.mem_cons_of_mem _ z))
              · rw [cnt_app, cnt_cons] at q7 ⊢
                simp
                simp only at q7
                omega
              · have : Na ≠ b3 := fun z => by
                  subst z
                  exact q11 (.inl ((m0 + price h x.1 dp : Nat) : Int), .ref Na) (by simp) rfl
                rw [upd_ne this]
                exact hNa11
            · rw [valV_none wr11.rel hk] at hvv
              cases hvv
          · have hk : (m0 + price h x.1 dp) ∉ W3.map (·.1) := fun hk => by
              obtain ⟨⟨c0, l0⟩, hq0, hc0⟩ := List.mem_map.mp hk
              simp only at hc0
              subst hc0
              obtain ⟨A3, B3, rfl⟩ := List.append_of_mem hq0
              obtain ⟨j1, j2, b3, xs3, ek, u1, u2, hb3, im3, hb30, hv3, _⟩ := wr11.at_
              rw [hv3] at hvn
              cases hvn
            rw [putK_new _ hvn]
            have nLW : Ld ≠ Wa := ne_of hLd11 hW11 (fun z => nomatch z)
            have hLd12 : upd H11 Wa (.dK (kvs3 ++ [(.inl ((m0 + price h x.1 dp : Nat) : Int), .ref Ld)])) Ld = some (.lst []) := by rw [upd_ne nLW]; exact hLd11
            have tk12 : TK H11 (upd H11 Wa (.dK (kvs3 ++ [(.inl ((m0 + price h x.1 dp : Nat) : Int), .ref Ld)]))) := TK.updO hW11 fun _ z => nomatch z
            obtain ⟨φ11, hφ11⟩ := fd11.ex
            have fd12 : FD P w K (upd H11 Wa (.dK (kvs3 ++ [(.inl ((m0 + price h x.1 dp : Nat) : Int), .ref Ld)]))) Pa (pT (Pp ++ [(x, m0)])) := fd11.other hW11 (fun _ z => nomatch z) (ne_of hφ11 hW11 fun z => nomatch z)
            have wr12 : WR K H (upd H11 Wa (.dK (kvs3 ++ [(.inl ((m0 + price h x.1 dp : Nat) : Int), .ref Ld)]))) kvs3 W3 := wr11.other hW11 (fun _ z => nomatch z) (fun _ z => nomatch z)
            have sm12 : Same H (upd H11 Wa (.dK (kvs3 ++ [(.inl ((m0 + price h x.1 dp : Nat) : Int), .ref Ld)]))) := Same.mut t11 hWa0
            have hW12 : upd H11 Wa (.dK (kvs3 ++ [(.inl ((m0 + price h x.1 dp : Nat) : Int), .ref Ld)])) Wa = some (.dK (kvs3 ++ [(.inl ((m0 + price h x.1 dp : Nat) : Int), .ref Ld)])) := upd_same
            have hNa12 : upd H11 Wa (.dK (kvs3 ++ [(.inl ((m0 + price h x.1 dp : Nat) : Int), .ref Ld)])) Na = some (.lst xs) := by rw [upd_ne (ne_of hNa11 hW11 fun z => nomatch z)]; exact hNa11
            generalize upd H11 Wa (.dK (kvs3 ++ [(.inl ((m0 + price h x.1 dp : Nat) : Int), .ref Ld)])) = H12 at hLd12 tk12 fd12 wr12 sm12 hW12 hNa12 ⊢
            refine ⟨.inl ⟨rfl, _, SqL.of hLd12⟩, _, rfl, Ld, [], v8, rfl, rfl, hLd12, by decide, ?_⟩
            have tk13 : TK H12 (upd H12 Ld (.lst ([] ++ [v8]))) := TK.updL hLd12
            obtain ⟨φ12, hφ12⟩ := fd12.ex
            have wr13 : WR K H (upd H12 Ld (.lst ([] ++ [v8]))) kvs3 W3 := ⟨wr12.rel.mono tk13 fun p hp c ys e hc => by
              rw [upd_ne (fun z => lfr p hp (by rw [e, z]))]
              exact hc, wr12.nd, wr12.fr, wr12.kn⟩
            refine ⟨W3 ++ [(m0 + price h x.1 dp, [done h x dp])], _, _, _, rfl, Same.mut sm12 hLd0, fd12.other hLd12 (fun _ z => nomatch z) (ne_of hφ12 hLd12 fun z => nomatch z), by rw [upd_ne nLW.symm]; exact hW12, wr13.new hk upd_same lfr hLd0 (.cons ((i8'.mono tk12).mono tk13) .nil), ?_, ?_, ?_, ?_, ((q9.mono (same_tk s11)).mono tk12).mono tk13, ((q10.mono (same_tk s11)).mono tk12).mono tk13, fun p hp => ?_⟩
            · rw [tk1]
              exact q5.put G hmx gd cd more_new
            · intro q hq
              rcases List.mem_append.mp hq with z | z
              · exact q6 q z
              · rw [List.mem_singleton.mp z]
                simp
            · rw [cnt_app, q7]
              simp [cnt]
              omega
            · rw [upd_ne nLdN]
              exact hNa12
            · rcases List.mem_append.mp hp with z | z
              · exact q11 p z
              · rw [List.mem_singleton.mp z]
                intro z2
                injection z2 with z2
                exact nLdN z2.symm
        · rintro σ9 H9 ⟨W3, kvs3, z7, z8, rfl, q1, q2, q3, q4, q5, q6, q7, q8, q9, q10, q11⟩
          have hxl := im_len q9
          rw [hxl, List.take_length] at q5
          refine ⟨Pp ++ [(x, m0)], W3, kvs3, _, _, _, _, rfl, ?_, q1, q2, q3, q4, q5.fin, q6, ?_⟩
          · rw [List.length_append, List.length_singleton]
            omega
          · rw [List.length_append, List.length_singleton]
            omega
end
end Wk

set_option maxHeartbeats 4000000
/-! the law's pen: draws -/
namespace Wk
open PySem L2 PyProof.Rows
/-! ### all but the pen stays -/
def Fr (p : Addr) (H H' : Hp) : Prop := ∀ a o, a ≠ p → H a = some o → H' a = some o
def PenAt (H : Hp) (p : Addr) (n : Nat) : Prop := ∃ a b c : Int, H p = some (.lst [.int a, .int b, .int c]) ∧ 0 ≤ a ∧ 0 ≤ b ∧ b ≤ 2000000000 ∧ 0 ≤ c ∧ c ≤ (n : Int)
section
variable {p : Addr} {H H' H'' : Hp} {n m : Nat}
theorem Fr.refl : Fr p H H := fun _ _ _ h => h
theorem Fr.trans (a : Fr p H H') (b : Fr p H' H'') : Fr p H H'' := fun c o n h => b c o n (a c o n h)
theorem Fr.of (s : Same H H') : Fr p H H' := fun a o _ h => s a o h
theorem Fr.tk (f : Fr p H H') (h : PenAt H p n) : TK H H' := fun a xs e => by
  obtain ⟨_, _, _, hp, _⟩ := h
  exact f a _ (ne_of e hp fun z => nomatch z) e
theorem Fr.mut {b : Addr} {o : HO} (f : Fr p H H') (h : H b = none) : Fr p H (upd H' b o) := fun a u n e => by
  rw [upd_ne (ne_of_none e h)]
  exact f a u n e
theorem Fr.pen {o : HO} (f : Fr p H H') : Fr p H (upd H' p o) := fun a u n e => by
  rw [upd_ne n]
  exact f a u n e
theorem PenAt.same (s : Same H H') (h : PenAt H p n) : PenAt H' p n := by
  obtain ⟨a, b, c, h1, h2⟩ := h
  exact ⟨a, b, c, s _ _ h1, h2⟩
theorem PenAt.le (h : PenAt H p n) (e : n ≤ m) : PenAt H p m := by
  obtain ⟨a, b, c, h1, h2, h3, h4, h5, h6⟩ := h
  exact ⟨a, b, c, h1, h2, h3, h4, h5, by omega⟩
theorem PenAt.ne {xs : List V} {b : Addr} (h : PenAt H p n) (hb : H b = some (.tup xs)) : b ≠ p := by
  obtain ⟨_, _, _, hp, _⟩ := h
  exact ne_of hb hp fun z => nomatch z
theorem PenAt.other {b : Addr} {o : HO} (h : PenAt H p n) (ne : p ≠ b) : PenAt (upd H b o) p n := by
  obtain ⟨a, b', c, h1, h2⟩ := h
  exact ⟨a, b', c, by rw [upd_ne ne]; exact h1, h2⟩
theorem PenAt.some_ (h : PenAt H p n) : ∃ o, H p = some o := let ⟨_, _, _, h1, _⟩ := h; ⟨_, h1⟩
end
/-! ### a product whose left side is below 2 ^ 64 -/
def mulW : PyData → PyData → Option PyData
  | .int i, .int j => if -(2 ^ 64) < i ∧ i < 2 ^ 64 then some (.int (i * j)) else none
  | _, _ => none
theorem mulW_ok {K : PySem.W.Frag} : OpD K (rI CMul fun i j => .int (i * j)) mulW := by
  intro x y H Q a b d ra rb h k
  unfold mulW at h
  split at h
  · split at h
    · rename_i hc
      cases h
      rw [ra.int, rb.int]
      exact ⟨_, _, rfl, rfl, .inl hc, k _ H (Same.refl H) (.inl (.int _))⟩
    · cases h
  · cases h
theorem pd_mulW {X : Cx} {a b : Expr} {fa fb : Ev} {pos : Pos} (ha : PE X a (tD X.K fa)) (hb : PE X b (tD X.K fb)) : PE X (.BinOp a .Mult b pos) (tD X.K (op2 mulW fa fb)) := pd_op op_mul mulW_ok ha hb
theorem mulW_int {i j : Int} (h : -(2 ^ 64) < i ∧ i < 2 ^ 64) : mulW (.int i) (.int j) = some (.int (i * j)) := by
  show (if -(2 ^ 64) < i ∧ i < 2 ^ 64 then some (PyData.int (i * j)) else none) = _
  rw [if_pos h]
theorem modD_int {i j : Int} (h : 0 < j) : modD (.int i) (.int j) = some (.int (i % j)) := by
  show (if 0 < j then some (PyData.int (i % j)) else none) = _
  rw [if_pos h]
theorem fdivD_int {i j : Int} (h : 0 < j ∧ j < 1000) : fdivD (.int i) (.int j) = some (.int (i / j)) := by
  show (if 0 < j ∧ j < 1000 then some (PyData.int (i / j)) else none) = _
  rw [if_pos h]
section
variable {P : Program} {w : World} {K : PySem.W.Frag} {mg : Str → Option Value} {base : Heap}
abbrev n_law_draw : List Str := ["_law_pen_here", "_law_many", "_law_digit", "_law_stir"]
theorem sc_law_draw : FnScope n_law_draw ["_law_pen_here", "_law_many"] (defScope (top 101)) := ⟨rfl, rfl, rfl, by decide +kernel, rfl, by decide +kernel, by decide +kernel⟩
def sp_draw (K : PySem.W.Frag) : Sp := fun vs H Q _ => ∃ (p : Addr) (many n : Nat), vs = [.ref p, .int (many : Int)] ∧ PenAt H p n ∧ 1 ≤ many ∧ many < 1000 ∧ n ≤ 100000 ∧ ∀ (d : Nat) H', d < many → Fr p H H' → PenAt H' p (n + 1) → Q (.int (d : Int)) H'
theorem ok_law_draw (M : Mo mg) (D : Dn K mg "_law_draw" (top 101)) : FnAt P w K mg base 1 "_law_draw" ["_law_pen_here", "_law_many"] (sp_draw K) := by
  obtain ⟨f, fd, F, hm⟩ := D.ex
  refine fn_raw (N := n_law_draw) F hm (F.bindsN fun _ _ _ _ _ _ us hl => match us, hl with | [_, _], _ => rfl) sc_law_draw (fun vs H Q E h => by obtain ⟨_, _, _, rfl, _⟩ := h; rfl) (fun cdv A outer s H vs Q E hr h => ?_)
  have nd := sc_law_draw.nd
  refine ⟨_, pss_cons (ps_if (td_gt (pd_ix (pd_var 0 (pv 0)) pd_int) pd_int)
      (pss_cons (ps_set (i := 2) nd rfl (.inl rfl) (pd_mod (pd_ix (pd_var 0 (pv 0)) pd_int) (pd_var 1 (pv 1))))
      (pss_cons (ps_asg (pd_fdiv (pd_ix (pd_var 0 (pv 0)) pd_int) (pd_var 1 (pv 1))) (pg_sub (pv 0) pe_int set_list))
      (pss_one (ps_ret (pv 2))))) pss_nil)
    (pss_cons (ps_asg (pd_add (pd_ix (pd_var 0 (pv 0)) pd_int) pd_int) (pg_sub (pv 0) pe_int set_list))
    (pss_cons (ps_set (i := 3) nd rfl (.inl rfl) (pd_mod (pd_mulW (pd_add (pd_ix (pd_var 0 (pv 0)) pd_int) (pd_mulW pd_int (pd_ix (pd_var 0 (pv 0)) pd_int))) (pd_add pd_int (pd_mulW pd_int (pd_ix (pd_var 0 (pv 0)) pd_int)))) pd_int))
    (pss_cons (ps_set (i := 3) nd rfl (.inl rfl) (pd_mod (pd_add (pd_add (pd_mulW (pd_var 3 (pv 3)) (pd_var 3 (pv 3))) (pd_mulW pd_int (pd_ix (pd_var 0 (pv 0)) pd_int))) pd_int) pd_int))
    (pss_one (ps_ret (pd_mod (pd_fdiv (pd_mod (pd_mulW (pd_var 3 (pv 3)) pd_int) pd_int) pd_int) (pd_var 1 (pv 1)))))))), ?_⟩
  obtain ⟨p, many, n, rfl, ⟨a, b, c, hp, a0, b0, b1, c0, c1⟩, m1, m2, hn, k⟩ := h
  have m0 : (0 : Int) < (many : Int) := by omega
  have ixa : ∀ a b c : Int, ixD (.list [.int a, .int b, .int c]) (.int 0) = some (.int a) := fun _ _ _ => rfl
  have ixb : ∀ a b c : Int, ixD (.list [.int a, .int b, .int c]) (.int 1) = some (.int b) := fun _ _ _ => rfl
  have ixc : ∀ a b c : Int, ixD (.list [.int a, .int b, .int c]) (.int 2) = some (.int c) := fun _ _ _ => rfl
  have rep : ∀ (H' : Hp) (a b c : Int) (y2 : Option V) (y3 : Option Int), H' p = some (.lst [.int a, .int b, .int c]) → RepS K H' [some (.ref p), some (.int (many : Int)), y2, y3.map V.int] [some (.list [.int a, .int b, .int c]), some (.int (many : Int)), none, y3.map PyData.int] := fun H' a b c y2 y3 h => by
    refine repAll (.cons (rSome (.inr ⟨p, _, _, rfl, rfl, h, .cons (.int a) (.cons (.int b) (.cons (.int c) .nil))⟩)) (.cons (rSome (.inl (.int _))) (.cons rNone (.cons ?_ .nil))))
    cases y3 with
    | none => exact rNone
    | some i => exact rSome (.inl (.int i))
  refine ⟨_, decide (0 < a), rep H a b c none none hp, by simp [ixa], fun H1 s1 => ?_⟩
  have hp1 := s1 _ _ hp
  cases hd : decide (0 < a) with
  | true =>
    refine iteT ?_
    refine ⟨_, .int (a % many), rep H1 a b c none none hp1, by simp [ixa, modD_int m0], fun v2 H2 s2 r2 => ?_⟩
    rw [r2.int]
    have hp2 := s2 _ _ hp1
    refine ⟨_, .int (a / many), rep H2 a b c _ none hp2, by simp [ixa, fdivD_int (i := a) (j := many) ⟨m0, by omega⟩], fun v3 H3 s3 r3 => ?_⟩
    rw [r3.int]
    have hp3 := s3 _ _ hp2
    refine ⟨_, rfl, p, _, 0, 0, rfl, rfl, hp3, rfl, ?_⟩
    have h1 := Int.emod_nonneg a (show (many : Int) ≠ 0 by omega)
    have h2 := Int.emod_lt_of_pos a m0
    obtain ⟨d, hd⟩ := Int.eq_ofNat_of_zero_le h1
    refine ⟨_, rfl, ?_⟩
    rw [hd]
    refine k d _ (by omega) (((Fr.of s1).trans (Fr.of s2)).trans (Fr.of s3)).pen ⟨a / many, b, c, upd_same, Int.ediv_nonneg a0 (by omega), b0, b1, c0, by omega⟩
  | false =>
    refine iteF ?_
    refine ⟨_, .int (c + 1), rep H1 a b c none none hp1, by simp [ixc], fun v2 H2 s2 r2 => ?_⟩
    rw [r2.int]
    have hp2 := s2 _ _ hp1
    refine ⟨_, rfl, p, _, 2, 2, rfl, rfl, hp2, rfl, ?_⟩
    have hp3 : upd H2 p (.lst [.int a, .int b, .int (c + 1)]) p = some (.lst [.int a, .int b, .int (c + 1)]) := upd_same
    have f3 : Fr p H (upd H2 p (.lst [.int a, .int b, .int (c + 1)])) := ((Fr.of s1).trans (Fr.of s2)).pen
    show tSeq _ _ _ _ (upd H2 p (.lst [.int a, .int b, .int (c + 1)]))
    generalize upd H2 p (.lst [.int a, .int b, .int (c + 1)]) = H3 at hp3 f3 ⊢
    have e1 : ∀ ρ : DE, op2 modD (op2 mulW (op2 addD (op2 ixD (vE 0) (cE (.int 1))) (op2 mulW (cE (.int 17)) (op2 ixD (vE 0) (cE (.int 2))))) (op2 addD (cE (.int 69621)) (op2 mulW (cE (.int 2)) (op2 ixD (vE 0) (cE (.int 2)))))) (cE (.int 2147483647)) (some (.list [.int a, .int b, .int (c + 1)]) :: ρ) = some (.int ((b + 17 * (c + 1)) * (69621 + 2 * (c + 1)) % 2147483647)) := fun ρ => by
      simp only [op2_eq, vE_eq, cE_eq, List.getElem?_cons_zero, Option.getD_some, Option.bind_some, ixb, ixc]
      rw [mulW_int (by omega), mulW_int (by omega)]
      simp only [Option.bind_some, addD_int]
      rw [mulW_int (by omega)]
      simp only [Option.bind_some]
      exact modD_int (by omega)
    refine ⟨_, _, rep H3 a b (c + 1) none none hp3, e1 _, fun v4 H4 s4 r4 => ?_⟩
    rw [r4.int]
    have hp4 := s4 _ _ hp3
    have g1 := Int.emod_nonneg ((b + 17 * (c + 1)) * (69621 + 2 * (c + 1))) (show (2147483647 : Int) ≠ 0 by omega)
    have g2 := Int.emod_lt_of_pos ((b + 17 * (c + 1)) * (69621 + 2 * (c + 1))) (show (0 : Int) < 2147483647 by omega)
    generalize (b + 17 * (c + 1)) * (69621 + 2 * (c + 1)) % 2147483647 = st at g1 g2 ⊢
    have e2 : op2 modD (op2 addD (op2 addD (op2 mulW (vE 3) (vE 3)) (op2 mulW (cE (.int 40503)) (op2 ixD (vE 0) (cE (.int 2))))) (cE (.int 5))) (cE (.int 2147483629)) [some (.list [.int a, .int b, .int (c + 1)]), some (.int (many : Int)), none, some (.int st)] = some (.int ((st * st + 40503 * (c + 1) + 5) % 2147483629)) := by
      simp only [op2_eq, vE_eq, cE_eq, List.getElem?_cons_zero, List.getElem?_cons_succ, Option.getD_some, Option.bind_some, ixc]
      rw [mulW_int (by omega), mulW_int (by omega)]
      simp only [Option.bind_some, addD_int]
      exact modD_int (by omega)
    refine ⟨_, _, rep H4 a b (c + 1) none (some st) hp4, e2, fun v5 H5 s5 r5 => ?_⟩
    rw [r5.int]
    have hp5 := s5 _ _ hp4
    have g3 := Int.emod_nonneg (st * st + 40503 * (c + 1) + 5) (show (2147483629 : Int) ≠ 0 by omega)
    have g4 := Int.emod_lt_of_pos (st * st + 40503 * (c + 1) + 5) (show (0 : Int) < 2147483629 by omega)
    generalize (st * st + 40503 * (c + 1) + 5) % 2147483629 = st2 at g3 g4 ⊢
    have e3 : op2 modD (op2 fdivD (op2 modD (op2 mulW (vE 3) (cE (.int 48271))) (cE (.int 2147483647))) (cE (.int 32))) (vE 1) [some (.list [.int a, .int b, .int (c + 1)]), some (.int (many : Int)), none, some (.int st2)] = some (.int (st2 * 48271 % 2147483647 / 32 % many)) := by
      simp only [op2_eq, vE_eq, cE_eq, List.getElem?_cons_zero, List.getElem?_cons_succ, Option.getD_some, Option.bind_some]
      rw [mulW_int (by omega)]
      simp only [Option.bind_some]
      rw [modD_int (by omega)]
      simp only [Option.bind_some]
      rw [fdivD_int ⟨by omega, by omega⟩]
      simp only [Option.bind_some]
      exact modD_int m0
    have g5 := Int.emod_nonneg (st2 * 48271 % 2147483647 / 32) (show (many : Int) ≠ 0 by omega)
    have g6 := Int.emod_lt_of_pos (st2 * 48271 % 2147483647 / 32) m0
    obtain ⟨d, hd⟩ := Int.eq_ofNat_of_zero_le g5
    rw [hd] at e3 g6
    refine ⟨_, _, rep H5 a b (c + 1) none (some st2) hp5, e3, fun v6 H6 s6 r6 => ?_⟩
    rw [r6.int]
    exact k d H6 (by omega) (((f3.trans (Fr.of s4)).trans (Fr.of s5)).trans (Fr.of s6)) ⟨a, b, c + 1, s6 _ _ hp5, a0, b0, b1, by omega, by omega⟩
end
end Wk

set_option maxHeartbeats 4000000
/-! pen, pick, key, box, stand -/
namespace Wk
open PySem L2 PyProof.Rows
section
variable {P : Program} {w : World} {K : PySem.W.Frag} {mg : Str → Option Value} {base : Heap}
abbrev n_law_pen : List Str := ["_law_cell"]
theorem sc_law_pen : FnScope n_law_pen ["_law_cell"] (defScope (top 100)) := ⟨rfl, rfl, rfl, by decide +kernel, rfl, by decide +kernel, by decide +kernel⟩
def sp_pen : Sp := fun vs H Q _ => ∃ x : Int, vs = [.int x] ∧ ∀ p H', H p = none → Same H H' → PenAt H' p 0 → Q (.ref p) H'
theorem ok_law_pen (M : Mo mg) (D : Dn K mg "_law_pen" (top 100)) : FnAt P w K mg base 1 "_law_pen" ["_law_cell"] sp_pen := by
  obtain ⟨f, fd, F, hm⟩ := D.ex
  refine fn_raw (N := n_law_pen) F hm (F.bindsN fun _ _ _ _ _ _ us hl => match us, hl with | [_], _ => rfl) sc_law_pen (fun vs H Q E h => by obtain ⟨_, rfl, _⟩ := h; rfl) (fun cdv A outer s H vs Q E hr h => ?_)
  refine ⟨_, pss_one (ps_ret (pe_lst (pa_cons (pe_callB (call_max2 rfl) rfl M.b_max (by decide +kernel) (pa_cons pe_int (pa_cons (pe_op op_sub (pv 0) (pe_op op_pow pe_int pe_int)) pa_nil))) (pa_cons (pe_op op_mod (pv 0) pe_int) (pa_cons pe_int pa_nil))))), ?_⟩
  obtain ⟨x, rfl, k⟩ := h
  refine ⟨_, rfl, 10, 18, rfl, rfl, ⟨by omega, by omega, by decide⟩, x, _, rfl, rfl, 0, _, rfl, _, rfl, x, 1000000007, rfl, rfl, by show (0 : Int) < 1000000007; omega, by show 3 ≤ sizeLine; decide, fun p hp => ?_⟩
  have h1 := Int.emod_nonneg x (show (1000000007 : Int) ≠ 0 by omega)
  have h2 := Int.emod_lt_of_pos x (show (0 : Int) < 1000000007 by omega)
  refine k p _ hp (Same.new hp) ⟨_, _, _, upd_same, ?_, h1, by omega, Int.le_refl 0, Int.le_refl 0⟩
  split <;> omega
abbrev n_law_pick : List Str := ["_law_pen_here", "_law_some"]
theorem sc_law_pick : FnScope n_law_pick ["_law_pen_here", "_law_some"] (defScope (top 102)) := ⟨rfl, rfl, rfl, by decide +kernel, rfl, by decide +kernel, by decide +kernel⟩
def sp_pick : Sp := fun vs H Q _ => ∃ (p S : Addr) (n : Nat) (xs : List V), vs = [.ref p, .ref S] ∧ PenAt H p n ∧ H S = some (.lst xs) ∧ S ≠ p ∧ 1 ≤ xs.length ∧ xs.length < 1000 ∧ n ≤ 100000 ∧ ∀ x H', x ∈ xs → Fr p H H' → PenAt H' p (n + 1) → Q x H'
theorem ok_law_pick (M : Mo mg) (D : Dn K mg "_law_pick" (top 102)) (F_draw : FnAt P w K mg base 1 "_law_draw" ["_law_pen_here", "_law_many"] (sp_draw K)) : FnAt P w K mg base 2 "_law_pick" ["_law_pen_here", "_law_some"] sp_pick := by
  obtain ⟨f, fd, F, hm⟩ := D.ex
  refine fn_raw (N := n_law_pick) F hm (F.bindsN fun _ _ _ _ _ _ us hl => match us, hl with | [_, _], _ => rfl) sc_law_pick (fun vs H Q E h => by obtain ⟨_, _, _, _, rfl, _⟩ := h; rfl) (fun cdv A outer s H vs Q E hr h => ?_)
  refine ⟨_, pss_one (ps_ret (pe_ix ix_list (pv 1) (pe_fn F_draw hr (pa_cons (pv 0) (pa_cons (pe_callB call_len_seq rfl M.b_len PySem.boot_len (pa_cons (pv 1) pa_nil)) pa_nil))) (fun _ _ => rfl))), ?_⟩
  obtain ⟨p, S, n, xs, rfl, hp, hS, ne, l1, l2, hn, k⟩ := h
  refine ⟨_, rfl, _, rfl, _, rfl, S, xs, rfl, .inl (SqL.of hS), p, xs.length, n, rfl, hp, l1, l2, hn, fun d H1 hd f1 p1 => ?_⟩
  have hx : xs[d]? = some xs[d] := List.getElem?_eq_getElem hd
  exact ⟨S, xs, _, xs[d], rfl, rfl, SqL.of (f1 _ _ ne hS), atI_nat hx, k _ H1 (List.getElem_mem hd) f1 p1⟩
abbrev n_law_key : List Str := ["_law_pen_here", "_law_teeth", "_law_tooth"]
theorem sc_law_key : FnScope n_law_key ["_law_pen_here", "_law_teeth"] (defScope (top 106)) := ⟨rfl, rfl, rfl, by decide +kernel, rfl, by decide +kernel, by decide +kernel⟩
def sp_key (K : PySem.W.Frag) : Sp := fun vs H Q _ => ∃ (p : Addr) (t n : Nat), vs = [.ref p, .int (t : Int)] ∧ PenAt H p n ∧ t ≤ 3 ∧ n ≤ 90000 ∧ ∀ v (k : List Nat) H', Fr p H H' → PenAt H' p (n + 3) → Im K H' v (keyD k) → k.length = t → (∀ x ∈ k, x ≤ 6) → Q v H'
theorem im_nats {K : PySem.W.Frag} {H : Hp} : ∀ k : List Nat, ImAll K H (k.map fun (x : Nat) => V.int (x : Int)) (k.map nD)
  | [] => .nil
  | x :: k => .cons (.int _) (im_nats k)
theorem ok_law_key (M : Mo mg) (D : Dn K mg "_law_key" (top 106)) (F_draw : FnAt P w K mg base 1 "_law_draw" ["_law_pen_here", "_law_many"] (sp_draw K)) : FnAt P w K mg base 2 "_law_key" ["_law_pen_here", "_law_teeth"] (sp_key K) := by
  obtain ⟨f, fd, F, hm⟩ := D.ex
  refine fn_raw (N := n_law_key) F hm (F.bindsN fun _ _ _ _ _ _ us hl => match us, hl with | [_, _], _ => rfl) sc_law_key (fun vs H Q E h => by obtain ⟨_, _, _, rfl, _⟩ := h; rfl) (fun cdv A outer s H vs Q E hr h => ?_)
  have nd := sc_law_key.nd
  refine ⟨_, pss_one (ps_ret (pe_callTy call_tuple_of rfl M.b_tuple PyProof.Rows.boot_tuple (pa_cons (pe_lc (own := [("_law_tooth", 2)]) (g := gName 2) (tt := tYes) (te := tCall (sp_draw K) [] E0 (tCons (tVar 0) (tCons (tC (.int 7)) tNil))) rfl nd (pi_range1 rfl M.b_range (pa_cons (pv 1) pa_nil)) (blkOk_by (own := [("_law_tooth", 2)]) (N := n_law_key) (sc := defScope (top 106)) (by decide +kernel))
    (fun _ _ _ _ _ => pg_name (i := 2) nd rfl (by first | exact Or.inl rfl | exact Or.inr rfl)) (fun _ _ _ _ _ => pts_nil) (fun _ _ _ _ _ => pe_fn F_draw hr (pa_cons (pv 0) (pa_cons pe_int pa_nil)))) pa_nil))), ?_⟩
  obtain ⟨p, t, n, rfl, hp, t3, hn, k⟩ := h
  obtain ⟨o, ho⟩ := hp.some_
  refine ⟨_, rfl, (t : Int), rfl, by omega, by omega, fun D1 hD => lc_it walk_range (fun i H1 => ∃ ks : List Nat, Fr p H H1 ∧ PenAt H1 p (n + i) ∧ H1 D1 = some (.lst (ks.map fun (x : Nat) => V.int (x : Int))) ∧ ks.length = i ∧ ∀ x ∈ ks, x ≤ 6)
    ⟨[], Fr.of (Same.new hD), hp.same (Same.new hD), upd_same, rfl, by simp⟩ (fun _ _ _ _ => trivial) ?_ ?_⟩
  · rintro i x H10 H1 hi ⟨ks, f1, p1, h1, h2, h3⟩ ⟨rfl, _⟩
    have hit : i < t := by simpa using hi
    refine ⟨rfl, ?_⟩
    refine yesT ?_
    refine ⟨_, rfl, p, 7, n + i, rfl, p1, by omega, by omega, by omega, fun d H2 hd f2 p2 => ?_⟩
    have nD : D1 ≠ p := (ne_of_none ho hD).symm
    have hD2 := f2 _ _ nD h1
    refine ⟨_, hD2, ?_, ks ++ [d], Fr.mut (f1.trans f2) hD, (p2.other nD.symm).le (by omega), by rw [upd_same, List.map_append]; rfl, by simp [h2], fun y hy => ?_⟩
    · rw [List.length_map, h2]
      exact Nat.lt_of_le_of_lt (show i ≤ 3 by omega) (by decide)
    · rcases List.mem_append.mp hy with hy | hy
      · exact h3 y hy
      · rw [List.mem_singleton.mp hy]
        omega
  · rintro H1 ⟨ks, f1, p1, h1, h2, h3⟩
    have h2 : ks.length = t := by simpa using h2
    have p1 : PenAt H1 p (n + t) := by simpa using p1
    refine ⟨D1, _, rfl, .inl ⟨SqL.of h1, fun T hT => ?_⟩⟩
    exact k (.ref T) ks _ (f1.trans (Fr.of (Same.new hT))) ((p1.same (Same.new hT)).le (by omega)) (.tup upd_same (im_nats ks)) h2 h3
abbrev n_law_stand : List Str := ["_law_pen_here", "_law_house_here"]
theorem sc_law_stand : FnScope n_law_stand ["_law_pen_here", "_law_house_here"] (defScope (top 109)) := ⟨rfl, rfl, rfl, by decide +kernel, rfl, by decide +kernel, by decide +kernel⟩
def sp_stand (K : PySem.W.Frag) : Sp := fun vs H Q _ => ∃ (p : Addr) (n : Nat) (hv : V) (h : House), vs = [.ref p, hv] ∧ PenAt H p n ∧ Im K H hv (houseD h) ∧ Good h ∧ n ≤ 80000 ∧ ∀ v (s : Stand) H', Fr p H H' → PenAt H' p (n + 4) → Im K H' v (standD s) → GoodS h s → Q v H'
theorem ok_law_stand (M : Mo mg) (D : Dn K mg "_law_stand" (top 109)) (F_draw : FnAt P w K mg base 1 "_law_draw" ["_law_pen_here", "_law_many"] (sp_draw K)) (F_key : FnAt P w K mg base 2 "_law_key" ["_law_pen_here", "_law_teeth"] (sp_key K)) : FnAt P w K mg base 3 "_law_stand" ["_law_pen_here", "_law_house_here"] (sp_stand K) := by
  obtain ⟨f, fd, F, hm⟩ := D.ex
  refine fn_raw (N := n_law_stand) F hm (F.bindsN fun _ _ _ _ _ _ us hl => match us, hl with | [_, _], _ => rfl) sc_law_stand (fun vs H Q E h => by obtain ⟨_, _, _, _, rfl, _⟩ := h; rfl) (fun cdv A outer s H vs Q E hr h => ?_)
  refine ⟨_, pss_one (ps_ret (pe_tup (pa_cons (pe_fn (F_draw.mono (by decide)) hr (pa_cons (pv 0) (pa_cons (pd_ix (pd_var 1 (pv 1)) pd_int) pa_nil))) (pa_cons (pe_fn (F_key.mono (by decide)) hr (pa_cons (pv 0) (pa_cons (pd_ix (pd_var 1 (pv 1)) pd_int) pa_nil))) pa_nil)))), ?_⟩
  obtain ⟨p, n, hv, h, rfl, hp, hH, G, hn, k⟩ := h
  have h1 := G.h1
  have h6 := G.h6
  have t3 := G.t3
  refine ⟨_, rfl, [none, some (houseD h)], nD h.halls, repAll (.cons rNone (.cons (rSome (.inl hH)) .nil)), by simp, fun v1 H1 s1 r1 => ?_⟩
  rw [r1.int]
  refine ⟨p, h.halls, n, rfl, hp.same s1, h1, by omega, by omega, fun d H2 hd f2 p2 => ?_⟩
  have f12 := (Fr.of s1).trans f2
  have hH2 := hH.mono (f12.tk hp)
  refine ⟨_, rfl, [none, some (houseD h)], nD h.teeth, repAll (.cons rNone (.cons (rSome (.inl hH2)) .nil)), by simp, fun v2 H3 s3 r3 => ?_⟩
  rw [r3.int]
  refine ⟨p, h.teeth, n + 1, rfl, p2.same s3, t3, by omega, fun kv kk H4 f4 p4 im4 l4 x4 => ?_⟩
  refine ⟨by show 2 ≤ sizeLine; decide, fun T hT => ?_⟩
  have sT : Same H4 (upd H4 T (.tup [.int (d : Int), kv])) := Same.new hT
  exact k (.ref T) (d, kk) _ (((f12.trans (Fr.of s3)).trans f4).trans (Fr.of sT)) (p4.same sT) (.tup upd_same (.cons (.int _) (.cons (im4.mono (same_tk sT)) .nil))) ⟨hd, l4, x4⟩
end
end Wk

set_option maxHeartbeats 4000000
/-! box, wider_box, cell_at, row -/
namespace Wk
open PySem L2 PyProof.Rows
section
variable {P : Program} {w : World} {K : PySem.W.Frag} {mg : Str → Option Value} {base : Heap}
theorem max_nat (a b : Nat) : (if (b : Int) > (a : Int) then (b : Int) else (a : Int)) = ((Nat.max a b : Nat) : Int) := by
  show (if (b : Int) > (a : Int) then (b : Int) else (a : Int)) = ((max a b : Nat) : Int)
  split <;> omega
theorem min_nat (a b : Nat) : (if (b : Int) < (a : Int) then (b : Int) else (a : Int)) = ((Nat.min a b : Nat) : Int) := by
  show (if (b : Int) < (a : Int) then (b : Int) else (a : Int)) = ((min a b : Nat) : Int)
  split <;> omega
abbrev n_law_box : List Str := ["_law_pen_here", "_law_teeth", "_law_found", "_law_tooth", "_law_low", "_law_high"]
theorem sc_law_box : FnScope n_law_box ["_law_pen_here", "_law_teeth"] (defScope (top 107)) := ⟨rfl, rfl, rfl, by decide +kernel, rfl, by decide +kernel, by decide +kernel⟩
def sp_box (K : PySem.W.Frag) : Sp := fun vs H Q _ => ∃ (p : Addr) (t n : Nat), vs = [.ref p, .int (t : Int)] ∧ PenAt H p n ∧ t ≤ 3 ∧ n ≤ 90000 ∧ ∀ v (b : Box) H', Fr p H H' → PenAt H' p (n + 15) → Im K H' v (boxD b) → GoodB t b → Q v H'
theorem im_gaps {K : PySem.W.Frag} {H : Hp} {xs : List V} {b : Box} {x : V} {g : Nat × Nat} (h : ImAll K H xs (b.map gapD)) (hx : Im K H x (gapD g)) : ImAll K H (xs ++ [x]) ((b ++ [g]).map gapD) := by
  rw [List.map_append]
  exact h.snoc hx
theorem ok_law_box (M : Mo mg) (D : Dn K mg "_law_box" (top 107)) (F_draw : FnAt P w K mg base 1 "_law_draw" ["_law_pen_here", "_law_many"] (sp_draw K)) : FnAt P w K mg base 2 "_law_box" ["_law_pen_here", "_law_teeth"] (sp_box K) := by
  obtain ⟨f, fd, F, hm⟩ := D.ex
  refine fn_raw (N := n_law_box) F hm (F.bindsN fun _ _ _ _ _ _ us hl => match us, hl with | [_, _], _ => rfl) sc_law_box (fun vs H Q E h => by obtain ⟨_, _, _, rfl, _⟩ := h; rfl) (fun cdv A outer s H vs Q E hr h => ?_)
  have nd := sc_law_box.nd
  refine ⟨_, pss_cons (ps_set (i := 2) nd rfl (.inl rfl) (pe_lst pa_nil))
    (pss_cons (ps_for PassesOwn.never rfl (pi_range1 rfl M.b_range (pa_cons (pv 1) pa_nil)) (pg_name (i := 3) nd rfl (.inl rfl))
      (pss_cons (ps_set (i := 4) nd rfl (.inl rfl) (pe_ix ix_list (pe_lst (pa_cons pe_int (pa_cons pe_int (pa_cons (pe_fn F_draw hr (pa_cons (pv 0) (pa_cons pe_int pa_nil))) pa_nil)))) (pe_fn F_draw hr (pa_cons (pv 0) (pa_cons pe_int pa_nil))) (fun _ _ => rfl)))
      (pss_cons (ps_set (i := 5) nd rfl (.inl rfl) (pe_ix ix_list (pe_lst (pa_cons pe_int (pa_cons (pe_op op_sub pe_int (pe_fn F_draw hr (pa_cons (pv 0) (pa_cons pe_int pa_nil)))) (pa_cons (pe_fn F_draw hr (pa_cons (pv 0) (pa_cons pe_int pa_nil))) pa_nil)))) (pe_fn F_draw hr (pa_cons (pv 0) (pa_cons pe_int pa_nil))) (fun _ _ => rfl)))
      (pss_one (ps_expr (pe_bm PySem.F.plainAttrs_list PySem.F.slot_list_append PySem.F.type_list_append mt_append (pv 2) (pa_cons (pe_tup (pa_cons (pe_callB (call_min2 rfl) rfl M.b_min (by decide +kernel) (pa_cons (pv 4) (pa_cons (pv 5) pa_nil))) (pa_cons (pe_callB (call_max2 rfl) rfl M.b_max (by decide +kernel) (pa_cons (pv 4) (pa_cons (pv 5) pa_nil))) pa_nil))) pa_nil)))))))
    (pss_one (ps_ret (pe_callTy call_tuple_of rfl M.b_tuple PyProof.Rows.boot_tuple (pa_cons (pv 2) pa_nil))))), ?_⟩
  obtain ⟨p, t, n, rfl, hp, t3, hn, k⟩ := h
  obtain ⟨op, hop⟩ := hp.some_
  refine ⟨Nat.zero_le _, fun R hR => ?_⟩
  have nR : R ≠ p := (ne_of_none hop hR).symm
  refine ⟨_, rfl, (t : Int), rfl, by omega, by omega, for_it walk_range (fun i σ3 H3 => ∃ (fs : List V) (b : Box) (y3 y4 y5 : Option V), σ3 = [some (.ref p), some (.int (t : Int)), some (.ref R), y3, y4, y5] ∧ Fr p H H3 ∧ PenAt H3 p (n + 5 * i) ∧ H3 R = some (.lst fs) ∧ ImAll K H3 fs (b.map gapD) ∧ b.length = i ∧ ∀ g ∈ b, g.1 ≤ g.2 ∧ g.2 ≤ 6)
    ⟨[], [], none, none, none, rfl, Fr.of (Same.new hR), hp.same (Same.new hR), upd_same, .nil, rfl, by simp⟩ (fun _ _ _ _ _ => trivial) ?_ ?_⟩
  · rintro i x σ3 H30 H3 hi ⟨fs, b, y3, y4, y5, rfl, f3, p3, h3, i3, l3, g3⟩ ⟨rfl, _⟩
    have hit : i < t := by simpa using hi
    -- low
    refine ⟨_, rfl, p, 7, n + 5 * i, rfl, p3, by omega, by omega, by omega, fun d1 H4 hd1 f4 p4 => ?_⟩
    refine ⟨by show 3 ≤ sizeLine; decide, fun L1 hL1 => ?_⟩
    obtain ⟨o4, ho4⟩ := p4.some_
    have s5 : Same H4 (upd H4 L1 (.lst [.int 0, .int 0, .int (d1 : Int)])) := Same.new hL1
    have nL1 : L1 ≠ p := (ne_of_none ho4 hL1).symm
    refine ⟨_, rfl, p, 3, n + 5 * i + 1, rfl, p4.same s5, by omega, by omega, by omega, fun d2 H6 hd2 f6 p6 => ?_⟩
    have hL6 : H6 L1 = some (.lst [.int 0, .int 0, .int (d1 : Int)]) := f6 _ _ nL1 upd_same
    obtain ⟨lo, hlo, hlo6⟩ : ∃ lo : Nat, ([.int 0, .int 0, .int (d1 : Int)] : List V)[d2]? = some (.int (lo : Int)) ∧ lo ≤ 6 := by
      match d2, hd2 with
      | 0, _ => exact ⟨0, rfl, by omega⟩
      | 1, _ => exact ⟨0, rfl, by omega⟩
      | 2, _ => exact ⟨d1, rfl, by omega⟩
    refine ⟨L1, _, _, _, rfl, rfl, SqL.of hL6, atI_nat hlo, ?_⟩
    -- high
    refine ⟨_, rfl, p, 3, n + 5 * i + 2, rfl, p6, by omega, by omega, by omega, fun d3 H7 hd3 f7 p7 => ?_⟩
    refine ⟨6, _, rfl, rfl, ?_⟩
    refine ⟨_, rfl, p, 7, n + 5 * i + 3, rfl, p7, by omega, by omega, by omega, fun d4 H8 hd4 f8 p8 => ?_⟩
    refine ⟨by show 3 ≤ sizeLine; decide, fun L2 hL2 => ?_⟩
    obtain ⟨o8, ho8⟩ := p8.some_
    have nL2 : L2 ≠ p := (ne_of_none ho8 hL2).symm
    have s9 : Same H8 (upd H8 L2 (.lst [.int 6, .int (6 - (d3 : Int)), .int (d4 : Int)])) := Same.new hL2
    refine ⟨_, rfl, p, 3, n + 5 * i + 4, rfl, p8.same s9, by omega, by omega, by omega, fun d5 H10 hd5 f10 p10 => ?_⟩
    have hL10 : H10 L2 = some (.lst [.int 6, .int (6 - (d3 : Int)), .int (d4 : Int)]) := f10 _ _ nL2 upd_same
    obtain ⟨hi', hhi, hhi6⟩ : ∃ hi' : Nat, ([.int 6, .int (6 - (d3 : Int)), .int (d4 : Int)] : List V)[d5]? = some (.int (hi' : Int)) ∧ hi' ≤ 6 := by
      match d5, hd5 with
      | 0, _ => exact ⟨6, rfl, by omega⟩
      | 1, _ => exact ⟨6 - d3, by rw [show ((6 - d3 : Nat) : Int) = 6 - (d3 : Int) by omega]; rfl, by omega⟩
      | 2, _ => exact ⟨d4, rfl, by omega⟩
    refine ⟨L2, _, _, _, rfl, rfl, SqL.of hL10, atI_nat hhi, ?_⟩
    have fA : Fr p H3 H10 := (((((f4.trans (Fr.of s5)).trans f6).trans f7).trans f8).trans (Fr.of s9)).trans f10
    have hR10 : H10 R = some (.lst fs) := fA _ _ nR h3
    have tkA := fA.tk p3
    refine ⟨_, rfl, .inl ⟨rfl, _, SqL.of hR10⟩, ?_⟩
    refine ⟨_, rfl, _, rfl, lo, hi', rfl, ?_⟩
    rw [min_nat]
    refine ⟨_, rfl, _, rfl, lo, hi', rfl, ?_⟩
    rw [max_nat]
    refine ⟨by show 2 ≤ sizeLine; decide, fun T hT => ?_⟩
    have sT : Same H10 (upd H10 T (.tup [.int ((Nat.min lo hi' : Nat) : Int), .int ((Nat.max lo hi' : Nat) : Int)])) := Same.new hT
    have hRT := sT _ _ hR10
    have hl := im_len i3
    have pT := p10.same sT
    refine ⟨R, fs, _, rfl, rfl, hRT, Nat.lt_of_le_of_lt (show fs.length ≤ 3 by omega) (by decide), ?_⟩
    have tkR : TK (upd H10 T (.tup [.int ((Nat.min lo hi' : Nat) : Int), .int ((Nat.max lo hi' : Nat) : Int)])) (upd (upd H10 T (.tup [.int ((Nat.min lo hi' : Nat) : Int), .int ((Nat.max lo hi' : Nat) : Int)])) R (.lst (fs ++ [.ref T]))) := TK.updL hRT
    refine ⟨fs ++ [.ref T], b ++ [(Nat.min lo hi', Nat.max lo hi')], _, _, _, rfl, Fr.mut ((f3.trans fA).trans (Fr.of sT)) hR, (pT.other nR.symm).le (by omega), upd_same, ?_, by simp [l3], fun g hg => ?_⟩
    · exact im_gaps (((i3.mono tkA).mono (same_tk sT)).mono tkR) ((Im.tup upd_same (.cons (.int _) (.cons (.int _) .nil))).mono tkR)
    · rcases List.mem_append.mp hg with hg | hg
      · exact g3 g hg
      · rw [List.mem_singleton.mp hg]
        exact ⟨Nat.le_trans (Nat.min_le_left lo hi') (Nat.le_max_left lo hi'), Nat.max_le.mpr ⟨hlo6, hhi6⟩⟩
  · rintro σ3 H3 ⟨fs, b, y3, y4, y5, rfl, f3, p3, h3, i3, l3, g3⟩
    have l3 : b.length = t := by simpa using l3
    refine ⟨_, rfl, R, fs, rfl, .inl ⟨SqL.of h3, fun T hT => ?_⟩⟩
    have p3 : PenAt H3 p (n + 5 * t) := by simpa using p3
    have sT : Same H3 (upd H3 T (.tup fs)) := Same.new hT
    exact k (.ref T) b _ (f3.trans (Fr.of sT)) ((p3.same sT).le (by omega)) (.tup upd_same (i3.mono (same_tk sT))) ⟨l3, g3⟩
/-! ### cell_at -/
abbrev n_law_cell_at : List Str := ["_law_script", "_law_k"]
theorem sc_law_cell_at : FnScope n_law_cell_at ["_law_script", "_law_k"] (defScope (top 99)) := ⟨rfl, rfl, rfl, by decide +kernel, rfl, by decide +kernel, by decide +kernel⟩
def sp_cell_at (K : PySem.W.Frag) : Sp := fun vs H Q _ => ∃ (a : Addr) (k : Nat) (ns : List Int), vs = [.ref a, .int (k : Int)] ∧ SqL K H a (ns.map V.int) ∧ ∀ x : Int, Q (.int x) H
theorem ok_law_cell_at (M : Mo mg) (D : Dn K mg "_law_cell_at" (top 99)) : FnAt P w K mg base 1 "_law_cell_at" ["_law_script", "_law_k"] (sp_cell_at K) := by
  obtain ⟨f, fd, F, hm⟩ := D.ex
  refine fn_raw (N := n_law_cell_at) F hm (F.bindsN fun _ _ _ _ _ _ us hl => match us, hl with | [_, _], _ => rfl) sc_law_cell_at (fun vs H Q E h => by obtain ⟨_, _, _, rfl, _⟩ := h; rfl) (fun cdv A outer s H vs Q E hr h => ?_)
  refine ⟨_, pss_cons (ps_if (pt_cmpR op_lt (pv 1) (pe_callB call_len_seq rfl M.b_len PySem.boot_len (pa_cons (pv 0) pa_nil)) (nomark _)) (pss_one (ps_ret (pe_ix ix_list (pv 0) (pv 1) (fun _ _ => rfl)))) pss_nil) (pss_one (ps_ret pe_int)), ?_⟩
  obtain ⟨a, kk, ns, rfl, hs, k⟩ := h
  refine ⟨_, rfl, _, rfl, a, _, rfl, .inl hs, (kk : Int), ((ns.map V.int).length : Int), rfl, rfl, _, rfl, ?_⟩
  by_cases hlt : (kk : Int) < ((ns.map V.int).length : Int)
  · rw [decide_eq_true hlt]
    refine iteT ?_
    have hk : kk < ns.length := by
      rw [List.length_map] at hlt
      omega
    have hx : (ns.map V.int)[kk]? = some (V.int ns[kk]) := by rw [List.getElem?_map, List.getElem?_eq_getElem hk]; rfl
    exact ⟨_, rfl, _, rfl, a, _, _, _, rfl, rfl, hs, atI_nat hx, k _⟩
  · rw [decide_eq_false hlt]
    refine iteF ?_
    exact k 0
end
end Wk

set_option maxHeartbeats 4000000
/-! wider_box, law_may as a new list, row -/
namespace Wk
open PySem L2 PyProof.Rows
section
variable {P : Program} {w : World} {K : PySem.W.Frag} {mg : Str → Option Value} {base : Heap}
abbrev n_law_wider_box : List Str := ["_law_pen_here", "_law_box_here", "_law_low", "_law_high"]
theorem sc_law_wider_box : FnScope n_law_wider_box ["_law_pen_here", "_law_box_here"] (defScope (top 116)) := ⟨rfl, rfl, rfl, by decide +kernel, rfl, by decide +kernel, by decide +kernel⟩
def WB (g g' : Nat × Nat) : Prop := g'.1 ≤ g.1 ∧ g.2 ≤ g'.2 ∧ g'.1 ≤ g'.2 ∧ g'.2 ≤ 6
def sp_wider_box (K : PySem.W.Frag) : Sp := fun vs H Q _ => ∃ (p : Addr) (bv : V) (b : Box) (n : Nat), vs = [.ref p, bv] ∧ PenAt H p n ∧ Im K H bv (boxD b) ∧ b.length ≤ 3 ∧ (∀ g ∈ b, g.1 ≤ g.2 ∧ g.2 ≤ 6) ∧ n ≤ 90000 ∧ ∀ v (b' : Box) H', Fr p H H' → PenAt H' p (n + 6) → Im K H' v (boxD b') → Paired WB b b' → Q v H'
theorem max0 {a : Nat} {d : Nat} : (if (a : Int) - (d : Int) > 0 then (a : Int) - (d : Int) else 0) = ((a - d : Nat) : Int) := by split <;> omega
theorem min6 {a : Nat} {d : Nat} : (if (a : Int) + (d : Int) < 6 then (a : Int) + (d : Int) else 6) = ((min 6 (a + d) : Nat) : Int) := by split <;> omega
theorem ok_law_wider_box (M : Mo mg) (D : Dn K mg "_law_wider_box" (top 116)) (F_draw : FnAt P w K mg base 1 "_law_draw" ["_law_pen_here", "_law_many"] (sp_draw K)) : FnAt P w K mg base 2 "_law_wider_box" ["_law_pen_here", "_law_box_here"] (sp_wider_box K) := by
  obtain ⟨f, fd, F, hm⟩ := D.ex
  refine fn_raw (N := n_law_wider_box) F hm (F.bindsN fun _ _ _ _ _ _ us hl => match us, hl with | [_, _], _ => rfl) sc_law_wider_box (fun vs H Q E h => by obtain ⟨_, _, _, _, rfl, _⟩ := h; rfl) (fun cdv A outer s H vs Q E hr h => ?_)
  have nd := sc_law_wider_box.nd
  refine ⟨_, pss_one (ps_ret (pe_callTy call_tuple_of rfl M.b_tuple PyProof.Rows.boot_tuple (pa_cons (pe_lc (own := [("_law_low", 2), ("_law_high", 3)]) (g := gTup K 2 (gCons (gName 2) (gCons (gName 3) gNil))) (tt := tYes)
    (te := tTup (tCons (tCB (fun xs H Q => ∃ i j, xs = [.int i, .int j] ∧ Q (.int (if j > i then j else i)) H) (tCons (tC (.int 0)) (tCons (tOp (rI0 fun i j => .int (i - j)) (tVar 2) (tCall (sp_draw K) [] E0 (tCons (tVar 0) (tCons (tC (.int 3)) tNil)))) tNil))) (tCons (tCB (fun xs H Q => ∃ i j, xs = [.int i, .int j] ∧ Q (.int (if j < i then j else i)) H) (tCons (tC (.int 6)) (tCons (tOp (rI0 fun i j => .int (i + j)) (tVar 3) (tCall (sp_draw K) [] E0 (tCons (tVar 0) (tCons (tC (.int 3)) tNil)))) tNil))) tNil)))
    rfl nd (pi_tup (pv 1)) (blkOk_by (own := [("_law_low", 2), ("_law_high", 3)]) (N := n_law_wider_box) (sc := defScope (top 116)) (by decide +kernel))
    (fun _ _ _ _ _ => pg_tup rfl (pgs_cons (pg_name (i := 2) nd rfl (by first | exact Or.inl rfl | exact Or.inr rfl)) (pgs_cons (pg_name (i := 3) nd rfl (by first | exact Or.inl rfl | exact Or.inr rfl)) pgs_nil))) (fun _ _ _ _ _ => pts_nil)
    (fun _ _ _ _ _ => pe_tup (pa_cons (pe_callB (call_max2 rfl) rfl M.b_max (by decide +kernel) (pa_cons pe_int (pa_cons (pe_op op_sub (pv 2) (pe_fn F_draw hr (pa_cons (pv 0) (pa_cons pe_int pa_nil)))) pa_nil))) (pa_cons (pe_callB (call_min2 rfl) rfl M.b_min (by decide +kernel) (pa_cons pe_int (pa_cons (pe_op op_add (pv 3) (pe_fn F_draw hr (pa_cons (pv 0) (pa_cons pe_int pa_nil)))) pa_nil))) pa_nil)))) pa_nil))), ?_⟩
  obtain ⟨p, bv, b, n, rfl, hp, hb, b3, bg, hn, k⟩ := h
  obtain ⟨o, ho⟩ := hp.some_
  obtain ⟨B, bs, rfl, hB, hbs⟩ := hb.inT
  have lb : bs.length = b.length := by rw [hbs.length, List.length_map]
  refine ⟨_, rfl, B, rfl, ⟨bs, SqT.of hB⟩, fun D1 hD => ?_⟩
  have nE : D1 ≠ p := (ne_of_none ho hD).symm
  refine lc_it (walk_tup (xs := bs)) (fun i H1 => ∃ (xs : List V) (b' : Box), Fr p H H1 ∧ PenAt H1 p (n + 2 * i) ∧ H1 D1 = some (.lst xs) ∧ ImAll K H1 xs (b'.map gapD) ∧ Paired WB (b.take i) b' ∧ b'.length = i)
    ⟨[], [], Fr.of (Same.new hD), hp.same (Same.new hD), upd_same, .nil, by rw [List.take_zero]; exact .nil, rfl⟩ (fun i H1 hi ⟨_, _, f1, _⟩ => SqT.of (f1 _ _ (hp.ne hB) hB)) ?_ ?_
  · rintro i x H10 H1 hi ⟨xs, b', f1, p1, h1, h2, h3, h4⟩ ⟨rfl, hx⟩
    obtain ⟨d, hd, imx⟩ := hbs.get' hx
    rw [List.getElem?_map] at hd
    obtain ⟨g, hg, rfl⟩ := Option.map_eq_some_iff.mp hd
    have imx1 := imx.mono (f1.tk hp)
    obtain ⟨ta, x1, x2, rfl, ht, i1, i2⟩ := (show Im K H1 x (.tuple [nD g.1, nD g.2]) from imx1).pair
    cases i1
    cases i2
    have hgb := bg g (List.mem_of_getElem? hg)
    have hib : i < b.length := by omega
    refine ⟨ta, _, rfl, SqT.of ht, rfl, _, _, rfl, _, _, rfl, rfl, ?_⟩
    refine ⟨rfl, ?_⟩
    refine yesT ?_
    refine ⟨_, rfl, _, rfl, p, 3, n + 2 * i, rfl, p1, by omega, by omega, by omega, fun d1 H2 hd1 f2 p2 => ?_⟩
    refine ⟨(g.1 : Int), d1, rfl, rfl, 0, _, rfl, ?_⟩
    refine ⟨_, rfl, _, rfl, p, 3, n + 2 * i + 1, rfl, p2, by omega, by omega, by omega, fun d2 H3 hd2 f3 p3 => ?_⟩
    refine ⟨(g.2 : Int), d2, rfl, rfl, 6, _, rfl, by show 2 ≤ sizeLine; decide, fun T hT => ?_⟩
    rw [max0, min6]
    have hD3 := f3 _ _ nE (f2 _ _ nE h1)
    have sT : Same H3 (upd H3 T (.tup [.int ((g.1 - d1 : Nat) : Int), .int ((min 6 (g.2 + d2) : Nat) : Int)])) := Same.new hT
    have hDT := sT _ _ hD3
    have l2 := im_len h2
    have pT := p3.same sT
    have tk3 : TK H1 H3 := (f2.trans f3).tk p1
    have tkR : TK (upd H3 T (.tup [.int ((g.1 - d1 : Nat) : Int), .int ((min 6 (g.2 + d2) : Nat) : Int)])) (upd (upd H3 T (.tup [.int ((g.1 - d1 : Nat) : Int), .int ((min 6 (g.2 + d2) : Nat) : Int)])) D1 (.lst (xs ++ [.ref T]))) := TK.updL hDT
    refine ⟨_, hDT, Nat.lt_of_le_of_lt (show xs.length ≤ 3 by omega) (by decide), xs ++ [.ref T], b' ++ [(g.1 - d1, min 6 (g.2 + d2))], Fr.mut (((f1.trans f2).trans f3).trans (Fr.of sT)) hD, (pT.other nE.symm).le (by omega), upd_same, ?_, ?_, by simp [h4]⟩
    · exact im_gaps (((h2.mono tk3).mono (same_tk sT)).mono tkR) ((Im.tup upd_same (.cons (.int _) (.cons (.int _) .nil))).mono tkR)
    · rw [List.take_add_one, hg]
      exact paired_snoc h3 ⟨by show g.1 - d1 ≤ g.1; omega, by show g.2 ≤ min 6 (g.2 + d2); omega, by show g.1 - d1 ≤ min 6 (g.2 + d2); omega, by show min 6 (g.2 + d2) ≤ 6; omega⟩
  · rintro H1 ⟨xs, b', f1, p1, h1, h2, h3, h4⟩
    refine ⟨D1, _, rfl, .inl ⟨SqL.of h1, fun T hT => ?_⟩⟩
    rw [lb] at h3 h4 p1
    rw [List.take_length] at h3
    exact k (.ref T) b' _ (f1.trans (Fr.of (Same.new hT))) ((p1.same (Same.new hT)).le (by omega)) (.tup upd_same (h2.mono (same_tk (Same.new hT)))) h3
end
end Wk

set_option maxHeartbeats 4000000
/-! law_may as a new list, row -/
namespace Wk
open PySem L2 PyProof.Rows
theorem one_new {K : PySem.W.Frag} {N : List Str} {e : Ev} {n : Nat} {vs : List V} {H : Hp} {Q : VK} (h : spF K n (fnF N.length (rtS e)) vs H Q (fun _ _ _ => False)) :
    tRet (tF K e) { nx := fun _ H' => Q .non H', rt := Q } (L2.start N vs) H := by
  obtain ⟨h0, ds, l, r, q, k⟩ := h
  unfold fnF at q
  split at q
  · rename_i d hg
    cases q
    obtain ⟨d', h2, h3⟩ := Option.map_eq_some_iff.mp (show (e _).map Res.rt = some (.rt (.list l)) from hg)
    cases h3
    exact ⟨_, l, start_rep r, h2, fun D xs H'' hD s2 h4 h5 => k D xs H'' hD s2 h4 h5⟩
  · rename_i hg
    obtain ⟨d', h2, h3⟩ := Option.map_eq_some_iff.mp (show (e _).map Res.rt = some (.nx _) from hg)
    cases h3
  · cases q
section
variable {P : Program} {w : World} {K : PySem.W.Frag} {mg : Str → Option Value} {base : Heap}
theorem okF_law_may (M : Mo mg) (D : Dn K mg "_law_may" (top 113)) (F_law_deeds : FnAt P w K mg base 1 "_law_deeds" ["_law_house_here"] (spD K 1 f_law_deeds)) (F_law_behind : FnAt P w K mg base 2 "_law_behind" ["_law_house_here", "_law_stand_here", "_law_deed"] (spD K 3 f_law_behind)) : FnAt P w K mg base 3 "_law_may" ["_law_house_here", "_law_stand_here"] (spF K 2 f_law_may) := by
  obtain ⟨f, fd, F, hm⟩ := D.ex
  refine fn_raw (N := n_law_may) F hm (F.bindsN fun _ _ _ _ _ _ us hl => match us, hl with | [_, _], _ => rfl) sc_law_may (fun vs H Q E h => h.1) (fun cdv A outer s H vs Q E hr h => ?_)
  refine ⟨_, pss_one (ps_ret (pf_lc (own := [("_law_deed", 2)]) sc_law_may.nd (id_seq (pd_fn (F_law_deeds.mono (by decide)) hr rfl (pd_cons (pd_var 0 (pv 0)) pd_nil) (consE_len nilE_len))) (blkOk_by (own := [("_law_deed", 2)]) (N := n_law_may) (sc := defScope (top 113)) (by decide +kernel)) (fun _ _ _ _ _ => (gd_name 2 (pg_name (i := 2) sc_law_may.nd rfl (by first | exact Or.inl rfl | exact Or.inr rfl)))) (fun _ _ _ _ _ => (tsd_one (td_notN (pd_fn (F_law_behind.mono (by decide)) hr rfl (pd_cons (pd_var 0 (pv 0)) (pd_cons (pd_var 1 (pv 1)) (pd_cons (pd_var 2 (pv 2)) pd_nil))) (consE_len (consE_len (consE_len nilE_len))))))) (fun _ _ _ _ _ => (pd_var 2 (pv 2))) (by decide))), ?_⟩
  exact one_new (N := n_law_may) h
/-! ### row -/
abbrev n_law_row : List Str := ["_law_pen_here", "_law_house_here", "_law_stand_here", "_law_most", "_law_found", "_law_turn", "_law_some"]
theorem sc_law_row : FnScope n_law_row ["_law_pen_here", "_law_house_here", "_law_stand_here", "_law_most"] (defScope (top 114)) := ⟨rfl, rfl, rfl, by decide +kernel, rfl, by decide +kernel, by decide +kernel⟩
def sp_row (K : PySem.W.Frag) : Sp := fun vs H Q _ => ∃ (p : Addr) (n m : Nat) (hv sv : V) (h : House) (s : Stand), vs = [.ref p, hv, sv, .int (m : Int)] ∧ PenAt H p n ∧ Im K H hv (houseD h) ∧ Im K H sv (standD s) ∧ Good h ∧ GoodS h s ∧ m ≤ 12 ∧ n ≤ 80000 ∧
  ∀ v (r : List Deed) (s' : Stand) H', Fr p H H' → PenAt H' p (n + 13) → Im K H' v (rowD r) → run h s r = some s' → r.length ≤ m → (∀ d ∈ r, GoodD h d) → Q v H'
theorem mays_len {h : House} (G : Good h) (s : Stand) : (mays h s).length ≤ 12 := Nat.le_trans (List.length_filter_le _ _) (deeds_len G)
theorem ok_law_row (M : Mo mg) (D : Dn K mg "_law_row" (top 114)) (F_draw : FnAt P w K mg base 1 "_law_draw" ["_law_pen_here", "_law_many"] (sp_draw K)) (F_pick : FnAt P w K mg base 2 "_law_pick" ["_law_pen_here", "_law_some"] sp_pick)
    (F_may : FnAt P w K mg base 3 "_law_may" ["_law_house_here", "_law_stand_here"] (spF K 2 f_law_may)) (F_behind : FnAt P w K mg base 2 "_law_behind" ["_law_house_here", "_law_stand_here", "_law_deed"] (spD K 3 f_law_behind)) : FnAt P w K mg base 4 "_law_row" ["_law_pen_here", "_law_house_here", "_law_stand_here", "_law_most"] (sp_row K) := by
  obtain ⟨f, fd, F, hm⟩ := D.ex
  refine fn_raw (N := n_law_row) F hm (F.bindsN fun _ _ _ _ _ _ us hl => match us, hl with | [_, _, _, _], _ => rfl) sc_law_row (fun vs H Q E h => by obtain ⟨_, _, _, _, _, _, _, rfl, _⟩ := h; rfl) (fun cdv A outer s H vs Q E hr h => ?_)
  have nd := sc_law_row.nd
  refine ⟨_, pss_cons (ps_set (i := 4) nd rfl (.inl rfl) (pe_tup pa_nil))
    (pss_cons (ps_for PassesOwn.never rfl (pi_range1 rfl M.b_range (pa_cons (pe_fn (F_draw.mono (by decide)) hr (pa_cons (pv 0) (pa_cons (pe_op op_add (pv 3) pe_int) pa_nil))) pa_nil)) (pg_name (i := 5) nd rfl (.inl rfl))
      (pss_cons (ps_set (i := 6) nd rfl (.inl rfl) (pf_fn F_may hr rfl (pd_cons (pd_var 1 (pv 1)) (pd_cons (pd_var 2 (pv 2)) pd_nil)) (consE_len (consE_len nilE_len))))
      (pss_one (ps_if (td_ne hr.units (pd_var 6 (pv 6)) (pd_lst pd_nil))
        (pss_cons (ps_set (i := 4) nd rfl (.inl rfl) (pe_op op_catA (pv 4) (pe_tup (pa_cons (pe_fn (F_pick.mono (by decide)) hr (pa_cons (pv 0) (pa_cons (pv 6) pa_nil))) pa_nil))))
        (pss_one (ps_set (i := 2) nd rfl (.inl rfl) (pe_fn (F_behind.mono (by decide)) hr (pa_cons (pv 1) (pa_cons (pv 2) (pa_cons (pe_ix ix_tup (pv 4) (pe_un un_neg pe_int) (fun _ _ => rfl)) pa_nil)))))))
        pss_nil))))
    (pss_one (ps_ret (pv 4)))), ?_⟩
  obtain ⟨p, n, m, hv, sv, h, s0, rfl, hp, hH, hS, G, g0, hm12, hn, k⟩ := h
  refine ⟨Nat.zero_le _, fun T0 hT0 => ?_⟩
  have sT0 : Same H (upd H T0 (.tup [])) := Same.new hT0
  refine ⟨_, rfl, _, rfl, (m : Int), 1, rfl, rfl, ?_⟩
  refine ⟨p, m + 1, n, rfl, hp.same sT0, by omega, by omega, by omega, fun d H1 hd f1 p1 => ?_⟩
  have f01 := (Fr.of sT0).trans f1
  refine ⟨(d : Int), rfl, by omega, by omega, for_it walk_range (fun i σ3 H3 => ∃ (r : List Deed) (s' : Stand) (sv' : V) (fa : Addr) (fs : List V) (y5 y6 : Option V), σ3 = [some (.ref p), some hv, some sv', some (.int (m : Int)), some (.ref fa), y5, y6] ∧ Fr p H H3 ∧ PenAt H3 p (n + 1 + i) ∧ H3 fa = some (.tup fs) ∧ ImAll K H3 fs (r.map deedD) ∧ Im K H3 sv' (standD s') ∧ run h s0 r = some s' ∧ GoodS h s' ∧ r.length ≤ i ∧ ∀ d ∈ r, GoodD h d)
    ⟨[], s0, sv, T0, [], none, none, rfl, f01, p1, f1 _ _ ((hp.same sT0).ne upd_same) upd_same, .nil, hS.mono (f01.tk hp), rfl, g0, by simp, by simp⟩ (fun _ _ _ _ _ => trivial) ?_ ?_⟩
  · rintro i tx σ3 H30 H3 hi ⟨r, s', sv', fa, fs, y5, y6, rfl, f3, p3, h3, i3, j3, r3, g3, l3, d3⟩ ⟨rfl, _⟩
    have hid : i < d := by simpa using hi
    have hH3 := hH.mono (f3.tk hp)
    have ml := mays_len G s'
    refine ⟨[none, some (houseD h), some (standD s'), none, none, none, none], (mays h s').map deedD, repAll (.cons rNone (.cons (rSome (.inl hH3)) (.cons (rSome (.inl j3)) (.cons rNone (.cons rNone (.cons rNone (.cons rNone .nil))))))), by simp [law_may_ok G g3], fun S xs H4 hS4 s4 hS4' ix => ?_⟩
    have hxl : xs.length = (mays h s').length := by rw [ix.length, List.length_map]
    obtain ⟨o3, ho3⟩ := p3.some_
    have nS : S ≠ p := (ne_of_none ho3 hS4).symm
    refine ⟨[none, none, none, none, none, none, some (.list ((mays h s').map deedD))], !(mays h s').isEmpty, repAll (.cons rNone (.cons rNone (.cons rNone (.cons rNone (.cons rNone (.cons rNone (.cons (rSome (.inr ⟨S, xs, _, rfl, rfl, hS4', ix⟩)) .nil))))))), ?_, fun H5 s5 => ?_⟩
    · show neB (.list ((mays h s').map deedD)) (.list []) = _
      exact ne_nil fun q _ => by cases q <;> exact (show 1 ≤ 7 by decide)
    · have t5 := s4.trans s5
      have f5 := f3.trans (Fr.of t5)
      have p5 := p3.same t5
      by_cases he : (mays h s').isEmpty = true
      · rw [he]
        refine iteF ?_
        exact ⟨r, s', sv', fa, fs, _, _, rfl, f5, p5.le (by omega), t5 _ _ h3, i3.mono (same_tk t5), j3.mono (same_tk t5), r3, g3, by omega, d3⟩
      · have he2 : (mays h s').isEmpty = false := by simpa using he
        rw [he2]
        refine iteT ?_
        have hpos : 1 ≤ xs.length := by
          rw [hxl]
          cases hm : mays h s' with
          | nil => rw [hm] at he2; cases he2
          | cons a b => simp
        refine ⟨_, rfl, _, rfl, _, rfl, p, S, n + 1 + i, xs, rfl, p5, s5 _ _ hS4', nS, hpos, by omega, by omega, fun x H6 hx f6 p6 => ?_⟩
        obtain ⟨jj, hjj⟩ := List.mem_iff_getElem?.mp hx
        obtain ⟨dd, hdd, imx⟩ := ix.get' hjj
        rw [List.getElem?_map] at hdd
        obtain ⟨de, hde, rfl⟩ := Option.map_eq_some_iff.mp hdd
        have hmem := List.mem_of_getElem? hde
        have hcan : can h s' de = true := (List.mem_filter.mp hmem).2
        have hgd : GoodD h de := deeds_good.mp (List.mem_filter.mp hmem).1
        have f56 := (Fr.of s5).trans f6
        have imx6 : Im K H6 x (deedD de) := imx.mono (f56.tk (p3.same s4))
        have f36 := ((Fr.of t5).trans f6)
        have i6 := i3.mono (f36.tk p3)
        have j6 := j3.mono (f36.tk p3)
        have h6 : H6 fa = some (.tup fs) := f36 _ _ (p3.ne h3) h3
        refine ⟨by show 1 ≤ sizeLine; decide, fun T hT => ?_⟩
        have sT : Same H6 (upd H6 T (.tup [x])) := Same.new hT
        have lf := im_len i3
        have lf2 : fs.length = r.length := by rw [i3.length, List.length_map]
        have fin : ∀ fa2 H7, Same H6 H7 → H7 fa2 = some (.tup (fs ++ [x])) → ImAll K H7 (fs ++ [x]) ((r ++ [de]).map deedD) →
            (tAsg (tCall (spD K 3 f_law_behind) [] E0 (tCons (tVar 1) (tCons (tVar 2) (tCons (tOp (rIxT K) (tVar 4) (tUn (rU fun i => .int (-i)) (tC (.int 1)))) tNil)))) (gName 2) { nx := fun σ4 H4 => ∃ (r : List Deed) (s' : Stand) (sv' : V) (fa : Addr) (fs : List V) (y5 y6 : Option V), σ4 = [some (.ref p), some hv, some sv', some (.int (m : Int)), some (.ref fa), y5, y6] ∧ Fr p H H4 ∧ PenAt H4 p (n + 1 + (i + 1)) ∧ H4 fa = some (.tup fs) ∧ ImAll K H4 fs (r.map deedD) ∧ Im K H4 sv' (standD s') ∧ run h s0 r = some s' ∧ GoodS h s' ∧ r.length ≤ i + 1 ∧ ∀ d ∈ r, GoodD h d, rt := Q }
              [some (.ref p), some hv, some sv', some (.int (m : Int)), some (.ref fa2), some tx, some (.ref S)] H7) := by
          intro fa2 H7 s7 h7 i7
          have f7 := f5.trans (f6.trans (Fr.of s7))
          have hH7 := hH.mono (f7.tk hp)
          have hs7 := j6.mono (same_tk s7)
          have imx7 := imx6.mono (same_tk s7)
          refine ⟨_, rfl, _, rfl, _, rfl, 1, rfl, fa2, _, _, x, rfl, rfl, SqT.of h7, atI_last fs x, ?_⟩
          refine ⟨rfl, [houseD h, standD s', deedD de], behD h s' de, .cons (.inl hH7) (.cons (.inl hs7) (.cons (.inl imx7) .nil)), law_behind_ok G g3 hgd, fun v H8 s8 r8 => ?_⟩
          unfold behD at r8
          rw [if_pos hcan] at r8
          refine ⟨r ++ [de], done h s' de, v, fa2, fs ++ [x], _, _, rfl, f7.trans (Fr.of s8), ((p6.same s7).same s8).le (by omega), s8 _ _ h7, i7.mono (same_tk s8), r8.im rfl, run_snoc (s := s0) r3 hcan rfl, done_good G g3 hcan, by simp; omega, fun q hq => ?_⟩
          rcases List.mem_append.mp hq with hq | hq
          · exact d3 q hq
          · rw [List.mem_singleton.mp hq]
            exact hgd
        have iT : ImAll K (upd H6 T (.tup [x])) (fs ++ [x]) ((r ++ [de]).map deedD) := by
          rw [List.map_append]
          exact (i6.mono (same_tk sT)).snoc (imx6.mono (same_tk sT))
        refine ⟨fa, T, fs, [x], rfl, rfl, SqT.of (sT _ _ h6), SqT.of upd_same, Nat.le_trans (show fs.length + 1 ≤ 20 by omega) (by decide), fun e => ?_, fun _ e => (nomatch e), fun _ _ U hU => ?_⟩
        · subst e
          exact fin T _ sT upd_same iT
        · have sU : Same (upd H6 T (.tup [x])) (upd (upd H6 T (.tup [x])) U (.tup (fs ++ [x]))) := Same.new hU
          exact fin U _ (sT.trans sU) upd_same (iT.mono (same_tk sU))
  · rintro σ3 H3 ⟨r, s', sv', fa, fs, y5, y6, rfl, f3, p3, h3, i3, j3, r3, g3, l3, d3⟩
    have l3 : r.length ≤ d := by simpa using l3
    have p3 : PenAt H3 p (n + 1 + d) := by simpa using p3
    exact ⟨_, rfl, k (.ref fa) r s' H3 f3 (p3.le (by omega)) (.tup h3 i3) r3 (by omega) d3⟩
end
end Wk

set_option maxHeartbeats 4000000
/-! house -/
namespace Wk
open PySem L2 PyProof.Rows
section
variable {P : Program} {w : World} {K : PySem.W.Frag} {mg : Str → Option Value} {base : Heap}
abbrev n_law_house : List Str := ["_law_pen_here", "_law_teeth", "_law_halls", "_law_letters", "_law_wears", "_law_doors", "_law_place", "_law_benches", "_law_smiths", "_law_letter", "_law_tooth", "_law_hall"]
theorem sc_law_house : FnScope n_law_house ["_law_pen_here"] (defScope (top 108)) := ⟨rfl, rfl, rfl, by decide +kernel, rfl, by decide +kernel, by decide +kernel⟩
def wearScope : Scope := { kind := .function, names := [(".0", .local), ("_law_letter", .local), ("tuple", .globalImplicit), ("range", .globalImplicit), ("_law_pen_here", .cell), ("_law_teeth", .cell)], isGenerator := false, isCoroutine := false }
structure Small (h : House) : Prop where
  w3 : h.wears.length ≤ 3
  b4 : h.benches.length ≤ 4
  s4 : h.smiths.length ≤ 4
  h4 : h.halls ≤ 4
def sp_house (K : PySem.W.Frag) : Sp := fun vs H Q _ => ∃ (p : Addr) (n : Nat), vs = [.ref p] ∧ PenAt H p n ∧ n ≤ 50000 ∧ ∀ v (h : House) H', Fr p H H' → PenAt H' p (n + 232) → Im K H' v (houseD h) → Good h → Small h → Q v H'
abbrev tDraw (K : PySem.W.Frag) (m : Int) : TE := tCall (sp_draw K) [] E0 (tCons (tVar 0) (tCons (tC (.int m)) tNil))
theorem im_doors {K : PySem.W.Frag} {H : Hp} {xs : List V} {ds : List Door} {x : V} {d : Door} (h : ImAll K H xs (ds.map doorD)) (hx : Im K H x (doorD d)) : ImAll K H (xs ++ [x]) ((ds ++ [d]).map doorD) := by
  rw [List.map_append]
  exact h.snoc hx
abbrev rTup (K : PySem.W.Frag) : List V → Hp → VK → Prop := fun xs H Q => ∃ p ys, xs = [.ref p] ∧ ((SqL K H p ys ∧ ∀ l, H l = none → Q (.ref l) (upd H l (.tup ys))) ∨ (SqT K H p ys ∧ Q (.ref p) H))
structure DoorsOk (t a b i : Nat) (ds : List Door) : Prop where
  g : ∀ d ∈ ds, (∃ j, j < i ∧ d.hall = j / b ∧ d.letter = j % b) ∧ d.to < a ∧ d.gaps.length = t ∧ ∀ g ∈ d.gaps, g.1 ≤ g.2 ∧ g.2 ≤ 6
  s : ds.Pairwise (fun a b => a.hall < b.hall ∨ (a.hall = b.hall ∧ a.letter < b.letter))
theorem DoorsOk.le {t a b i j : Nat} {ds : List Door} (h : DoorsOk t a b i ds) (l : i ≤ j) : DoorsOk t a b j ds := ⟨fun d hd => by
  obtain ⟨⟨q, h1, h2⟩, h3⟩ := h.g d hd
  exact ⟨⟨q, by omega, h2⟩, h3⟩, h.s⟩
theorem pairwise_snoc {α : Type} {R : α → α → Prop} {l : List α} {x : α} (h : l.Pairwise R) (k : ∀ y ∈ l, R y x) : (l ++ [x]).Pairwise R := by
  rw [List.pairwise_append]
  refine ⟨h, List.pairwise_singleton _ _, fun y hy z hz => ?_⟩
  rw [List.mem_singleton.mp hz]
  exact k y hy
theorem DoorsOk.snoc {t a b i : Nat} {ds : List Door} (hb : 1 ≤ b) {e : Nat} {bx : Box} (h : DoorsOk t a b i ds) (he : e < a) (hx : GoodB t bx) : DoorsOk t a b (i + 1) (ds ++ [⟨i / b, i % b, e, bx⟩]) := by
  refine ⟨fun d hd => ?_, pairwise_snoc h.s fun d hd => ?_⟩
  · rcases List.mem_append.mp hd with hd | hd
    · exact (h.le (Nat.le_succ i)).g d hd
    · rw [List.mem_singleton.mp hd]
      exact ⟨⟨i, by omega, rfl, rfl⟩, he, hx.1, hx.2⟩
  · obtain ⟨⟨j, h1, h2, h3⟩, _⟩ := h.g d hd
    show d.hall < i / b ∨ (d.hall = i / b ∧ d.letter < i % b)
    rw [h2, h3]
    have hle : j / b ≤ i / b := Nat.div_le_div_right (Nat.le_of_lt h1)
    by_cases e : j / b = i / b
    · refine .inr ⟨e, ?_⟩
      have e1 := Nat.div_add_mod j b
      have e2 := Nat.div_add_mod i b
      rw [e] at e1
      omega
    · exact .inl (by omega)
theorem ok_law_house (M : Mo mg) (D : Dn K mg "_law_house" (top 108)) (F_draw : FnAt P w K mg base 1 "_law_draw" ["_law_pen_here", "_law_many"] (sp_draw K)) (F_box : FnAt P w K mg base 2 "_law_box" ["_law_pen_here", "_law_teeth"] (sp_box K)) : FnAt P w K mg base 3 "_law_house" ["_law_pen_here"] (sp_house K) := by
  obtain ⟨f, fd, F, hm⟩ := D.ex
  refine fn_raw (N := n_law_house) F hm (F.bindsN fun _ _ _ _ _ _ us hl => match us, hl with | [_], _ => rfl) sc_law_house (fun vs H Q E h => by obtain ⟨_, _, rfl, _⟩ := h; rfl) (fun cdv A outer s H vs Q E hr h => ?_)
  have nd := sc_law_house.nd
  have Fd := F_draw.mono (show 1 ≤ 2 by decide)
  refine ⟨_, pss_cons (ps_asg (pe_tup (pa_cons (pe_ix ix_list (pe_lst (pa_cons pe_int (pa_cons pe_int (pa_cons pe_int (pa_cons pe_int (pa_cons pe_int pa_nil)))))) (pe_fn Fd hr (pa_cons (pv 0) (pa_cons pe_int pa_nil))) (fun _ _ => rfl)) (pa_cons (pe_op op_add pe_int (pe_fn Fd hr (pa_cons (pv 0) (pa_cons pe_int pa_nil)))) (pa_cons (pe_op op_add pe_int (pe_fn Fd hr (pa_cons (pv 0) (pa_cons pe_int pa_nil)))) pa_nil))))
      (pg_tup rfl (pgs_cons (pg_name (i := 1) nd rfl (by first | exact Or.inl rfl | exact Or.inr rfl)) (pgs_cons (pg_name (i := 2) nd rfl (by first | exact Or.inl rfl | exact Or.inr rfl)) (pgs_cons (pg_name (i := 3) nd rfl (by first | exact Or.inl rfl | exact Or.inr rfl)) pgs_nil)))))
    (pss_cons (ps_set (i := 4) nd rfl (by first | exact Or.inl rfl | exact Or.inr rfl) (pe_callTy call_tuple_of rfl M.b_tuple PyProof.Rows.boot_tuple (pa_cons
      (pe_lc (own := [("_law_letter", 9)]) (g := gName 9) (tt := tYes)
        (te := tCB (rTup K) (tCons (tLc (iRng1 (tCons (tVar 1) tNil)) (gName 10) tYes (tOp (rIxL K) (tLst (tCons (tC (.int 0)) (tCons (tC (.int 1)) (tCons (tC (.int 2)) (tCons (tC (.int 3)) tNil))))) (tDraw K 4)) [10]) tNil))
        rfl nd (pi_range1 rfl M.b_range (pa_cons (pv 3) pa_nil)) (blkOk_by (own := [("_law_letter", 9)]) (N := n_law_house) (sc := defScope (top 108)) (by decide +kernel)) (fun _ _ _ _ _ => pg_name (i := 9) nd rfl (by first | exact Or.inl rfl | exact Or.inr rfl)) (fun _ _ _ _ _ => pts_nil)
        (fun _ _ _ _ _ => pe_callTy call_tuple_of rfl M.b_tuple PyProof.Rows.boot_tuple (pa_cons
          (pe_lc (own := [("_law_tooth", 10)]) (g := gName 10) (tt := tYes) (te := tOp (rIxL K) (tLst (tCons (tC (.int 0)) (tCons (tC (.int 1)) (tCons (tC (.int 2)) (tCons (tC (.int 3)) tNil))))) (tDraw K 4))
            rfl nd (pi_range1 rfl M.b_range (pa_cons (pv 1) pa_nil)) (blkOk_by (own := [("_law_tooth", 10)]) (N := n_law_house) (sc := wearScope) (by decide +kernel)) (fun _ _ _ _ _ => pg_name (i := 10) nd rfl (by first | exact Or.inl rfl | exact Or.inr rfl)) (fun _ _ _ _ _ => pts_nil)
            (fun _ _ _ _ _ => pe_ix ix_list (pe_lst (pa_cons pe_int (pa_cons pe_int (pa_cons pe_int (pa_cons pe_int pa_nil))))) (pe_fn Fd hr (pa_cons (pv 0) (pa_cons pe_int pa_nil))) (fun _ _ => rfl))) pa_nil))) pa_nil)))
    (pss_cons (ps_set (i := 5) nd rfl (by first | exact Or.inl rfl | exact Or.inr rfl) (pe_lst pa_nil))
    (pss_cons (ps_for PassesOwn.never rfl (pi_range1 rfl M.b_range (pa_cons (pe_op op_mulN (pv 2) (pv 3)) pa_nil)) (pg_name (i := 6) nd rfl (by first | exact Or.inl rfl | exact Or.inr rfl))
      (pss_one (ps_if (PW.pt (pw_and (pt_cmpR op_gt (pe_fn Fd hr (pa_cons (pv 0) (pa_cons pe_int pa_nil))) pe_int (nomark _)) (pw_and1 (pt_cmpR op_lt (pe_callB call_len_seq rfl M.b_len PySem.boot_len (pa_cons (pv 5) pa_nil)) pe_int (nomark _)))))
        (pss_one (ps_expr (pe_bm PySem.F.plainAttrs_list PySem.F.slot_list_append PySem.F.type_list_append mt_append (pv 5) (pa_cons (pe_tup (pa_cons (pe_op op_fdivNN (pv 6) (pv 3)) (pa_cons (pe_op op_mod (pv 6) (pv 3)) (pa_cons (pe_fn Fd hr (pa_cons (pv 0) (pa_cons (pv 2) pa_nil))) (pa_cons (pe_fn F_box hr (pa_cons (pv 0) (pa_cons (pv 1) pa_nil))) pa_nil))))) pa_nil))))
        pss_nil)))
    (pss_cons (ps_set (i := 7) nd rfl (by first | exact Or.inl rfl | exact Or.inr rfl) (pe_callTy call_tuple_of rfl M.b_tuple PyProof.Rows.boot_tuple (pa_cons
      (pe_lc (own := [("_law_hall", 11)]) (g := gName 11) (tt := tTest (tOp rEq (tDraw K 3) (tC (.int 0)))) (te := tVar 11)
        rfl nd (pi_range1 rfl M.b_range (pa_cons (pv 2) pa_nil)) (blkOk_by (own := [("_law_hall", 11)]) (N := n_law_house) (sc := defScope (top 108)) (by decide +kernel)) (fun _ _ _ _ _ => pg_name (i := 11) nd rfl (by first | exact Or.inl rfl | exact Or.inr rfl))
        (fun _ _ _ _ _ => pts_one (pt_cmpR op_eq (pe_fn Fd hr (pa_cons (pv 0) (pa_cons pe_int pa_nil))) pe_int (nomark _))) (fun _ _ _ _ _ => pv 11)) pa_nil)))
    (pss_cons (ps_setLc (i := 8) (own := [("_law_hall", 11)]) (g := gName 11) (tt := tTest (tOp rEq (tDraw K 3) (tC (.int 0)))) (te := tTup (tCons (tVar 11) (tCons (tOp (rI0 fun i j => .int (i + j)) (tC (.int 1)) (tDraw K 6)) (tCons (tOp (rI0 fun i j => .int (i + j)) (tC (.int 1)) (tDraw K 9)) tNil))))
        rfl nd rfl rfl (sw_true rfl rfl rfl (by decide +kernel)) (pi_range1 rfl M.b_range (pa_cons (pv 2) pa_nil)) (blkOk_by (own := [("_law_hall", 11)]) (N := n_law_house) (sc := defScope (top 108)) (by decide +kernel)) (fun _ _ _ _ _ => pg_name (i := 11) nd rfl (by first | exact Or.inl rfl | exact Or.inr rfl))
        (fun _ _ _ _ _ => pts_one (pt_cmpR op_eq (pe_fn Fd hr (pa_cons (pv 0) (pa_cons pe_int pa_nil))) pe_int (nomark _)))
        (fun _ _ _ _ _ => pe_tup (pa_cons (pv 11) (pa_cons (pe_op op_add pe_int (pe_fn Fd hr (pa_cons (pv 0) (pa_cons pe_int pa_nil)))) (pa_cons (pe_op op_add pe_int (pe_fn Fd hr (pa_cons (pv 0) (pa_cons pe_int pa_nil)))) pa_nil)))))
    (pss_one (ps_ret (pe_tup (pa_cons (pv 1) (pa_cons (pv 2) (pa_cons (pv 4) (pa_cons (pe_callTy call_tuple_of rfl M.b_tuple PyProof.Rows.boot_tuple (pa_cons (pv 5) pa_nil)) (pa_cons (pv 7) (pa_cons (pe_callTy call_tuple_of rfl M.b_tuple PyProof.Rows.boot_tuple (pa_cons (pv 8) pa_nil)) pa_nil)))))))))))))), ?_⟩
  obtain ⟨p, n, rfl, hp, hn, k⟩ := h
  obtain ⟨o, ho⟩ := hp.some_
  refine ⟨by show 5 ≤ sizeLine; decide, fun L hL => ?_⟩
  have sL : Same H (upd H L (.lst [.int 1, .int 2, .int 2, .int 2, .int 3])) := Same.new hL
  refine ⟨_, rfl, p, 5, n, rfl, hp.same sL, by omega, by omega, by omega, fun d0 H1 hd0 f1 p1 => ?_⟩
  obtain ⟨t, ht, t1, t3⟩ : ∃ t : Nat, ([.int 1, .int 2, .int 2, .int 2, .int 3] : List V)[d0]? = some (.int (t : Int)) ∧ 1 ≤ t ∧ t ≤ 3 := by
    match d0, hd0 with
    | 0, _ => exact ⟨1, rfl, by omega, by omega⟩
    | 1, _ => exact ⟨2, rfl, by omega, by omega⟩
    | 2, _ => exact ⟨2, rfl, by omega, by omega⟩
    | 3, _ => exact ⟨2, rfl, by omega, by omega⟩
    | 4, _ => exact ⟨3, rfl, by omega, by omega⟩
  refine ⟨L, _, _, _, rfl, rfl, SqL.of (f1 _ _ (ne_of_none ho hL).symm upd_same), atI_nat ht, ?_⟩
  refine ⟨_, rfl, p, 4, n + 1, rfl, p1, by omega, by omega, by omega, fun d1 H2 hd1 f2 p2 => ?_⟩
  refine ⟨1, d1, rfl, rfl, ?_⟩
  refine ⟨_, rfl, p, 3, n + 2, rfl, p2, by omega, by omega, by omega, fun d2 H3 hd2 f3 p3 => ?_⟩
  refine ⟨1, d2, rfl, rfl, by show 3 ≤ sizeLine; decide, fun T hT => ?_⟩
  obtain ⟨a, ha, a1, a4⟩ : ∃ a : Nat, (1 : Int) + (d1 : Int) = (a : Int) ∧ 1 ≤ a ∧ a ≤ 4 := ⟨1 + d1, by omega, by omega, by omega⟩
  obtain ⟨b, hb, b1, b3⟩ : ∃ b : Nat, (1 : Int) + (d2 : Int) = (b : Int) ∧ 1 ≤ b ∧ b ≤ 3 := ⟨1 + d2, by omega, by omega, by omega⟩
  dsimp only
  rw [ha, hb]
  have sT : Same H3 (upd H3 T (.tup [.int (t : Int), .int (a : Int), .int (b : Int)])) := Same.new hT
  refine ⟨T, _, rfl, SqT.of upd_same, rfl, _, _, rfl, _, _, rfl, _, _, rfl, rfl, ?_⟩
  have f03 : Fr p H (upd H3 T (.tup [.int (t : Int), .int (a : Int), .int (b : Int)])) := ((((Fr.of sL).trans f1).trans f2).trans f3).trans (Fr.of sT)
  have p03 := p3.same sT
  generalize upd H3 T (.tup [.int (t : Int), .int (a : Int), .int (b : Int)]) = Ha at f03 p03 ⊢
  clear sT hT f3 p3 f2 p2 ht f1 p1 sL hL hd0 hd1 hd2 ha hb
  -- wears
  obtain ⟨oa, hoa⟩ := p03.some_
  refine ⟨_, rfl, (b : Int), rfl, by omega, by omega, fun D1 hD1 => ?_⟩
  have n1 : D1 ≠ p := (ne_of_none hoa hD1).symm
  refine lc_it walk_range (fun i H1 => ∃ (xs : List V) (ws : List (List Nat)), Fr p Ha H1 ∧ PenAt H1 p (n + 3 + 3 * i) ∧ H1 D1 = some (.lst xs) ∧ ImAll K H1 xs (ws.map keyD) ∧ ws.length = i ∧ ∀ w ∈ ws, w.length = t ∧ ∀ x ∈ w, x ≤ 3)
    ⟨[], [], Fr.of (Same.new hD1), p03.same (Same.new hD1), upd_same, .nil, rfl, by simp⟩ (fun _ _ _ _ => trivial) ?_ ?_
  · rintro i x H10 H1 hi ⟨xs, ws, f1, p1, h1, h2, h3, h4⟩ ⟨rfl, _⟩
    have hib : i < b := by simpa using hi
    refine ⟨rfl, ?_⟩
    refine yesT ?_
    obtain ⟨o1, ho1⟩ := p1.some_
    refine ⟨_, rfl, (t : Int), rfl, by omega, by omega, fun D2 hD2 => ?_⟩
    have n2 : D2 ≠ p := (ne_of_none ho1 hD2).symm
    refine lc_it walk_range (fun j H2 => ∃ ks : List Nat, Fr p H1 H2 ∧ PenAt H2 p (n + 3 + 3 * i + j) ∧ H2 D2 = some (.lst (ks.map fun (x : Nat) => V.int (x : Int))) ∧ ks.length = j ∧ ∀ x ∈ ks, x ≤ 3)
      ⟨[], Fr.of (Same.new hD2), p1.same (Same.new hD2), upd_same, rfl, by simp⟩ (fun _ _ _ _ => trivial) ?_ ?_
    · rintro j y H20 H2 hj ⟨ks, f2, p2, g1, g2, g3⟩ ⟨rfl, _⟩
      have hjt : j < t := by simpa using hj
      refine ⟨rfl, ?_⟩
      refine yesT ?_
      obtain ⟨o2, ho2⟩ := p2.some_
      refine ⟨by show 4 ≤ sizeLine; decide, fun L hL => ?_⟩
      have sL : Same H2 (upd H2 L (.lst [.int 0, .int 1, .int 2, .int 3])) := Same.new hL
      refine ⟨_, rfl, p, 4, n + 3 + 3 * i + j, rfl, p2.same sL, by omega, by omega, by omega, fun d H3 hd f3 p3 => ?_⟩
      have hx : ([.int 0, .int 1, .int 2, .int 3] : List V)[d]? = some (.int (d : Int)) := by
        match d, hd with
        | 0, _ => rfl
        | 1, _ => rfl
        | 2, _ => rfl
        | 3, _ => rfl
      refine ⟨L, _, _, _, rfl, rfl, SqL.of (f3 _ _ (ne_of_none ho2 hL).symm upd_same), atI_nat hx, ?_⟩
      have hD3 := f3 _ _ n2 (sL _ _ g1)
      refine ⟨_, hD3, ?_, ks ++ [d], Fr.mut ((f2.trans (Fr.of sL)).trans f3) hD2, (p3.other n2.symm).le (by omega), by rw [upd_same, List.map_append]; rfl, by simp [g2], fun y hy => ?_⟩
      · rw [List.length_map, g2]
        exact Nat.lt_of_le_of_lt (show j ≤ 3 by omega) (by decide)
      · rcases List.mem_append.mp hy with hy | hy
        · exact g3 y hy
        · rw [List.mem_singleton.mp hy]
          omega
    · rintro H2 ⟨ks, f2, p2, g1, g2, g3⟩
      have g2 : ks.length = t := by simpa using g2
      have p2 : PenAt H2 p (n + 3 + 3 * i + t) := by simpa using p2
      refine ⟨D2, _, rfl, .inl ⟨SqL.of g1, fun T hT => ?_⟩⟩
      have sT : Same H2 (upd H2 T (.tup (ks.map fun (x : Nat) => V.int (x : Int)))) := Same.new hT
      have hDT := sT _ _ (f2 _ _ n1 h1)
      have lx : xs.length = ws.length := by rw [h2.length, List.length_map]
      have pT := p2.same sT
      have tkR : TK (upd H2 T (.tup (ks.map fun (x : Nat) => V.int (x : Int)))) (upd (upd H2 T (.tup (ks.map fun (x : Nat) => V.int (x : Int)))) D1 (.lst (xs ++ [.ref T]))) := TK.updL hDT
      refine ⟨_, hDT, Nat.lt_of_le_of_lt (show xs.length ≤ 3 by omega) (by decide), xs ++ [.ref T], ws ++ [ks], Fr.mut ((f1.trans f2).trans (Fr.of sT)) hD1, (pT.other n1.symm).le (by omega), upd_same, ?_, by simp [h3], fun w hw => ?_⟩
      · rw [List.map_append]
        exact (((h2.mono (f2.tk p1)).mono (same_tk sT)).mono tkR).snoc ((Im.tup upd_same (im_nats ks)).mono tkR)
      · rcases List.mem_append.mp hw with hw | hw
        · exact h4 w hw
        · rw [List.mem_singleton.mp hw]
          exact ⟨g2, g3⟩
  rintro Hb ⟨xs, ws, f1, p1, h1, h2, h3, h4⟩
  have h3 : ws.length = b := by simpa using h3
  have p1 : PenAt Hb p (n + 3 + 3 * b) := by simpa using p1
  refine ⟨D1, _, rfl, .inl ⟨SqL.of h1, fun Tw hTw => ?_⟩⟩
  have sTw : Same Hb (upd Hb Tw (.tup xs)) := Same.new hTw
  have fw := (f03.trans f1).trans (Fr.of sTw)
  have pw : PenAt (upd Hb Tw (.tup xs)) p (n + 12) := (p1.same sTw).le (by omega)
  have imw : Im K (upd Hb Tw (.tup xs)) (.ref Tw) (.tuple (ws.map keyD)) := .tup upd_same (h2.mono (same_tk sTw))
  generalize upd Hb Tw (.tup xs) = Hw at fw pw imw ⊢
  clear sTw hTw h2 h1 p1 f1 hD1 n1 f03 p03 hoa
  -- doors
  obtain ⟨ow, how⟩ := pw.some_
  refine ⟨by decide, fun R hR => ?_⟩
  have nR : R ≠ p := (ne_of_none how hR).symm
  have sR : Same Hw (upd Hw R (.lst [])) := Same.new hR
  have hab : a * b ≤ 12 := Nat.mul_le_mul a4 b3
  refine ⟨_, rfl, _, rfl, a, b, rfl, rfl, by omega, ?_⟩
  refine ⟨((a * b : Nat) : Int), rfl, by omega, by omega, ?_⟩
  refine for_it walk_range (fun i σ3 H3 => ∃ (fs : List V) (ds : List Door) (y6 : Option V), σ3 = [some (.ref p), some (.int (t : Int)), some (.int (a : Int)), some (.int (b : Int)), some (.ref Tw), some (.ref R), y6, none, none, none, none, none] ∧ Fr p Hw H3 ∧ PenAt H3 p (n + 12 + 17 * i) ∧ H3 R = some (.lst fs) ∧ ImAll K H3 fs (ds.map doorD) ∧ ds.length ≤ 10 ∧ DoorsOk t a b i ds)
    ⟨[], [], none, rfl, Fr.of sR, pw.same sR, upd_same, .nil, by simp, ⟨by simp, .nil⟩⟩ (fun _ _ _ _ _ => trivial) ?_ ?_
  · rintro i x σ3 H30 H3 hi ⟨fs, ds, y6, rfl, f3, p3, h3, i3, l3, d3⟩ ⟨rfl, hx0⟩
    have hic : i < a * b := hi
    obtain rfl : x = V.int (i : Nat) := by
      rw [hx0]
      show V.int (0 + (i : Nat)) = _
      rw [Int.zero_add]
    have lf : fs.length = ds.length := by rw [i3.length, List.length_map]
    have hib : i / b < a := Nat.div_lt_of_lt_mul (by rw [Nat.mul_comm]; exact hic)
    have himb : i % b < b := Nat.mod_lt _ (by omega)
    refine ⟨_, rfl, p, 3, n + 12 + 17 * i, rfl, p3, by omega, by omega, by omega, fun d H4 hd f4 p4 => ?_⟩
    have h4' : H4 R = some (.lst fs) := f4 _ _ nR h3
    have f34 := f3.trans f4
    have i4 := i3.mono (f4.tk p3)
    refine ⟨(d : Int), 0, rfl, rfl, _, rfl, ?_⟩
    by_cases hd0 : (0 : Int) < (d : Int)
    · rw [decide_eq_true hd0]
      refine iteT ?_
      refine ⟨_, rfl, R, fs, rfl, .inl (SqL.of h4'), (fs.length : Int), 10, rfl, rfl, _, rfl, ?_⟩
      by_cases hl : (fs.length : Int) < 10
      · rw [decide_eq_true hl]
        refine iteT ?_
        refine ⟨_, rfl, .inl ⟨rfl, _, SqL.of h4'⟩, ?_⟩
        refine ⟨_, rfl, _, rfl, i, b, rfl, rfl, ⟨by omega, by omega⟩, ?_⟩
        refine ⟨_, rfl, _, rfl, (i : Int), (b : Int), rfl, rfl, by show (0 : Int) < (b : Int); omega, ?_⟩
        refine ⟨_, rfl, _, rfl, p, a, n + 12 + 17 * i + 1, rfl, p4, by omega, by omega, by omega, fun e H5 he f5 p5 => ?_⟩
        refine ⟨_, rfl, _, rfl, p, t, n + 12 + 17 * i + 2, rfl, p5, t3, by omega, fun bv bx H6 f6 p6 im6 g6 => ?_⟩
        refine ⟨by show 4 ≤ sizeLine; decide, fun T hT => ?_⟩
        have sT : Same H6 (upd H6 T (.tup [.int ((i / b : Nat) : Int), .int ((i % b : Nat) : Int), .int (e : Int), bv])) := Same.new hT
        have f46 := f5.trans f6
        have h6 := f46 _ _ nR h4'
        have hRT := sT _ _ h6
        have iT := (i4.mono (f46.tk p4)).mono (same_tk sT)
        have imD : Im K (upd H6 T (.tup [.int ((i / b : Nat) : Int), .int ((i % b : Nat) : Int), .int (e : Int), bv])) (.ref T) (doorD ⟨i / b, i % b, e, bx⟩) := .tup upd_same (.cons (.int _) (.cons (.int _) (.cons (.int _) (.cons (im6.mono (same_tk sT)) .nil))))
        have fT := ((f34.trans f46).trans (Fr.of sT))
        have pT := p6.same sT
        refine ⟨R, fs, _, rfl, rfl, hRT, Nat.lt_of_le_of_lt (show fs.length ≤ 10 by omega) (by decide), ?_⟩
        have tkR : TK (upd H6 T (.tup [.int ((i / b : Nat) : Int), .int ((i % b : Nat) : Int), .int (e : Int), bv])) (upd (upd H6 T (.tup [.int ((i / b : Nat) : Int), .int ((i % b : Nat) : Int), .int (e : Int), bv])) R (.lst (fs ++ [.ref T]))) := TK.updL hRT
        exact ⟨fs ++ [.ref T], ds ++ [⟨i / b, i % b, e, bx⟩], _, rfl, Fr.mut fT hR, (pT.other nR.symm).le (by omega), upd_same, im_doors (iT.mono tkR) (imD.mono tkR), by simp; omega, d3.snoc b1 he g6⟩
      · rw [decide_eq_false hl]
        refine iteF ?_
        exact ⟨fs, ds, _, rfl, f34, p4.le (by omega), h4', i4, l3, d3.le (Nat.le_succ i)⟩
    · rw [decide_eq_false hd0]
      refine iteF ?_
      exact ⟨fs, ds, _, rfl, f34, p4.le (by omega), h4', i4, l3, d3.le (Nat.le_succ i)⟩
  rintro σ3 H3 ⟨fs, ds, y6, rfl, f3, p3, h3d, i3, l3, d3⟩
  have d3 : DoorsOk t a b (a * b) ds := d3
  have p3 : PenAt H3 p (n + 216) := by
    have : PenAt H3 p (n + 12 + 17 * (a * b)) := p3
    exact this.le (by omega)
  have fd := fw.trans f3
  have imw3 := imw.mono (f3.tk pw)
  clear f3 imw pw fw sR hR how
  -- benches
  obtain ⟨o3, ho3⟩ := p3.some_
  refine ⟨_, rfl, (a : Int), rfl, by omega, by omega, fun D2 hD2 => ?_⟩
  have n2 : D2 ≠ p := (ne_of_none ho3 hD2).symm
  refine lc_it walk_range (fun i H1 => ∃ bs : List Nat, Fr p H3 H1 ∧ PenAt H1 p (n + 216 + i) ∧ H1 D2 = some (.lst (bs.map fun (x : Nat) => V.int (x : Int))) ∧ bs.length ≤ i ∧ (∀ x ∈ bs, x < i) ∧ bs.Pairwise (· < ·))
    ⟨[], Fr.of (Same.new hD2), p3.same (Same.new hD2), upd_same, by simp, by simp, .nil⟩ (fun _ _ _ _ => trivial) ?_ ?_
  · rintro i x H10 H1 hi ⟨bs, f1, p1, g1, g2, g3, g4⟩ ⟨rfl, hx0⟩
    have hia : i < a := by simpa using hi
    obtain rfl : x = V.int (i : Nat) := by
      rw [hx0]
      show V.int (0 + (i : Nat)) = _
      rw [Int.zero_add]
    refine ⟨rfl, ?_⟩
    refine ⟨_, rfl, p, 3, n + 216 + i, rfl, p1, by omega, by omega, by omega, fun d H4 hd f4 p4 => ?_⟩
    have hD4 := f4 _ _ n2 g1
    refine ⟨rfl, _, rfl, ?_⟩
    by_cases hq : V.int (d : Int) = V.int 0
    · rw [decide_eq_true hq]
      refine iteT ?_
      refine ⟨_, rfl, _, hD4, ?_, bs ++ [i], Fr.mut (f1.trans f4) hD2, (p4.other n2.symm).le (by omega), by rw [upd_same, List.map_append]; rfl, by simp; omega, fun y hy => ?_, pairwise_snoc g4 g3⟩
      · rw [List.length_map]
        exact Nat.lt_of_le_of_lt (show bs.length ≤ 4 by omega) (by decide)
      · rcases List.mem_append.mp hy with hy | hy
        · have := g3 y hy
          omega
        · rw [List.mem_singleton.mp hy]
          omega
    · rw [decide_eq_false hq]
      refine iteF ?_
      exact ⟨bs, f1.trans f4, p4.le (by omega), hD4, by omega, fun y hy => by have := g3 y hy; omega, g4⟩
  rintro H1 ⟨bs, f1, p1, g1, g2, g3, g4⟩
  have g2 : bs.length ≤ a := by simpa using g2
  have g3 : ∀ x ∈ bs, x < a := by simpa using g3
  have p1 : PenAt H1 p (n + 216 + a) := by simpa using p1
  refine ⟨D2, _, rfl, .inl ⟨SqL.of g1, fun Tb hTb => ?_⟩⟩
  have sTb : Same H1 (upd H1 Tb (.tup (bs.map fun (x : Nat) => V.int (x : Int)))) := Same.new hTb
  have fb := f1.trans (Fr.of sTb)
  have pb : PenAt (upd H1 Tb (.tup (bs.map fun (x : Nat) => V.int (x : Int)))) p (n + 220) := (p1.same sTb).le (by omega)
  have imb : Im K (upd H1 Tb (.tup (bs.map fun (x : Nat) => V.int (x : Int)))) (.ref Tb) (.tuple (bs.map nD)) := .tup upd_same (im_nats bs)
  have hRb := fb _ _ nR h3d
  have ib := i3.mono (fb.tk p3)
  have imwb := imw3.mono (fb.tk p3)
  have fdb := fd.trans fb
  generalize upd H1 Tb (.tup (bs.map fun (x : Nat) => V.int (x : Int))) = Hc at pb imb hRb ib imwb fdb ⊢
  clear fb sTb hTb g1 p1 f1 n2 hD2 ho3 fd imw3 p3 h3d i3
  -- smiths
  obtain ⟨oc, hoc⟩ := pb.some_
  refine ⟨_, rfl, (a : Int), rfl, by omega, by omega, fun D3 hD3 => ?_⟩
  have n3 : D3 ≠ p := (ne_of_none hoc hD3).symm
  refine lc_it walk_range (fun i H1 => ∃ (xs : List V) (ss : List (Nat × Nat × Nat)), Fr p Hc H1 ∧ PenAt H1 p (n + 220 + 3 * i) ∧ H1 D3 = some (.lst xs) ∧ ImAll K H1 xs (ss.map smithD) ∧ ss.length ≤ i ∧ (∀ s ∈ ss, s.1 < i ∧ 1 ≤ s.2.1 ∧ s.2.1 ≤ 6 ∧ 1 ≤ s.2.2 ∧ s.2.2 ≤ 9) ∧ ss.Pairwise (fun a b => a.1 < b.1))
    ⟨[], [], Fr.of (Same.new hD3), pb.same (Same.new hD3), upd_same, .nil, by simp, by simp, .nil⟩ (fun _ _ _ _ => trivial) ?_ ?_
  · rintro i x H10 H1 hi ⟨xs, ss, f1, p1, g1, q1, r2, r3, r4⟩ ⟨rfl, hx0⟩
    have hia : i < a := by simpa using hi
    obtain rfl : x = V.int (i : Nat) := by
      rw [hx0]
      show V.int (0 + (i : Nat)) = _
      rw [Int.zero_add]
    have lx : xs.length = ss.length := by rw [q1.length, List.length_map]
    refine ⟨rfl, ?_⟩
    refine ⟨_, rfl, p, 3, n + 220 + 3 * i, rfl, p1, by omega, by omega, by omega, fun d H4 hd f4 p4 => ?_⟩
    have hD4 := f4 _ _ n3 g1
    refine ⟨rfl, _, rfl, ?_⟩
    by_cases hq : V.int (d : Int) = V.int 0
    · rw [decide_eq_true hq]
      refine iteT ?_
      refine ⟨_, rfl, _, rfl, p, 6, n + 220 + 3 * i + 1, rfl, p4, by omega, by omega, by omega, fun e1 H5 he1 f5 p5 => ?_⟩
      refine ⟨1, e1, rfl, rfl, ?_⟩
      refine ⟨_, rfl, p, 9, n + 220 + 3 * i + 2, rfl, p5, by omega, by omega, by omega, fun e2 H6 he2 f6 p6 => ?_⟩
      refine ⟨1, e2, rfl, rfl, by show 3 ≤ sizeLine; decide, fun T hT => ?_⟩
      have sT : Same H6 (upd H6 T (.tup [.int (i : Nat), .int ((1 + e1 : Nat) : Int), .int ((1 + e2 : Nat) : Int)])) := Same.new hT
      have f46 := (f4.trans f5).trans f6
      have hDT := sT _ _ (f46 _ _ n3 g1)
      have tkR : TK (upd H6 T (.tup [.int (i : Nat), .int ((1 + e1 : Nat) : Int), .int ((1 + e2 : Nat) : Int)])) (upd (upd H6 T (.tup [.int (i : Nat), .int ((1 + e1 : Nat) : Int), .int ((1 + e2 : Nat) : Int)])) D3 (.lst (xs ++ [.ref T]))) := TK.updL hDT
      have pT := p6.same sT
      refine ⟨_, hDT, Nat.lt_of_le_of_lt (show xs.length ≤ 4 by omega) (by decide), xs ++ [.ref T], ss ++ [(i, 1 + e1, 1 + e2)], Fr.mut ((f1.trans f46).trans (Fr.of sT)) hD3, (pT.other n3.symm).le (by omega), upd_same, ?_, by simp; omega, fun y hy => ?_, pairwise_snoc r4 fun y hy => (r3 y hy).1⟩
      · rw [List.map_append]
        exact (((q1.mono (f46.tk p1)).mono (same_tk sT)).mono tkR).snoc ((show Im K _ (.ref T) (smithD (i, 1 + e1, 1 + e2)) from .tup upd_same (.cons (.int _) (.cons (.int _) (.cons (.int _) .nil)))).mono tkR)
      · rcases List.mem_append.mp hy with hy | hy
        · have := r3 y hy
          exact ⟨by omega, this.2⟩
        · rw [List.mem_singleton.mp hy]
          exact ⟨by show i < i + 1; omega, by show 1 ≤ 1 + e1; omega, by show 1 + e1 ≤ 6; omega, by show 1 ≤ 1 + e2; omega, by show 1 + e2 ≤ 9; omega⟩
    · rw [decide_eq_false hq]
      refine iteF ?_
      exact ⟨xs, ss, f1.trans f4, p4.le (by omega), hD4, q1.mono (f4.tk p1), by omega, fun y hy => by have := r3 y hy; exact ⟨by omega, this.2⟩, r4⟩
  rintro H1 ⟨xs', ss, f1, p1, g1, q1, r2, r3, r4⟩
  have r2 : ss.length ≤ a := by simpa using r2
  have r3 : ∀ s ∈ ss, s.1 < a ∧ 1 ≤ s.2.1 ∧ s.2.1 ≤ 6 ∧ 1 ≤ s.2.2 ∧ s.2.2 ≤ 9 := by simpa using r3
  have p1 : PenAt H1 p (n + 220 + 3 * a) := by simpa using p1
  refine ⟨_, rfl, _, rfl, _, rfl, ?_⟩
  have hR1 := f1 _ _ nR hRb
  refine ⟨_, rfl, R, fs, rfl, .inl ⟨SqL.of hR1, fun Td hTd => ?_⟩⟩
  have sTd : Same H1 (upd H1 Td (.tup fs)) := Same.new hTd
  refine ⟨_, rfl, _, rfl, D3, xs', rfl, .inl ⟨SqL.of (sTd _ _ g1), fun Ts hTs => ?_⟩⟩
  have sTs : Same (upd H1 Td (.tup fs)) (upd (upd H1 Td (.tup fs)) Ts (.tup xs')) := Same.new hTs
  refine ⟨by show 6 ≤ sizeLine; decide, fun T hT => ?_⟩
  have sT : Same (upd (upd H1 Td (.tup fs)) Ts (.tup xs')) (upd (upd (upd H1 Td (.tup fs)) Ts (.tup xs')) T (.tup [.int (t : Int), .int (a : Int), .ref Tw, .ref Td, .ref Tb, .ref Ts])) := Same.new hT
  have k1 := f1.tk pb
  have kd := same_tk sTd
  have ks := same_tk sTs
  have kt := same_tk sT
  refine k (.ref T) ⟨t, a, ws, ds, bs, ss⟩ _ (((fdb.trans f1).trans (Fr.of sTd)).trans ((Fr.of sTs).trans (Fr.of sT))) ((((p1.same sTd).same sTs).same sT).le (by omega)) (.tup upd_same (.cons (.int _) (.cons (.int _) (.cons ?_ (.cons ?_ (.cons ?_ (.cons ?_ .nil))))))) ?_ ⟨by show ws.length ≤ 3; omega, by show bs.length ≤ 4; omega, by show ss.length ≤ 4; omega, a4⟩
  · exact (((imwb.mono k1).mono kd).mono ks).mono kt
  · exact (((Im.tup upd_same ((ib.mono k1).mono kd)).mono ks).mono kt)
  · exact (((imb.mono k1).mono kd).mono ks).mono kt
  · exact (Im.tup upd_same (((q1.mono kd)).mono ks)).mono kt
  · exact
    { t1 := t1, t3 := t3, h1 := a1, h6 := by show a ≤ 6; omega, w1 := by show 1 ≤ ws.length; omega, w6 := by show ws.length ≤ 6; omega, wl := h4
      d10 := l3
      dg := fun d hd => by
        obtain ⟨⟨j, h1, h2, h5⟩, h6, h7, h8⟩ := d3.g d hd
        refine ⟨?_, ?_, h6, h7, h8⟩
        · show d.hall < a
          rw [h2]
          exact Nat.div_lt_of_lt_mul (by rw [Nat.mul_comm]; exact h1)
        · show d.letter < ws.length
          rw [h5, h3]
          exact Nat.mod_lt _ (by omega)
      ds := d3.s
      bl := by show bs.length ≤ 100; omega
      bg := g3
      bs := g4
      sl := by show ss.length ≤ 100; omega
      sg := r3
      ss := r4 }
end
end Wk

set_option maxHeartbeats 4000000
/-! set(tuple of ints); free -/
namespace Wk
open PySem L2 PyProof.Rows
theorem ints_are : ∀ {ns : List Int} {us : List Value}, Vals (ns.map V.int) us → PyProof.Rows.IntsAre us ns
  | [], _, .nil => .nil
  | n :: ns, _, .cons a r => by
    obtain ⟨t, rfl⟩ := (show ∃ t, _ = Value.int n t from a)
    exact .cons n t (ints_are r)
def rSetTI (K : PySem.W.Frag) (w : World) : List V → Hp → VK → Prop := fun xs H Q => ∃ (T : Addr) (ns : List Int), xs = [.ref T] ∧ SqT K H T (ns.map V.int) ∧ ns.length ≤ 60 ∧ ∀ a c, H a = none → c ≤ ns.length → Q (.ref a) (upd H a (SetO w a (fun j => decide (j ∈ ns)) c))
theorem cr_setTI {X : Cx} (hc : X.calm = true) : CallR X (.type "set") (rSetTI X.K X.w) := by
  intro pins s σ H xs us Q I r q
  obtain ⟨T, ns, rfl, hq, hl, q⟩ := q
  rw [Vals.ref1 r]
  obtain ⟨its, rv, p, hz⟩ := I.tuple hq
  refine call_set_tupI ns (I.ok.hd hc) p (by simpa using ints_are rv) (Nat.lt_of_le_of_lt (Nat.succ_le_succ hl) (by decide)) fun h' tk c hs hcn hk => ?_
  exact ⟨.ref s.heap.objs.size, upd H s.heap.objs.size (SetO X.w s.heap.objs.size (fun j => decide (j ∈ ns)) c), I.laid (t' := tk) hk (Nat.le_refl _) (setO_new hs), rfl, q _ _ (I.hok.fresh (Nat.le_refl _)) hcn⟩
/-! ### free, plain -/
def freeHalls (h : House) : List Nat := (List.range h.halls).filter fun i => !(h.smiths.any fun s => s.1 == i)
def freeWays (h : House) : List (Nat × Nat) := ((List.range (h.halls * h.wears.length)).map fun i => (i / h.wears.length, i % h.wears.length)).filter fun p => !(h.doors.any fun d => d.hall == p.1 && d.letter == p.2)
def wayD (p : Nat × Nat) : PyData := .tuple [nD p.1, nD p.2]
theorem inL_nat (l : List Nat) (x : Nat) : inB (nD x) (.list (l.map nD)) = some (l.any fun b => b == x) := by
  have := inB_nat l x
  exact this
theorem inL_way (l : List (Nat × Nat)) (x : Nat × Nat) : inB (wayD x) (.list (l.map wayD)) = some (l.any fun b => b.1 == x.1 && b.2 == x.2) := by
  show (if PyData.depth (wayD x) ≤ 8 then some ((l.map wayD).any fun y => PyData.eqv y (wayD x)) else none) = _
  rw [if_pos (show (wayD x).depth ≤ 8 from (show 1 ≤ 8 by decide)), List.any_map]
  congr 2
  funext b
  show (((b.1 : Int) == (x.1 : Int)) && (((b.2 : Int) == (x.2 : Int)) && true)) = _
  rw [Bool.and_true]
  congr 1 <;> (rw [Bool.eq_iff_iff]; simp; omega)
section
variable {h : House}
theorem mulD_int {i j : Int} (h : 0 ≤ i ∧ i < 1000000) : mulD (.int i) (.int j) = some (.int (i * j)) := by
  show (if 0 ≤ i ∧ i < 1000000 then some (PyData.int (i * j)) else none) = _
  rw [if_pos h]
theorem stS_of {i : Nat} {e : Ev} {ρ : DE} {d : PyData} (h : e ρ = some d) : stS i e ρ = some (.nx (ρ.set i (some d))) := congrArg (Option.map fun d => Res.nx (ρ.set i (some d))) h
theorem taken_ok (G : Good h) : lcE (seqI (op2 ixD (vE 0) (cE (.int 3)))) (nmP 5) yesB (slE (vE 5) noO (soO (cE (.int 2)))) [5] [some (houseD h), none, none, none, none, none, none, none, none, none] = some (.list (h.doors.map fun d => wayD (d.hall, d.letter))) := by
  have d10 := G.d10
  exact lcE_some (ds := h.doors.map doorD) (seqI_tup (by simp)) (by simp; omega) (lcL_all fun d _ => ⟨_, rfl, rfl, rfl⟩)
theorem halls_ok (G : Good h) (a b : Option PyData) : lcE (rgI (op2 ixD (vE 0) (cE (.int 1)))) (nmP 6) (cmp2 niB (vE 6) (lcE (seqI (op2 ixD (vE 0) (cE (.int 5)))) (nmP 7) yesB (op2 ixD (vE 7) (cE (.int 0))) [7])) (vE 6) [6] [some (houseD h), a, b, none, none, none, none, none, none, none] = some (.list ((freeHalls h).map nD)) := by
  have h6 := G.h6
  have sl := G.sl
  refine lcE_some (ds := intsD h.halls) (rgI_int (m := (h.halls : Int)) rfl (by omega) (by omega)) (by rw [intsD_len]; omega) ?_
  refine lcL_map (F := nD) (G := nD) (q := fun i => !(h.smiths.any fun s => s.1 == i)) (l := List.range h.halls) fun i _ => ⟨_, rfl, ?_, fun _ => ⟨rfl, rfl⟩⟩
  have e1 : lcE (seqI (op2 ixD (vE 0) (cE (.int 5)))) (nmP 7) yesB (op2 ixD (vE 7) (cE (.int 0))) [7] [some (houseD h), a, b, none, none, none, some (nD i), none, none, none] = some (.list ((h.smiths.map (·.1)).map nD)) := by
    rw [List.map_map]
    exact lcE_some (ds := h.smiths.map smithD) (seqI_tup (by simp)) (by simp; omega) (lcL_all fun d _ => ⟨_, rfl, rfl, rfl⟩)
  show (lcE (seqI (op2 ixD (vE 0) (cE (.int 5)))) (nmP 7) yesB (op2 ixD (vE 7) (cE (.int 0))) [7] [some (houseD h), a, b, none, none, none, some (nD i), none, none, none]).bind (fun y => niB (nD i) y) = _
  rw [e1]
  show (inB (nD i) (.list ((h.smiths.map (·.1)).map nD))).map (!·) = _
  rw [inL_nat, List.any_map]
  rfl
theorem ways_ok (G : Good h) (b c : Option PyData) : lcE (rgI (op2 mulD (op2 ixD (vE 0) (cE (.int 1))) (vE 1))) (nmP 8) yesB (tupE (consE (op2 fdivD (vE 8) (vE 1)) (consE (op2 modD (vE 8) (vE 1)) nilE))) [8] [some (houseD h), some (nD h.wears.length), b, c, none, none, none, none, none, none] = some (.list (((List.range (h.halls * h.wears.length)).map fun i => (i / h.wears.length, i % h.wears.length)).map wayD)) := by
  have h6 := G.h6
  have w6 := G.w6
  have w1 := G.w1
  have hm : h.halls * h.wears.length ≤ 36 := Nat.mul_le_mul h6 w6
  refine lcE_some (ds := intsD (h.halls * h.wears.length)) (rgI_int (m := ((h.halls * h.wears.length : Nat) : Int)) ?_ (by omega) (by omega)) (by rw [intsD_len]; omega) ?_
  · have e : mulD (nD h.halls) (nD h.wears.length) = some (.int ((h.halls : Int) * (h.wears.length : Int))) := mulD_int ⟨by omega, by omega⟩
    have e0 : op2 ixD (vE 0) (cE (.int 1)) [some (houseD h), some (nD h.wears.length), b, c, none, none, none, none, none, none] = some (nD h.halls) := rfl
    have e1 : vE 1 [some (houseD h), some (nD h.wears.length), b, c, none, none, none, none, none, none] = some (nD h.wears.length) := rfl
    rw [op2_eq, e0, e1, Option.bind_some, Option.bind_some, e, Int.natCast_mul]
  · rw [List.map_map]
    refine lcL_all (F := nD) fun i _ => ⟨_, rfl, ?_, rfl⟩
    have e1 : fdivD (nD i) (nD h.wears.length) = some (.int ((i : Int) / (h.wears.length : Int))) := fdivD_int (by omega)
    have e2 : modD (nD i) (nD h.wears.length) = some (.int ((i : Int) % (h.wears.length : Int))) := modD_int (by omega)
    simp [wipeE, e1, e2, tupF_of, wayD]
theorem left_ok (G : Good h) (a c : Option PyData) : lcE (seqI (vE 4)) (nmP 9) (cmp2 niB (vE 9) (vE 2)) (vE 9) [9] [some (houseD h), a, some (.list (h.doors.map fun d => wayD (d.hall, d.letter))), c, some (.list (((List.range (h.halls * h.wears.length)).map fun i => (i / h.wears.length, i % h.wears.length)).map wayD)), none, none, none, none, none] = some (.list ((freeWays h).map wayD)) := by
  have h6 := G.h6
  have w6 := G.w6
  have hm : h.halls * h.wears.length ≤ 36 := Nat.mul_le_mul h6 w6
  refine lcE_some (ds := ((List.range (h.halls * h.wears.length)).map fun i => (i / h.wears.length, i % h.wears.length)).map wayD) rfl (by simp; omega) ?_
  refine lcL_map (F := wayD) (G := wayD) (q := fun p => !(h.doors.any fun d => d.hall == p.1 && d.letter == p.2)) fun p _ => ⟨_, rfl, ?_, fun _ => ⟨rfl, rfl⟩⟩
  show (inB (wayD p) (.list (h.doors.map fun d => wayD (d.hall, d.letter)))).map (!·) = _
  have e : (h.doors.map fun d => wayD (d.hall, d.letter)) = (h.doors.map fun d => (d.hall, d.letter)).map wayD := by rw [List.map_map]; rfl
  rw [e, inL_way, List.any_map]
  rfl
end
section
variable {P : Program} {w : World} {K : PySem.W.Frag} {mg : Str → Option Value} {base : Heap}
abbrev n_law_free : List Str := ["_law_house_here", "_law_letters", "_law_taken", "_law_halls", "_law_ways", "_law_door_here", "_law_hall", "_law_smith", "_law_at", "_law_one"]
theorem sc_law_free : FnScope n_law_free ["_law_house_here"] (defScope (top 115)) := ⟨rfl, rfl, rfl, by decide +kernel, rfl, by decide +kernel, by decide +kernel⟩
def freeScope : Scope := { kind := .function, names := [(".0", .local), ("_law_hall", .local), ("_law_house_here", .cell)], isGenerator := false, isCoroutine := false }
def sp_free (K : PySem.W.Frag) : Sp := fun vs H Q _ => ∃ (hv : V) (h : House), vs = [hv] ∧ Im K H hv (houseD h) ∧ Good h ∧
  ∀ (T A B : Addr) (xs ys : List V) H', H A = none → H B = none → Same H H' → H' T = some (.tup [.ref A, .ref B]) → H' A = some (.lst xs) → ImAll K H' xs ((freeHalls h).map nD) → H' B = some (.lst ys) → ImAll K H' ys ((freeWays h).map wayD) → Q (.ref T) H'
theorem ok_law_free (M : Mo mg) (D : Dn K mg "_law_free" (top 115)) : FnAt P w K mg base 1 "_law_free" ["_law_house_here"] (sp_free K) := by
  obtain ⟨f, fd, F, hm⟩ := D.ex
  refine fn_raw (N := n_law_free) F hm (F.bindsN fun _ _ _ _ _ _ us hl => match us, hl with | [_], _ => rfl) sc_law_free (fun vs H Q E h => by obtain ⟨_, _, rfl, _⟩ := h; rfl) (fun cdv A outer s H vs Q E hr h => ?_)
  have nd := sc_law_free.nd
  refine ⟨_, pss_cons (ps_asg (pe_tup (pa_cons (pd_len M.b_len (pd_cons (pd_ix (pd_var 0 (pv 0)) pd_int) pd_nil)) (pa_cons (pf_lc (own := [("_law_door_here", 5)]) nd (id_seq (pd_ix (pd_var 0 (pv 0)) pd_int)) (blkOk_by (own := [("_law_door_here", 5)]) (N := n_law_free) (sc := defScope (top 115)) (by decide +kernel)) (fun _ _ _ _ _ => (gd_name 5 (pg_name (i := 5) nd rfl (by first | exact Or.inl rfl | exact Or.inr rfl)))) (fun _ _ _ _ _ => tsd_nil) (fun _ _ _ _ _ => (pd_sl (pd_var 5 (pv 5)) od_none (od_some pd_int))) (by decide)) pa_nil)))
      (pg_tup rfl (pgs_cons (pg_name (i := 1) nd rfl (by first | exact Or.inl rfl | exact Or.inr rfl)) (pgs_cons (pg_name (i := 2) nd rfl (by first | exact Or.inl rfl | exact Or.inr rfl)) pgs_nil))))
    (pss_cons (pf_setLc 3 (own := [("_law_hall", 6)]) nd (sw_true rfl rfl rfl (by decide +kernel)) (id_range M.b_range (pd_ix (pd_var 0 (pv 0)) pd_int)) (blkOk_by (own := [("_law_hall", 6)]) (N := n_law_free) (sc := defScope (top 115)) (by decide +kernel)) (fun _ _ _ _ _ => (gd_name 6 (pg_name (i := 6) nd rfl (by first | exact Or.inl rfl | exact Or.inr rfl))))
      (fun _ _ _ _ _ => (tsd_one (td_ni hr.units (pd_var 6 (pv 6)) (pd_lc (own := [("_law_smith", 7)]) nd (id_seq (pd_ix (pd_var 0 (pv 0)) pd_int)) (blkOk_by (own := [("_law_smith", 7)]) (N := n_law_free) (sc := freeScope) (by decide +kernel)) (fun _ _ _ _ _ => (gd_name 7 (pg_name (i := 7) nd rfl (by first | exact Or.inl rfl | exact Or.inr rfl)))) (fun _ _ _ _ _ => tsd_nil) (fun _ _ _ _ _ => (pd_ix (pd_var 7 (pv 7)) pd_int)) (by decide))))) (fun _ _ _ _ _ => (pd_var 6 (pv 6))) (by decide))
    (pss_cons (pf_setLc 4 (own := [("_law_at", 8)]) nd (sw_true rfl rfl rfl (by decide +kernel)) (id_range M.b_range (pd_mul (pd_ix (pd_var 0 (pv 0)) pd_int) (pd_var 1 (pv 1)))) (blkOk_by (own := [("_law_at", 8)]) (N := n_law_free) (sc := defScope (top 115)) (by decide +kernel)) (fun _ _ _ _ _ => (gd_name 8 (pg_name (i := 8) nd rfl (by first | exact Or.inl rfl | exact Or.inr rfl)))) (fun _ _ _ _ _ => tsd_nil) (fun _ _ _ _ _ => (pd_tup (pd_cons (pd_fdiv (pd_var 8 (pv 8)) (pd_var 1 (pv 1))) (pd_cons (pd_mod (pd_var 8 (pv 8)) (pd_var 1 (pv 1))) pd_nil)))) (by decide))
    (pss_one (ps_ret (pe_tup (pa_cons (pv 3) (pa_cons (pf_lc (own := [("_law_one", 9)]) nd (id_seq (pd_var 4 (pv 4))) (blkOk_by (own := [("_law_one", 9)]) (N := n_law_free) (sc := defScope (top 115)) (by decide +kernel)) (fun _ _ _ _ _ => (gd_name 9 (pg_name (i := 9) nd rfl (by first | exact Or.inl rfl | exact Or.inr rfl)))) (fun _ _ _ _ _ => (tsd_one (td_ni hr.units (pd_var 9 (pv 9)) (pd_var 2 (pv 2))))) (fun _ _ _ _ _ => (pd_var 9 (pv 9))) (by decide)) pa_nil))))))), ?_⟩
  obtain ⟨hv, h, rfl, hH, G, k⟩ := h
  have r0 : RepS K H (L2.start n_law_free [hv]) [some (houseD h), none, none, none, none, none, none, none, none, none] := repAll (.cons (rSome (.inl hH)) (.cons rNone (.cons rNone (.cons rNone (.cons rNone (.cons rNone (.cons rNone (.cons rNone (.cons rNone (.cons rNone .nil))))))))))
  refine ⟨_, nD h.wears.length, r0, by simp, fun v1 H1 s1 q1 => ?_⟩
  rw [q1.int]
  refine ⟨_, _, r0.mono s1, taken_ok G, fun D2 xs2 H2 hD2 s2 hq2 im2 => ?_⟩
  refine ⟨by show 2 ≤ sizeLine; decide, fun T hT => ?_⟩
  have sT : Same H2 (upd H2 T (.tup [.int (h.wears.length : Nat), .ref D2])) := Same.new hT
  refine ⟨T, _, rfl, SqT.of upd_same, rfl, _, _, rfl, _, _, rfl, rfl, ?_⟩
  have t2 := (s1.trans s2).trans sT
  have r2 : RepS K (upd H2 T (.tup [.int (h.wears.length : Nat), .ref D2])) ((((L2.start n_law_free [hv]).set 1 (some (.int (h.wears.length : Nat)))).set 2 (some (.ref D2)))) [some (houseD h), some (nD h.wears.length), some (.list (h.doors.map fun d => wayD (d.hall, d.letter))), none, none, none, none, none, none, none] := ((r0.mono t2).set (.inl (.int _))).set (.inr ⟨D2, xs2, _, rfl, rfl, sT _ _ hq2, im2.mono (same_tk sT)⟩)
  refine ⟨_, _, r2, halls_ok G _ _, fun A3 xs3 H3 hA3n s3 hA3 im3 => ?_⟩
  have r3 := (r2.mono s3).set (i := 3) (.inr ⟨A3, xs3, _, rfl, rfl, hA3, im3⟩)
  refine ⟨_, _, r3, ways_ok G _ _, fun A4 xs4 H4 hA4n s4 hA4 im4 => ?_⟩
  have r4 := (r3.mono s4).set (i := 4) (.inr ⟨A4, xs4, _, rfl, rfl, hA4, im4⟩)
  refine ⟨_, rfl, _, _, r4, left_ok G _ _, fun D5 ys H5 hD5 s5 hq5 im5 => ?_⟩
  refine ⟨by show 2 ≤ sizeLine; decide, fun T5 hT5 => ?_⟩
  have s6 : Same H5 (upd H5 T5 (.tup [.ref A3, .ref D5])) := Same.new hT5
  exact k T5 A3 D5 xs3 ys _ (Same.back t2 hA3n) (Same.back ((t2.trans s3).trans s4) hD5) ((((t2.trans s3).trans s4).trans s5).trans s6) upd_same (s6 _ _ (s5 _ _ (s4 _ _ hA3))) (im3.mono (same_tk ((s4.trans s5).trans s6))) (s6 _ _ hq5) (im5.mono (same_tk s6))
end
end Wk

set_option maxHeartbeats 4000000
/-! a tuple times one -/
namespace Wk
open PySem L2 PyProof.Rows
theorem tuple_mul1 (l : Addr) (items : Array Value) (n : Nat) (dd : Option Addr) (sl : Array (Option Value)) (u : Tok) (hi : items.isEmpty = false) :
    Meets (Builtin.«tuple.__mul__» ⟨[.ref l, .int 1 u], []⟩) (fun _ R s => s.heap.get? l = some { cls := .type "tuple", dict := dd, data := .seq items n, slots := sl } ∧ R (.ok (.ret (.ref l))) s) :=
  .of_wp fun prog w A R s h => by
    obtain ⟨h1, h⟩ := h
    unfold Builtin.«tuple.__mul__»
    wp_walk
    exact ⟨_, rfl, h⟩
def rRep1 (K : PySem.W.Frag) : R2 := fun x y H Q => ∃ (l : Addr) (xs : List V), x = .ref l ∧ y = .int 1 ∧ SqT K H l xs ∧ xs ≠ [] ∧ Q (.ref l) H
theorem op_rep1 {X : Cx} : OpR X (binaryOp .Mult) (rRep1 X.K) := by
  intro pins s σ H x y v u Q I rx ry h
  obtain ⟨l, xs, rfl, rfl, hT, hne, q⟩ := h
  obtain rfl : v = .ref l := rx
  obtain ⟨t, rfl⟩ := (show ∃ t, u = Value.int 1 t from ry)
  obtain ⟨its, r, ⟨o, ho, hc, n, hd⟩, hs⟩ := I.tuple hT
  obtain ⟨cls, dd, data, sl⟩ := o
  subst hc
  subst hd
  have hi : its.toArray.isEmpty = false := by
    cases r with
    | nil => exact absurd rfl hne
    | cons a b => rfl
  refine wpAny_binaryOp_repeat_ref (by decide) ⟨_, ho, rfl⟩ (fun s' => typeIs_int s' 1 t) noFill_tuple_mul F.fills_int_mul F.slot_int_rmul repeat_tuple F.slot_int_index.lookup
    (call_meets F.slot_int_rmul (typeIs_int s 1 t) F.entry_int_rmul (F.args_int_rmul_2 _ _) (int_rmul_tuple 1 t l its.toArray n dd sl) ⟨ho, rfl, ⟨_, ho, rfl⟩, call_meets F.slot_tuple_mul ⟨_, ho, rfl⟩ F.entry_tuple_mul (F.args_tuple_mul_2 _ _) (tuple_mul1 l its.toArray n dd sl t hi) ⟨ho, ?_⟩⟩)
  exact ⟨.ref l, H, I, rfl, q⟩
end Wk

set_option maxHeartbeats 4000000
/-! the widened house, plain -/
namespace Wk
open PySem L2 PySem.W PyProof.Rows
/-! ### the order of sorted -/
theorem le_one {a c : Nat} {r s : List PyData} (h : dataLe false id (.tuple (nD a :: r)) (.tuple (nD c :: s)) = true) : a ≤ c := by
  rw [dataLe_eq] at h
  have h1 : (!dataLt (.tuple (nD c :: s)) (.tuple (nD a :: r))) = true := h
  have h2 : dataLt (.tuple (nD c :: s)) (.tuple (nD a :: r)) = PyProof.Rows.lexLt itemOrd (keyToksAll (nD c :: s)) (keyToksAll (nD a :: r)) := rfl
  rw [h2, dataLt_cons rfl] at h1
  have e : PyData.eqv (nD c) (nD a) = ((c : Int) == (a : Int)) := rfl
  by_cases q : c = a
  · omega
  · rw [e, if_neg (by simpa using fun z => q (by omega))] at h1
    by_cases z : c < a
    · have : dataLt (nD c) (nD a) = true := by
        have e1 := dataLt_ii (c : Int) 0 (a : Int) 0
        have e2 : dataLt (.tuple [.int (c : Int), .int 0]) (.tuple [.int (a : Int), .int 0]) = lexLt itemOrd (keyToksAll [nD c, .int 0]) (keyToksAll [nD a, .int 0]) := rfl
        rw [e2, dataLt_cons rfl, e, if_neg (by simpa using fun z => q (by omega))] at e1
        rw [e1]
        simp
        omega
      rw [this] at h1
      cases h1
    · omega
theorem le_two {a b c d : Nat} {r s : List PyData} (h : dataLe false id (.tuple (nD a :: nD b :: r)) (.tuple (nD c :: nD d :: s)) = true) : a < c ∨ (a = c ∧ b ≤ d) := by
  have h0 := le_one h
  by_cases q : a = c
  · subst q
    refine .inr ⟨rfl, ?_⟩
    rw [dataLe_eq] at h
    have h1 : (!dataLt (.tuple (nD a :: nD d :: s)) (.tuple (nD a :: nD b :: r))) = true := h
    have h2 : dataLt (.tuple (nD a :: nD d :: s)) (.tuple (nD a :: nD b :: r)) = PyProof.Rows.lexLt itemOrd (keyToksAll (nD a :: nD d :: s)) (keyToksAll (nD a :: nD b :: r)) := rfl
    have e : PyData.eqv (nD a) (nD a) = true := by
      show ((a : Int) == (a : Int)) = true
      simp
    rw [h2, dataLt_cons rfl, if_pos e] at h1
    have h3 : (!dataLt (.tuple (nD d :: s)) (.tuple (nD b :: r))) = true := h1
    exact le_one (r := r) (s := s) (by rw [dataLe_eq]; exact h3)
  · exact .inl (by omega)
theorem sort_map {α : Type} (F : α → PyData) (l : List α) : ∃ m : List α, (l.map F).mergeSort (dataLe false id) = m.map F ∧ m.Perm l ∧ m.Pairwise fun a b => dataLe false id (F a) (F b) = true := by
  have T : TotalLe (dataLe false (β := PyData) id) := sortLe_total _ _ _
  refine ⟨l.mergeSort fun a b => dataLe false id (F a) (F b), (List.map_mergeSort (r := fun a b => dataLe false id (F a) (F b)) (s := dataLe false id) (f := F) (l := l) fun a _ b _ => rfl).symm, List.mergeSort_perm .., ?_⟩
  exact sort_pairwise (le := fun a b => dataLe false id (F a) (F b)) ⟨fun a b c h1 h2 => T.trans (F a) (F b) (F c) h1 h2, fun a b => T.total (F a) (F b)⟩ l
/-! ### wider houses -/
structure WidR (h w : House) : Prop where
  te : w.teeth = h.teeth
  ha : w.halls = h.halls
  we : ∃ e, w.wears = h.wears ++ e
  do_ : ∀ d ∈ h.doors, ∃ d' ∈ w.doors, d'.hall = d.hall ∧ d'.letter = d.letter ∧ d'.to = d.to ∧ Paired WB d.gaps d'.gaps
  be : ∀ b ∈ h.benches, b ∈ w.benches
  sm : ∀ s ∈ h.smiths, ∃ s' ∈ w.smiths, s'.1 = s.1 ∧ s.2.1 ≤ s'.2.1 ∧ s'.2.2 = s.2.2
  gw : Good w
theorem wb_refl : ∀ {b : Box}, (∀ g ∈ b, g.1 ≤ g.2 ∧ g.2 ≤ 6) → Paired WB b b
  | [], _ => .nil
  | g :: b, h => .cons ⟨Nat.le_refl _, Nat.le_refl _, (h g List.mem_cons_self).1, (h g List.mem_cons_self).2⟩ (wb_refl fun x hx => h x (List.mem_cons_of_mem _ hx))
section
variable {h : House}
theorem door_refl (G : Good h) {d : Door} (hd : d ∈ h.doors) : Paired WB d.gaps d.gaps := wb_refl (G.dg d hd).2.2.2.2
theorem WidR.refl (G : Good h) : WidR h h := ⟨rfl, rfl, ⟨[], by simp⟩, fun d hd => ⟨d, hd, rfl, rfl, rfl, door_refl G hd⟩, fun b hb => hb, fun s hs => ⟨s, hs, rfl, Nat.le_refl _, rfl⟩, G⟩
theorem WidR.bench {w : House} (W : WidR h w) {bs : List Nat} (hs : bs.Pairwise (· < ·)) (hm : ∀ b ∈ w.benches, b ∈ bs) (hh : ∀ b ∈ bs, b < w.halls) (hl : bs.length ≤ 100) : WidR h { w with benches := bs } :=
  ⟨W.te, W.ha, W.we, W.do_, fun b hb => hm b (W.be b hb), W.sm, { W.gw with bl := hl, bg := hh, bs := hs }⟩
theorem WidR.wear {w : House} (W : WidR h w) (h5 : w.wears.length ≤ 5) : WidR h { w with wears := w.wears ++ [List.replicate w.teeth 0] } := by
  have G := W.gw
  refine ⟨W.te, W.ha, ?_, W.do_, W.be, W.sm, { G with w1 := ?_, w6 := ?_, wl := ?_, dg := ?_ }⟩
  · obtain ⟨e, he⟩ := W.we
    exact ⟨e ++ [List.replicate w.teeth 0], by show w.wears ++ _ = _; rw [he, List.append_assoc]⟩
  · show 1 ≤ (w.wears ++ _).length
    simp
  · show (w.wears ++ _).length ≤ 6
    simp
    omega
  · intro k hk
    rcases List.mem_append.mp hk with hk | hk
    · exact G.wl k hk
    · rw [List.mem_singleton.mp hk]
      refine ⟨by simp, fun x hx => ?_⟩
      rw [(List.mem_replicate.mp hx).2]
      omega
  · intro d hd
    obtain ⟨a, b, c⟩ := G.dg d hd
    exact ⟨a, by show d.letter < (w.wears ++ _).length; simp; omega, c⟩
theorem WidR.lift {w : House} (W : WidR h w) : WidR h { w with smiths := w.smiths.map fun s => (s.1, 6, s.2.2) } := by
  have G := W.gw
  refine ⟨W.te, W.ha, W.we, W.do_, W.be, fun s hs => ?_, { G with sl := ?_, sg := ?_, ss := ?_ }⟩
  · obtain ⟨s', h1, h2, h3, h4⟩ := W.sm s hs
    exact ⟨(s'.1, 6, s'.2.2), List.mem_map.mpr ⟨s', h1, rfl⟩, h2, Nat.le_trans h3 (G.sg s' h1).2.2.1, h4⟩
  · show (w.smiths.map _).length ≤ 100
    rw [List.length_map]
    exact G.sl
  · intro s hs
    obtain ⟨s', h1, rfl⟩ := List.mem_map.mp hs
    obtain ⟨a, b, c, d, e⟩ := G.sg s' h1
    exact ⟨a, by show 1 ≤ 6; omega, Nat.le_refl 6, d, e⟩
  · show (w.smiths.map _).Pairwise _
    rw [List.pairwise_map]
    exact G.ss
theorem WidR.smith {w : House} (W : WidR h w) {i : Nat} {ss : List (Nat × Nat × Nat)} (hi : i < w.halls) (hn : ∀ s ∈ w.smiths, s.1 ≠ i) (hp : ss.Perm (w.smiths ++ [(i, 6, 1)])) (hs : ss.Pairwise fun a b => dataLe false id (smithD a) (smithD b) = true) (h9 : w.smiths.length ≤ 99) : WidR h { w with smiths := ss } := by
  have G := W.gw
  have hmem : ∀ s, s ∈ ss ↔ s ∈ w.smiths ∨ s = (i, 6, 1) := fun s => by rw [hp.mem_iff, List.mem_append, List.mem_singleton]
  have hnd : (ss.map (·.1)).Nodup := by
    have e : (ss.map (·.1)).Perm ((w.smiths ++ [(i, 6, 1)]).map fun s : Nat × Nat × Nat => s.1) := hp.map _
    rw [e.nodup_iff, List.map_append, List.nodup_append]
    refine ⟨?_, by simp, fun a ha b hb => ?_⟩
    · have : (w.smiths.map (·.1)).Pairwise (· < ·) := by
        rw [List.pairwise_map]
        exact G.ss
      exact this.imp fun {a b} hlt => Nat.ne_of_lt hlt
    · obtain ⟨s, h1, rfl⟩ := List.mem_map.mp ha
      have : b = i := by simpa using hb
      rw [this]
      exact hn s h1
  refine ⟨W.te, W.ha, W.we, W.do_, W.be, fun s h1 => ?_, { G with sl := ?_, sg := ?_, ss := ?_ }⟩
  · obtain ⟨s', h2, h3⟩ := W.sm s h1
    exact ⟨s', (hmem s').mpr (.inl h2), h3⟩
  · show ss.length ≤ 100
    rw [hp.length_eq]
    simp
    omega
  · intro s h1
    rcases (hmem s).mp h1 with h2 | rfl
    · exact G.sg s h2
    · exact ⟨hi, by show 1 ≤ 6; omega, Nat.le_refl 6, Nat.le_refl 1, by show 1 ≤ 9; omega⟩
  · show ss.Pairwise _
    have hnd2 : ss.Pairwise fun a b => a.1 ≠ b.1 := by rwa [List.Nodup, List.pairwise_map] at hnd
    exact List.Pairwise.imp (R := fun a b : Nat × Nat × Nat => dataLe false id (smithD a) (smithD b) = true ∧ a.1 ≠ b.1) (fun {a b} q => Nat.lt_of_le_of_ne (le_one (a := a.1) (c := b.1) q.1) q.2) (hs.and hnd2)
theorem pairwise_key {l : List Door} (s : l.Pairwise fun a b => a.hall < b.hall ∨ (a.hall = b.hall ∧ a.letter < b.letter)) : l.Pairwise fun a b => ¬ (a.hall = b.hall ∧ a.letter = b.letter) := s.imp fun q ⟨a, b⟩ => by omega
theorem WidR.door {w : House} (W : WidR h w) {d : Door} {ds : List Door} (hd : d.hall < w.halls ∧ d.letter < w.wears.length ∧ d.to < w.halls ∧ d.gaps.length = w.teeth ∧ ∀ g ∈ d.gaps, g.1 ≤ g.2 ∧ g.2 ≤ 6) (hn : ∀ x ∈ w.doors, ¬ (x.hall = d.hall ∧ x.letter = d.letter)) (hp : ds.Perm (w.doors ++ [d])) (hs : ds.Pairwise fun a b => dataLe false id (doorD a) (doorD b) = true) (h9 : w.doors.length ≤ 9) : WidR h { w with doors := ds } := by
  have G := W.gw
  have hmem : ∀ s, s ∈ ds ↔ s ∈ w.doors ∨ s = d := fun s => by rw [hp.mem_iff, List.mem_append, List.mem_singleton]
  have hnd : ds.Pairwise fun a b => ¬ (a.hall = b.hall ∧ a.letter = b.letter) := by
    refine (hp.pairwise_iff fun {a b} q ⟨z1, z2⟩ => q ⟨z1.symm, z2.symm⟩).mpr ?_
    rw [List.pairwise_append]
    refine ⟨pairwise_key G.ds, List.pairwise_singleton _ _, fun a ha b hb => ?_⟩
    rw [List.mem_singleton.mp hb]
    exact hn a ha
  refine ⟨W.te, W.ha, W.we, fun x hx => ?_, W.be, W.sm, { G with d10 := ?_, dg := ?_, ds := ?_ }⟩
  · obtain ⟨d', h1, h2⟩ := W.do_ x hx
    exact ⟨d', (hmem d').mpr (.inl h1), h2⟩
  · show ds.length ≤ 10
    rw [hp.length_eq]
    simp
    omega
  · intro x hx
    rcases (hmem x).mp hx with h2 | rfl
    · exact G.dg x h2
    · exact hd
  · show ds.Pairwise _
    exact (hs.and hnd).imp fun {a b} ⟨q1, q2⟩ => by
      rcases le_two (a := a.hall) (b := a.letter) (c := b.hall) (d := b.letter) q1 with q | ⟨q, r⟩
      · exact .inl q
      · exact .inr ⟨q, by omega⟩
theorem paired_right {α β : Type} {R : α → β → Prop} {p : β → Prop} (k : ∀ a b, R a b → p b) : ∀ {l : List α} {m : List β}, Paired R l m → ∀ x ∈ m, p x
  | _, _, .cons a r, x, hx => by
    rcases List.mem_cons.mp hx with e | hx
    · subst e
      exact k _ _ a
    · exact paired_right k r x hx
theorem WidR.gap (G : Good h) {i : Nat} {d : Door} {b : Box} (hi : h.doors[i]? = some d) (hb : Paired WB d.gaps b) : WidR h { h with doors := h.doors.take i ++ [{ d with gaps := b }] ++ h.doors.drop (i + 1) } := by
  have hlt : i < h.doors.length := (List.getElem?_eq_some_iff.mp hi).1
  have hd : d = h.doors[i] := ((List.getElem?_eq_some_iff.mp hi).2).symm
  have split : h.doors = h.doors.take i ++ d :: h.doors.drop (i + 1) := by
    rw [hd, List.getElem_cons_drop, List.take_append_drop]
  have hg := G.dg d (List.mem_of_getElem? hi)
  have hl : b.length = d.gaps.length := (Paired.length hb).symm
  refine ⟨rfl, rfl, ⟨[], by simp⟩, fun x hx => ?_, fun b hb => hb, fun s hs => ⟨s, hs, rfl, Nat.le_refl _, rfl⟩, { G with d10 := ?_, dg := ?_, ds := ?_ }⟩
  · have hx0 := hx
    rw [split] at hx
    rcases List.mem_append.mp hx with hx | hx
    · exact ⟨x, List.mem_append_left _ (List.mem_append_left _ hx), rfl, rfl, rfl, door_refl G hx0⟩
    · rcases List.mem_cons.mp hx with e | hx
      · subst e
        exact ⟨{ x with gaps := b }, List.mem_append_left _ (List.mem_append_right _ (List.mem_singleton.mpr rfl)), rfl, rfl, rfl, hb⟩
      · exact ⟨x, List.mem_append_right _ hx, rfl, rfl, rfl, door_refl G hx0⟩
  · show (h.doors.take i ++ [_] ++ h.doors.drop (i + 1)).length ≤ 10
    have := G.d10
    simp
    omega
  · intro x hx
    rcases List.mem_append.mp hx with hx | hx
    · rcases List.mem_append.mp hx with hx | hx
      · exact G.dg x (List.mem_of_mem_take hx)
      · rw [List.mem_singleton.mp hx]
        exact ⟨hg.1, hg.2.1, hg.2.2.1, by show b.length = h.teeth; rw [hl]; exact hg.2.2.2.1, paired_right (fun a c q => ⟨q.2.2.1, q.2.2.2⟩) hb⟩
    · exact G.dg x (List.mem_of_mem_drop hx)
  · show (h.doors.take i ++ [_] ++ h.doors.drop (i + 1)).Pairwise _
    have s := G.ds
    rw [split] at s
    rw [List.append_assoc]
    rw [List.pairwise_append, List.pairwise_cons] at s
    show (h.doors.take i ++ _ :: h.doors.drop (i + 1)).Pairwise _
    rw [List.pairwise_append, List.pairwise_cons]
    refine ⟨s.1, ⟨s.2.1.1, s.2.1.2⟩, fun x hx y hy => ?_⟩
    rcases List.mem_cons.mp hy with e | hy
    · subst e
      exact s.2.2 x hx d List.mem_cons_self
    · exact s.2.2 x hx y (List.mem_cons_of_mem _ hy)
end
end Wk

set_option maxHeartbeats 8000000
/-! wider -/
namespace Wk
open PySem L2 PyProof.Rows
theorem imRep {K : PySem.W.Frag} {H : Hp} {xs : List V} {ds : List PyData} (h : ImAll K H xs ds) : ∀ n : Nat, ImAll K H (List.replicate n xs).flatten (List.replicate n ds).flatten
  | 0 => .nil
  | n + 1 => by
    rw [List.replicate_succ, List.replicate_succ, List.flatten_cons, List.flatten_cons]
    exact h.append (imRep h n)
/-- a tuple times a small count -/
def repD : PyData → PyData → Option PyData
  | .tuple ds, .int k => if ds.isEmpty = false ∧ ds.length ≤ 10 ∧ 1 ≤ k ∧ k ≤ 10 then some (.tuple (List.replicate k.toNat ds).flatten) else none
  | _, _ => none
theorem repD_ok {K : PySem.W.Frag} : OpD K (fun x y H Q => rRep1 K x y H Q ∨ rRepT K x y H Q) repD := by
  intro x y H Q a b d ra rb h k
  unfold repD at h
  split at h
  · rename_i ds kk
    split at h
    · rename_i hc
      cases h
      rw [rb.int]
      obtain ⟨l, xs, rfl, h1, h2⟩ := ra.tup
      have lx := h2.length
      have hne : xs ≠ [] := fun e => by
        subst e
        cases h2
        simp at hc
      by_cases e : kk = 1
      · subst e
        refine .inl ⟨l, xs, rfl, rfl, SqT.of h1, hne, k _ H (Same.refl H) (.inl (.tup h1 ?_))⟩
        have := imRep h2 1
        simpa using h2
      · refine .inr ⟨l, kk, xs, rfl, rfl, SqT.of h1, hne, by omega, by omega, by omega, fun p hp => k _ _ (Same.new hp) (.inl (.tup upd_same ((imRep h2 _).mono (TK.new hp))))⟩
    · cases h
  · cases h
theorem pd_rep {X : Cx} {a b : Expr} {fa fb : Ev} {pos : Pos} (ha : PE X a (tD X.K fa)) (hb : PE X b (tD X.K fb)) : PE X (.BinOp a .Mult b pos) (tD X.K (op2 repD fa fb)) := pd_op (op_rep1.or op_repT) repD_ok ha hb
theorem seq_cut {A B : TS} {D : Ends} {σ : L2.St} {H : Hp} (Pv : L2.St → Hp → Prop) (h2 : ∀ σ' H', Pv σ' H' → B D σ' H') (h1 : ∀ nx : L2.St → Hp → Prop, (∀ σ' H', Pv σ' H' → nx σ' H') → A { D with nx := nx } σ H) : tSeq A B D σ H := h1 _ h2
section
variable {P : Program} {w : World} {K : PySem.W.Frag} {mg : Str → Option Value} {base : Heap}
abbrev n_law_wider : List Str := ["_law_pen_here", "_law_house_here", "_law_teeth", "_law_halls", "_law_wears", "_law_doors", "_law_benches", "_law_smiths", "_law_sort", "_law_hall", "_law_free_here", "_law_at", "_law_door_here", "_law_other", "_law_smith", "_law_one"]
theorem sc_law_wider : FnScope n_law_wider ["_law_pen_here", "_law_house_here"] (defScope (top 117)) := ⟨rfl, rfl, rfl, by decide +kernel, rfl, by decide +kernel, by decide +kernel⟩
def sp_wider (K : PySem.W.Frag) : Sp := fun vs H Q _ => ∃ (p : Addr) (n : Nat) (hv : V) (h : House), vs = [.ref p, hv] ∧ PenAt H p n ∧ Im K H hv (houseD h) ∧ Good h ∧ Small h ∧ n ≤ 80000 ∧ ∀ v (h' : House) H', Fr p H H' → PenAt H' p (n + 10) → Im K H' v (houseD h') → WidR h h' → Q v H'
def e_one : Ev := op2 addD (vE 15) (tupE (consE (vE 9) (consE (op2 repD (tupE (consE (tupE (consE (cE (.int 0)) (consE (cE (.int 6)) nilE))) nilE)) (vE 2)) nilE)))
def e_other : Ev := tupE (consE (vE 13) (consE (cE (.int 6)) (consE (cE (.int 1)) nilE)))
theorem im6 {K : PySem.W.Frag} {H : Hp} {xs : List V} {a b c d e f : PyData} (h : ImAll K H xs [a, b, c, d, e, f]) : ∃ x1 x2 x3 x4 x5 x6, xs = [x1, x2, x3, x4, x5, x6] ∧ Im K H x1 a ∧ Im K H x2 b ∧ Im K H x3 c ∧ Im K H x4 d ∧ Im K H x5 e ∧ Im K H x6 f := by
  cases h with
  | cons h1 r => cases r with
    | cons h2 r => cases r with
      | cons h3 r => cases r with
        | cons h4 r => cases r with
          | cons h5 r => cases r with
            | cons h6 r =>
              cases r
              exact ⟨_, _, _, _, _, _, rfl, h1, h2, h3, h4, h5, h6⟩
theorem t_eq {i d : Nat} {k : Nat} {ρ : DE} (h : vE i ρ = some (nD d)) : cmp2 eqB (vE i) (cE (.int (k : Int))) ρ = some (decide (d = k)) := by
  have e : eqB (nD d) (.int (k : Int)) = some (decide (d = k)) := by
    show some ((d : Int) == (k : Int)) = _
    congr 1
    rw [Bool.eq_iff_iff]
    simp
    omega
  show (vE i ρ).bind (fun x => (some (PyData.int (k : Int))).bind fun y => eqB x y) = _
  rw [h]
  exact e
structure WHouse (K : PySem.W.Frag) (H' : Hp) (h' : House) (wv dv bv sv : V) : Prop where
  w : Im K H' wv (.tuple (h'.wears.map keyD))
  d : Im K H' dv (.tuple (h'.doors.map doorD))
  b : Im K H' bv (.tuple (h'.benches.map nD))
  s : Im K H' sv (.tuple (h'.smiths.map smithD))
theorem WHouse.mono {K : PySem.W.Frag} {H H' : Hp} {h' : House} {wv dv bv sv : V} (t : TK H H') (h : WHouse K H h' wv dv bv sv) : WHouse K H' h' wv dv bv sv := ⟨h.w.mono t, h.d.mono t, h.b.mono t, h.s.mono t⟩
structure WFree (K : PySem.W.Frag) (p : Addr) (H' : Hp) (h : House) (T A B : Addr) (xs ys : List V) : Prop where
  t : H' T = some (.tup [.ref A, .ref B])
  a : H' A = some (.lst xs)
  ai : ImAll K H' xs ((freeHalls h).map nD)
  b : H' B = some (.lst ys)
  bi : ImAll K H' ys ((freeWays h).map wayD)
  nt : T ≠ p
  na : A ≠ p
  nb : B ≠ p
theorem WFree.fr {K : PySem.W.Frag} {p : Addr} {H H' : Hp} {h : House} {T A B : Addr} {xs ys : List V} {n : Nat} (f : Fr p H H') (hp : PenAt H p n) (h0 : WFree K p H h T A B xs ys) : WFree K p H' h T A B xs ys :=
  ⟨f _ _ h0.nt h0.t, f _ _ h0.na h0.a, h0.ai.mono (f.tk hp), f _ _ h0.nb h0.b, h0.bi.mono (f.tk hp), h0.nt, h0.na, h0.nb⟩
def WSt (K : PySem.W.Frag) (H : Hp) (p A0 T A B : Addr) (xs ys : List V) (n m d e : Nat) (h : House) (c : Nat) (σ' : L2.St) (H' : Hp) : Prop := ∃ (h' : House) (wv dv bv sv : V) (y11 y12 : Option V), σ' = [some (.ref p), some (.ref A0), some (.int (h.teeth : Int)), some (.int (h.halls : Int)), some wv, some dv, some bv, some sv, some (.int (d : Int)), some (.int (e : Int)), some (.ref T), y11, y12, none, none, none] ∧
  Fr p H H' ∧ PenAt H' p (n + m) ∧ WHouse K H' h' wv dv bv sv ∧ WidR h h' ∧ (c ≤ d → h' = h) ∧ WFree K p H' h T A B xs ys
def rhoW (t a : Nat) (h' : House) (d e : Nat) : DE := [none, none, some (nD t), some (nD a), some (.tuple (h'.wears.map keyD)), some (.tuple (h'.doors.map doorD)), some (.tuple (h'.benches.map nD)), some (.tuple (h'.smiths.map smithD)), some (nD d), some (nD e), none, none, none, none, none, none]
theorem WHouse.rep {K : PySem.W.Frag} {H' : Hp} {h' : House} {wv dv bv sv : V} {t a d e : Nat} {x0 x1 x10 y11 y12 : Option V} (W : WHouse K H' h' wv dv bv sv) : RepS K H' [x0, x1, some (.int (t : Int)), some (.int (a : Int)), some wv, some dv, some bv, some sv, some (.int (d : Int)), some (.int (e : Int)), x10, y11, y12, none, none, none] (rhoW t a h' d e) :=
  repAll (.cons rNone (.cons rNone (.cons (rSome (.inl (.int _))) (.cons (rSome (.inl (.int _))) (.cons (rSome (.inl W.w)) (.cons (rSome (.inl W.d)) (.cons (rSome (.inl W.b)) (.cons (rSome (.inl W.s)) (.cons (rSome (.inl (.int _))) (.cons (rSome (.inl (.int _))) (.cons rNone (.cons rNone (.cons rNone (.cons rNone (.cons rNone (.cons rNone .nil))))))))))))))))
theorem wearx_ok {h : House} (G : Good h) (h5 : h.wears.length ≤ 5) {a d e : Nat} : op2 addD (vE 4) (tupE (consE (op2 repD (tupE (consE (cE (.int 0)) nilE)) (vE 2)) nilE)) (rhoW h.teeth a h d e) = some (.tuple ((h.wears ++ [List.replicate h.teeth 0]).map keyD)) := by
  have t1 := G.t1
  have t3 := G.t3
  have e1 : tupE (consE (op2 repD (tupE (consE (cE (.int 0)) nilE)) (vE 2)) nilE) (rhoW h.teeth a h d e) = some (.tuple [keyD (List.replicate h.teeth 0)]) := by
    unfold rhoW
    rcases (show h.teeth = 1 ∨ h.teeth = 2 ∨ h.teeth = 3 by omega) with q | q | q <;> rw [q] <;> rfl
  have e2 : vE 4 (rhoW h.teeth a h d e) = some (.tuple (h.wears.map keyD)) := rfl
  rw [op2_eq, e2, e1, Option.bind_some, Option.bind_some, addD_tup (by simp; omega), List.map_append]
  rfl
theorem liftx_ok {h : House} (G : Good h) {t a d e : Nat} : callE tupleF (consE (lcE (seqI (vE 7)) (nmP 14) yesB (tupE (consE (op2 ixD (vE 14) (cE (.int 0))) (consE (cE (.int 6)) (consE (op2 ixD (vE 14) (cE (.int 2))) nilE)))) [14]) nilE) (rhoW t a h d e) = some (.tuple ((h.smiths.map fun s => (s.1, 6, s.2.2)).map smithD)) := by
  have sl := G.sl
  have e1 : lcE (seqI (vE 7)) (nmP 14) yesB (tupE (consE (op2 ixD (vE 14) (cE (.int 0))) (consE (cE (.int 6)) (consE (op2 ixD (vE 14) (cE (.int 2))) nilE)))) [14] (rhoW t a h d e) = some (.list ((h.smiths.map fun s => (s.1, 6, s.2.2)).map smithD)) := by
    rw [List.map_map]
    exact lcE_some (ds := h.smiths.map smithD) rfl (by simp; omega) (lcL_all fun s _ => ⟨_, rfl, rfl, rfl⟩)
  show ((lcE (seqI (vE 7)) (nmP 14) yesB (tupE (consE (op2 ixD (vE 14) (cE (.int 0))) (consE (cE (.int 6)) (consE (op2 ixD (vE 14) (cE (.int 2))) nilE)))) [14] (rhoW t a h d e)).bind fun x => some [x]).bind tupleF = _
  rw [e1]
  rfl
theorem t_in01 {h : House} {t a d e : Nat} : cmp2 inB (vE 8) (tupE (consE (cE (.int 0)) (consE (cE (.int 1)) nilE))) (rhoW t a h d e) = some (decide (d = 0 ∨ d = 1)) := by
  show inB (nD d) (.tuple ([0, 1].map nD)) = _
  rw [inB_nat]
  congr 1
  rw [Bool.eq_iff_iff]
  simp
  omega
theorem benchx_ok {h : House} (bl : h.benches.length ≤ 20) {t a d e : Nat} : op2 addD (vE 6) (tupE (consE (vE 9) nilE)) (rhoW t a h d e) = some (.tuple ((h.benches ++ [e]).map nD)) := by
  have e2 : vE 6 (rhoW t a h d e) = some (.tuple (h.benches.map nD)) := rfl
  have e1 : tupE (consE (vE 9) nilE) (rhoW t a h d e) = some (.tuple [nD e]) := rfl
  rw [op2_eq, e2, e1, Option.bind_some, Option.bind_some, addD_tup (by simp; omega), List.map_append]
  rfl
theorem strict_len : ∀ (l : List Nat) (lo hi : Nat), l.Pairwise (· < ·) → (∀ x ∈ l, lo ≤ x ∧ x < hi) → l.length ≤ hi - lo
  | [], _, _, _, _ => by simp
  | x :: l, lo, hi, hs, hx => by
    rw [List.pairwise_cons] at hs
    have h0 := hx x List.mem_cons_self
    have := strict_len l (x + 1) hi hs.2 fun y hy => ⟨hs.1 y hy, (hx y (List.mem_cons_of_mem _ hy)).2⟩
    simp
    omega
theorem im_nat_vals {K : PySem.W.Frag} {H : Hp} : ∀ {l : List Nat} {vs : List V}, ImAll K H vs (l.map nD) → vs = (l.map fun (x : Nat) => (x : Int)).map V.int
  | [], _, h => by cases h; rfl
  | x :: l, _, h => by
    cases h with
    | cons a r =>
      cases a
      rw [im_nat_vals r]
      rfl
theorem im_of_eq {K : PySem.W.Frag} {H : Hp} {xs ys : List V} {ds : List PyData} (e : xs = ys) (h : ImAll K H ys ds) : ImAll K H xs ds := by rw [e]; exact h
theorem nat_back : ∀ {ns : List Int}, (∀ k ∈ ns, 0 ≤ k) → ns = (ns.map Int.toNat).map fun (x : Nat) => (x : Int)
  | [], _ => rfl
  | k :: ns, h => by
    rw [List.map_cons, List.map_cons, ← nat_back fun x hx => h x (List.mem_cons_of_mem _ hx)]
    have := h k List.mem_cons_self
    congr 1
    omega
theorem catA_use {K : PySem.W.Frag} {x y : V} {H : Hp} {Q : VK} {a b : Addr} {xs ys : List V} (hx : x = .ref a) (hy : y = .ref b) (h1 : H a = some (.tup xs)) (h2 : H b = some (.tup ys)) (hl : xs.length + ys.length ≤ 10000) (k : ∀ c H', Same H H' → H' c = some (.tup (xs ++ ys)) → Q (.ref c) H') : rCatA K x y H Q := by
  refine ⟨a, b, xs, ys, hx, hy, SqT.of h1, SqT.of h2, Nat.le_trans hl (by decide), fun e => ?_, fun _ e => ?_, fun _ _ p hp => k p _ (Same.new hp) upd_same⟩
  · subst e
    exact k b H (Same.refl H) h2
  · subst e
    exact k a H (Same.refl H) (by rw [List.append_nil]; exact h1)
theorem WidR.smiths {h w : House} (W : WidR h w) {ex ss : List (Nat × Nat × Nat)} (hg : ∀ s ∈ ex, s.1 < w.halls ∧ 1 ≤ s.2.1 ∧ s.2.1 ≤ 6 ∧ 1 ≤ s.2.2 ∧ s.2.2 ≤ 9) (hk : ((w.smiths ++ ex).map fun s : Nat × Nat × Nat => s.1).Nodup) (hp : ss.Perm (w.smiths ++ ex)) (hs : ss.Pairwise fun a b => PySem.W.dataLe false id (smithD a) (smithD b) = true) (hl : w.smiths.length + ex.length ≤ 100) : WidR h { w with smiths := ss } := by
  have G := W.gw
  have hmem : ∀ s, s ∈ ss ↔ s ∈ w.smiths ∨ s ∈ ex := fun s => by rw [hp.mem_iff, List.mem_append]
  have hnd : (ss.map fun s : Nat × Nat × Nat => s.1).Nodup := ((hp.map _).nodup_iff).mpr hk
  refine ⟨W.te, W.ha, W.we, W.do_, W.be, fun s h1 => ?_, { G with sl := ?_, sg := ?_, ss := ?_ }⟩
  · obtain ⟨s', h2, h3⟩ := W.sm s h1
    exact ⟨s', (hmem s').mpr (.inl h2), h3⟩
  · show ss.length ≤ 100
    rw [hp.length_eq]
    simp
    omega
  · intro s h1
    rcases (hmem s).mp h1 with h2 | h2
    · exact G.sg s h2
    · exact hg s h2
  · show ss.Pairwise _
    have hnd2 : ss.Pairwise fun a b => a.1 ≠ b.1 := by rwa [List.Nodup, List.pairwise_map] at hnd
    exact List.Pairwise.imp (R := fun a b : Nat × Nat × Nat => PySem.W.dataLe false id (smithD a) (smithD b) = true ∧ a.1 ≠ b.1) (fun {a b} q => Nat.lt_of_le_of_ne (le_one (a := a.1) (c := b.1) q.1) q.2) (hs.and hnd2)
theorem srt_smiths (l : List (Nat × Nat × Nat)) (hz : l.length ≤ 10000) : Srt (l.map smithD) where
  al := fun d hd d' hd' => by
    obtain ⟨k, _, rfl⟩ := List.mem_map.mp hd
    obtain ⟨k', _, rfl⟩ := List.mem_map.mp hd'
    rfl
  so := .inl fun d hd => by
    obtain ⟨k, hk, rfl⟩ := List.mem_map.mp hd
    exact ⟨_, _, rfl⟩
  dp := fun d hd => by
    obtain ⟨k, _, rfl⟩ := List.mem_map.mp hd
    exact (show 1 ≤ 40 by decide)
  sz := by
    rw [List.length_map]
    exact Nat.le_trans hz (by decide)
theorem free_ex {h : House} (G : Good h) : (∀ s ∈ ((freeHalls h).take 1).map fun i => (i, 6, 1), s.1 < h.halls ∧ 1 ≤ s.2.1 ∧ s.2.1 ≤ 6 ∧ 1 ≤ s.2.2 ∧ s.2.2 ≤ 9) ∧ ((h.smiths ++ ((freeHalls h).take 1).map fun i => (i, 6, 1)).map fun s : Nat × Nat × Nat => s.1).Nodup := by
  have hm : ∀ i ∈ freeHalls h, i < h.halls ∧ ∀ s ∈ h.smiths, s.1 ≠ i := fun i hi => by
    obtain ⟨h1, h2⟩ := List.mem_filter.mp hi
    refine ⟨List.mem_range.mp h1, fun s hs e => ?_⟩
    have h3 : (h.smiths.any fun s => s.1 == i) = true := List.any_eq_true.mpr ⟨s, hs, by simp [e]⟩
    rw [h3] at h2
    cases h2
  refine ⟨fun s hs => ?_, ?_⟩
  · obtain ⟨i, hi, rfl⟩ := List.mem_map.mp hs
    exact ⟨(hm i (List.mem_of_mem_take hi)).1, by show 1 ≤ 6; omega, Nat.le_refl 6, Nat.le_refl 1, by show 1 ≤ 9; omega⟩
  · rw [List.map_append, List.nodup_append]
    refine ⟨?_, ?_, fun a ha b hb => ?_⟩
    · have : (h.smiths.map (·.1)).Pairwise (· < ·) := by
        rw [List.pairwise_map]
        exact G.ss
      exact this.imp fun {a b} hlt => Nat.ne_of_lt hlt
    · rw [List.map_map]
      cases freeHalls h <;> simp
    · obtain ⟨s, h1, rfl⟩ := List.mem_map.mp ha
      obtain ⟨t, h2, rfl⟩ := List.mem_map.mp hb
      obtain ⟨i, h3, rfl⟩ := List.mem_map.mp h2
      exact (hm i (List.mem_of_mem_take h3)).2 s h1
theorem WidR.doors {h w : House} (W : WidR h w) {ex ds : List Door} (hd : ∀ d ∈ ex, d.hall < w.halls ∧ d.letter < w.wears.length ∧ d.to < w.halls ∧ d.gaps.length = w.teeth ∧ ∀ g ∈ d.gaps, g.1 ≤ g.2 ∧ g.2 ≤ 6) (hk : (w.doors ++ ex).Pairwise fun a b => ¬ (a.hall = b.hall ∧ a.letter = b.letter)) (hp : ds.Perm (w.doors ++ ex)) (hs : ds.Pairwise fun a b => PySem.W.dataLe false id (doorD a) (doorD b) = true) (hl : w.doors.length + ex.length ≤ 10) : WidR h { w with doors := ds } := by
  have G := W.gw
  have hmem : ∀ s, s ∈ ds ↔ s ∈ w.doors ∨ s ∈ ex := fun s => by rw [hp.mem_iff, List.mem_append]
  have hnd : ds.Pairwise fun a b => ¬ (a.hall = b.hall ∧ a.letter = b.letter) := (hp.pairwise_iff fun {a b} q ⟨z1, z2⟩ => q ⟨z1.symm, z2.symm⟩).mpr hk
  refine ⟨W.te, W.ha, W.we, fun x hx => ?_, W.be, W.sm, { G with d10 := ?_, dg := ?_, ds := ?_ }⟩
  · obtain ⟨d', h1, h2⟩ := W.do_ x hx
    exact ⟨d', (hmem d').mpr (.inl h1), h2⟩
  · show ds.length ≤ 10
    rw [hp.length_eq]
    simp
    omega
  · intro x hx
    rcases (hmem x).mp hx with h2 | h2
    · exact G.dg x h2
    · exact hd x h2
  · show ds.Pairwise _
    exact (hs.and hnd).imp fun {a b} ⟨q1, q2⟩ => by
      rcases le_two (a := a.hall) (b := a.letter) (c := b.hall) (d := b.letter) q1 with q | ⟨q, r⟩
      · exact .inl q
      · exact .inr ⟨q, by omega⟩
theorem srt_doors (l : List Door) (hz : l.length ≤ 10000) : Srt (l.map doorD) where
  al := fun d hd d' hd' => by
    obtain ⟨k, _, rfl⟩ := List.mem_map.mp hd
    obtain ⟨k', _, rfl⟩ := List.mem_map.mp hd'
    have := alike_gaps k.gaps k'.gaps
    simpa [doorD, boxD, PySem.W.alike, PySem.W.alikeAll] using this
  so := .inl fun d hd => by
    obtain ⟨k, hk, rfl⟩ := List.mem_map.mp hd
    exact ⟨_, _, rfl⟩
  dp := fun d hd => by
    obtain ⟨k, _, rfl⟩ := List.mem_map.mp hd
    have := depth_box k.gaps
    show max 0 (max 0 (max 0 (max ((boxD k.gaps).depth) 0))) + 1 ≤ 40
    omega
  sz := by
    rw [List.length_map]
    exact Nat.le_trans hz (by decide)
def exDoor (h : House) (e : Nat) (p : Nat × Nat) : Door := ⟨p.1, p.2, e, List.replicate h.teeth (0, 6)⟩
theorem free_doors {h : House} (G : Good h) {e : Nat} (he : e < h.halls) : (∀ d ∈ ((freeWays h).take 1).map (exDoor h e), d.hall < h.halls ∧ d.letter < h.wears.length ∧ d.to < h.halls ∧ d.gaps.length = h.teeth ∧ ∀ g ∈ d.gaps, g.1 ≤ g.2 ∧ g.2 ≤ 6) ∧ (h.doors ++ ((freeWays h).take 1).map (exDoor h e)).Pairwise fun a b => ¬ (a.hall = b.hall ∧ a.letter = b.letter) := by
  have w1 := G.w1
  have hm : ∀ p ∈ freeWays h, p.1 < h.halls ∧ p.2 < h.wears.length ∧ ∀ d ∈ h.doors, ¬ (d.hall = p.1 ∧ d.letter = p.2) := fun p hp => by
    obtain ⟨h1, h2⟩ := List.mem_filter.mp hp
    obtain ⟨i, hi, rfl⟩ := List.mem_map.mp h1
    refine ⟨Nat.div_lt_of_lt_mul (by rw [Nat.mul_comm]; exact List.mem_range.mp hi), Nat.mod_lt _ (by omega), fun d hd ⟨e1, e2⟩ => ?_⟩
    have h3 : (h.doors.any fun d => d.hall == i / h.wears.length && d.letter == i % h.wears.length) = true := List.any_eq_true.mpr ⟨d, hd, by simp [e1, e2]⟩
    rw [h3] at h2
    cases h2
  refine ⟨fun d hd => ?_, ?_⟩
  · obtain ⟨p, hp, rfl⟩ := List.mem_map.mp hd
    have q := hm p (List.mem_of_mem_take hp)
    refine ⟨q.1, q.2.1, he, by simp [exDoor], fun g hg => ?_⟩
    rw [(List.mem_replicate.mp hg).2]
    exact ⟨Nat.zero_le _, Nat.le_refl _⟩
  · rw [List.pairwise_append]
    refine ⟨pairwise_key G.ds, ?_, fun a ha b hb => ?_⟩
    · cases freeWays h <;> simp
    · obtain ⟨p, hp, rfl⟩ := List.mem_map.mp hb
      exact (hm p (List.mem_of_mem_take hp)).2.2 a ha
theorem t_door {h : House} {t a d e : Nat} : andB (cmp2 eqB (vE 8) (cE (.int 4))) (cmp2 ltB (callE lenF (consE (vE 5) nilE)) (cE (.int 10))) (rhoW t a h d e) = some (decide (d = 4) && decide (h.doors.length < 10)) := by
  have e1 : cmp2 eqB (vE 8) (cE (.int 4)) (rhoW t a h d e) = some (decide (d = 4)) := t_eq (k := 4) rfl
  have e2 : cmp2 ltB (callE lenF (consE (vE 5) nilE)) (cE (.int 10)) (rhoW t a h d e) = some (decide (h.doors.length < 10)) := by
    show some (decide (((h.doors.map doorD).length : Int) < 10)) = _
    rw [List.length_map]
    congr 1
    rw [Bool.eq_iff_iff]
    simp
    omega
  rw [andB_eq, e1, Option.bind_some, e2]
  by_cases q : d = 4 <;> simp [q]
theorem one_ok {h : House} (G : Good h) {a d e : Nat} (l : List (Nat × Nat)) : lcL (nmP 15) yesB e_one (rhoW h.teeth a h d e) (l.map wayD) = some (l.map fun p => doorD (exDoor h e p)) := lcL_all fun p _ => ⟨_, rfl, by
    have t1 := G.t1
    have t3 := G.t3
    unfold exDoor doorD
    rcases (show h.teeth = 1 ∨ h.teeth = 2 ∨ h.teeth = 3 by omega) with q | q | q <;> rw [q] <;> rfl, rfl⟩
theorem ne_nilT {α : Type} {F : α → PyData} {l : List α} (h : ∀ x ∈ l, (F x).depth ≤ 7) : neB (.tuple (l.map F)) (.tuple []) = some (!l.isEmpty) := by
  have := ne_nil h
  exact this
theorem at_ok {h : House} {t a d e i : Nat} {dd : Door} {o12 : Option PyData} (hdd : h.doors[i]? = some dd) : op2 ixD (vE 5) (vE 11) (((rhoW t a h d e).set 11 (some (.int (i : Int)))).set 12 o12) = some (doorD dd) := by
  show ixD (.tuple (h.doors.map doorD)) (nD i) = _
  exact ixN (by rw [List.getElem?_map, hdd]; rfl)
theorem slice_ok {h : House} {t a d e i : Nat} {dd : Door} (hdd : h.doors[i]? = some dd) : slE (op2 ixD (vE 5) (vE 11)) noO (soO (cE (.int 3))) ((rhoW t a h d e).set 11 (some (.int (i : Int)))) = some (.tuple [nD dd.hall, nD dd.letter, nD dd.to]) := by
  have e5 : op2 ixD (vE 5) (vE 11) ((rhoW t a h d e).set 11 (some (.int (i : Int)))) = some (doorD dd) := at_ok (o12 := none) hdd
  rw [slE_eq, e5]
  rfl
theorem gaps_ok {h : House} {t a d e i : Nat} {dd : Door} (hdd : h.doors[i]? = some dd) : op2 ixD (op2 ixD (vE 5) (vE 11)) (cE (.int 3)) ((rhoW t a h d e).set 11 (some (.int (i : Int)))) = some (boxD dd.gaps) := by
  have e5 : op2 ixD (vE 5) (vE 11) ((rhoW t a h d e).set 11 (some (.int (i : Int)))) = some (doorD dd) := at_ok (o12 := none) hdd
  rw [op2_eq, e5]
  rfl
theorem put_ok {h : House} (d10 : h.doors.length ≤ 10) {t a d e i : Nat} {dn : Door} : op2 addD (op2 addD (slE (vE 5) noO (soO (vE 11))) (tupE (consE (vE 12) nilE))) (slE (vE 5) (soO (op2 addD (vE 11) (cE (.int 1)))) noO) (((rhoW t a h d e).set 11 (some (.int (i : Int)))).set 12 (some (doorD dn))) = some (.tuple ((h.doors.take i ++ [dn] ++ h.doors.drop (i + 1)).map doorD)) := by
  have e1 : slE (vE 5) noO (soO (vE 11)) (((rhoW t a h d e).set 11 (some (.int (i : Int)))).set 12 (some (doorD dn))) = some (.tuple ((h.doors.take i).map doorD)) := by
    show some (PyData.tuple (cutG (h.doors.map doorD) none (some (i : Int)))) = _
    rw [cutG_to, List.map_take]
  have e2 : slE (vE 5) (soO (op2 addD (vE 11) (cE (.int 1)))) noO (((rhoW t a h d e).set 11 (some (.int (i : Int)))).set 12 (some (doorD dn))) = some (.tuple ((h.doors.drop (i + 1)).map doorD)) := by
    show some (PyData.tuple (cutG (h.doors.map doorD) (some ((i + 1 : Nat) : Int)) none)) = _
    rw [cutG_from, List.map_drop]
  have e3 : tupE (consE (vE 12) nilE) (((rhoW t a h d e).set 11 (some (.int (i : Int)))).set 12 (some (doorD dn))) = some (.tuple [doorD dn]) := rfl
  rw [op2_eq, op2_eq, e1, e2, e3]
  simp only [Option.bind_some]
  rw [addD_tup (by simp; omega)]
  simp only [Option.bind_some]
  rw [addD_tup (by simp; omega)]
  simp
theorem t_gap {h : House} {t a d e : Nat} : andB (cmp2 eqB (vE 8) (cE (.int 0))) (cmp2 neB (vE 5) (tupE nilE)) (rhoW t a h d e) = some (decide (d = 0) && !h.doors.isEmpty) := by
  have e1 : cmp2 eqB (vE 8) (cE (.int 0)) (rhoW t a h d e) = some (decide (d = 0)) := t_eq (k := 0) rfl
  have e2 : cmp2 neB (vE 5) (tupE nilE) (rhoW t a h d e) = some (!h.doors.isEmpty) := by
    show neB (.tuple (h.doors.map doorD)) (.tuple []) = _
    refine ne_nilT fun k _ => ?_
    have := depth_box k.gaps
    show max 0 (max 0 (max 0 (max ((boxD k.gaps).depth) 0))) + 1 ≤ 7
    omega
  rw [andB_eq, e1, Option.bind_some, e2]
  by_cases q : d = 0 <;> simp [q]
theorem mono_free {K : PySem.W.Frag} {σ : L2.St} {H : Hp} {k : Int} (R R' : It → Hp → Prop) (m : ∀ J H, R J H → R' J H) (h : iList K (tSl (rSlL K) (tOp (rIxT K) (tVar 10) (tC (.int k))) tNoPart (tPart (tC (.int 1)))) σ H R) : iList K (tSl (rSlL K) (tOp (rIxT K) (tVar 10) (tC (.int k))) tNoPart (tPart (tC (.int 1)))) σ H R' := by
  obtain ⟨v, q0, p, xs, i, u, q1, q2, q3, q4, i2, q5, a, ys, q6, q7, q8⟩ := h
  exact ⟨v, q0, p, xs, i, u, q1, q2, q3, q4, i2, q5, a, ys, q6, q7, fun z hz => by
    obtain ⟨b, z1, z2, z3⟩ := q8 z hz
    exact ⟨b, z1, z2, m _ _ z3⟩⟩
theorem ok_law_wider (M : Mo mg) (D : Dn K mg "_law_wider" (top 117)) (F_draw : FnAt P w K mg base 1 "_law_draw" ["_law_pen_here", "_law_many"] (sp_draw K)) (F_free : FnAt P w K mg base 1 "_law_free" ["_law_house_here"] (sp_free K)) (F_box : FnAt P w K mg base 2 "_law_wider_box" ["_law_pen_here", "_law_box_here"] (sp_wider_box K)) : FnAt P w K mg base 3 "_law_wider" ["_law_pen_here", "_law_house_here"] (sp_wider K) := by
  obtain ⟨f, fd, F, hm⟩ := D.ex
  refine fn_raw (N := n_law_wider) F hm (F.bindsN fun _ _ _ _ _ _ us hl => match us, hl with | [_, _], _ => rfl) sc_law_wider (fun vs H Q E h => by obtain ⟨_, _, _, _, rfl, _⟩ := h; rfl) (fun cdv A outer s H vs Q E hr h => ?_)
  have nd := sc_law_wider.nd
  have Fd := F_draw.mono (show 1 ≤ 2 by decide)
  have Ff := F_free.mono (show 1 ≤ 2 by decide)
  refine ⟨_, pss_cons (ps_asg (pv 1) (pg_tup rfl (pgs_cons (pg_name (i := 2) nd rfl (by first | exact Or.inl rfl | exact Or.inr rfl)) (pgs_cons (pg_name (i := 3) nd rfl (by first | exact Or.inl rfl | exact Or.inr rfl)) (pgs_cons (pg_name (i := 4) nd rfl (by first | exact Or.inl rfl | exact Or.inr rfl)) (pgs_cons (pg_name (i := 5) nd rfl (by first | exact Or.inl rfl | exact Or.inr rfl)) (pgs_cons (pg_name (i := 6) nd rfl (by first | exact Or.inl rfl | exact Or.inr rfl)) (pgs_cons (pg_name (i := 7) nd rfl (by first | exact Or.inl rfl | exact Or.inr rfl)) pgs_nil))))))))
    (pss_cons (ps_asg (pe_tup (pa_cons (pe_fn Fd hr (pa_cons (pv 0) (pa_cons pe_int pa_nil))) (pa_cons (pe_fn Fd hr (pa_cons (pv 0) (pa_cons (pv 3) pa_nil))) (pa_cons (pe_fn Ff hr (pa_cons (pv 1) pa_nil)) pa_nil))))
      (pg_tup rfl (pgs_cons (pg_name (i := 8) nd rfl (by first | exact Or.inl rfl | exact Or.inr rfl)) (pgs_cons (pg_name (i := 9) nd rfl (by first | exact Or.inl rfl | exact Or.inr rfl)) (pgs_cons (pg_name (i := 10) nd rfl (by first | exact Or.inl rfl | exact Or.inr rfl)) pgs_nil)))))
    (pss_cons (ps_if (PW.pt (wd_and (td_eq hr.units (pd_var 8 (pv 8)) pd_int) (wd_and1 (td_ne hr.units (pd_var 5 (pv 5)) (pd_tup pd_nil)))))
      (pss_cons (ps_set (i := 11) nd rfl (by first | exact Or.inl rfl | exact Or.inr rfl) (pe_fn Fd hr (pa_cons (pv 0) (pa_cons (pd_len M.b_len (pd_cons (pd_var 5 (pv 5)) pd_nil)) pa_nil))))
      (pss_cons (ps_set (i := 12) nd rfl (by first | exact Or.inl rfl | exact Or.inr rfl) (pe_op op_catA (pd_sl (pd_ix (pd_var 5 (pv 5)) (pd_var 11 (pv 11))) od_none (od_some pd_int)) (pe_tup (pa_cons (pe_fn F_box hr (pa_cons (pv 0) (pa_cons (pd_ix (pd_ix (pd_var 5 (pv 5)) (pd_var 11 (pv 11))) pd_int) pa_nil))) pa_nil))))
      (pss_one (ps_set (i := 5) nd rfl (by first | exact Or.inl rfl | exact Or.inr rfl) (pd_add (pd_add (pd_sl (pd_var 5 (pv 5)) od_none (od_some (pd_var 11 (pv 11)))) (pd_tup (pd_cons (pd_var 12 (pv 12)) pd_nil))) (pd_sl (pd_var 5 (pv 5)) (od_some (pd_add (pd_var 11 (pv 11)) pd_int)) od_none))))))
      pss_nil)
    (pss_cons (ps_if (td_in hr.units (pd_var 8 (pv 8)) (pd_tup (pd_cons pd_int (pd_cons pd_int pd_nil))))
      (pss_one (ps_set (i := 6) nd rfl (by first | exact Or.inl rfl | exact Or.inr rfl) (pe_callTy call_tuple_of rfl M.b_tuple PyProof.Rows.boot_tuple (pa_cons (pe_callB (cr_sortedSet rfl) rfl M.b_sorted PyProof.Rows.boot_sorted (pa_cons (pe_callTy (cr_setTI rfl) rfl M.b_set (by decide +kernel) (pa_cons (pd_add (pd_var 6 (pv 6)) (pd_tup (pd_cons (pd_var 9 (pv 9)) pd_nil))) pa_nil)) pa_nil)) pa_nil))))
      pss_nil)
    (pss_cons (ps_if (td_eq hr.units (pd_var 8 (pv 8)) pd_int)
      (pss_one (ps_set (i := 7) nd rfl (by first | exact Or.inl rfl | exact Or.inr rfl) (pe_callTy call_tuple_of rfl M.b_tuple PyProof.Rows.boot_tuple (pa_cons (pe_callB (cr_sortSq hr.units) rfl M.b_sorted PyProof.Rows.boot_sorted (pa_cons (pe_op op_catA (pv 7) (pe_callTy call_tuple_of rfl M.b_tuple PyProof.Rows.boot_tuple (pa_cons
        (pe_lc (own := [("_law_other", 13)]) (g := tG K (nmP 13) [13]) (tt := tT K yesB) (te := tD K e_other) rfl nd (pi_list (pe_slice sl_list (pe_ix ix_tup (pv 10) pe_int (fun _ _ => rfl)) po_none (po_some pe_int))) (blkOk_by (own := [("_law_other", 13)]) (N := n_law_wider) (sc := defScope (top 117)) (by decide +kernel))
          (fun _ _ _ _ _ => (gd_name 13 (pg_name (i := 13) nd rfl (by first | exact Or.inl rfl | exact Or.inr rfl)))) (fun _ _ _ _ _ => tsd_nil) (fun _ _ _ _ _ => (pd_tup (pd_cons (pd_var 13 (pv 13)) (pd_cons pd_int (pd_cons pd_int pd_nil)))))) pa_nil))) pa_nil)) pa_nil))))
      pss_nil)
    (pss_cons (ps_if (td_eq hr.units (pd_var 8 (pv 8)) pd_int)
      (pss_one (ps_set (i := 7) nd rfl (by first | exact Or.inl rfl | exact Or.inr rfl) (pd_tuple M.b_tuple (pd_cons (pd_lc (own := [("_law_smith", 14)]) nd (id_seq (pd_var 7 (pv 7))) (blkOk_by (own := [("_law_smith", 14)]) (N := n_law_wider) (sc := defScope (top 117)) (by decide +kernel)) (fun _ _ _ _ _ => (gd_name 14 (pg_name (i := 14) nd rfl (by first | exact Or.inl rfl | exact Or.inr rfl)))) (fun _ _ _ _ _ => tsd_nil) (fun _ _ _ _ _ => (pd_tup (pd_cons (pd_ix (pd_var 14 (pv 14)) pd_int) (pd_cons pd_int (pd_cons (pd_ix (pd_var 14 (pv 14)) pd_int) pd_nil))))) (by decide)) pd_nil))))
      pss_nil)
    (pss_cons (ps_if (PW.pt (wd_and (td_eq hr.units (pd_var 8 (pv 8)) pd_int) (wd_and1 (td_lt hr.units (pd_len M.b_len (pd_cons (pd_var 5 (pv 5)) pd_nil)) pd_int))))
      (pss_one (ps_set (i := 5) nd rfl (by first | exact Or.inl rfl | exact Or.inr rfl) (pe_callTy call_tuple_of rfl M.b_tuple PyProof.Rows.boot_tuple (pa_cons (pe_callB (cr_sortSq hr.units) rfl M.b_sorted PyProof.Rows.boot_sorted (pa_cons (pe_op op_catA (pv 5) (pe_callTy call_tuple_of rfl M.b_tuple PyProof.Rows.boot_tuple (pa_cons
        (pe_lc (own := [("_law_one", 15)]) (g := tG K (nmP 15) [15]) (tt := tT K yesB) (te := tD K e_one) rfl nd (pi_list (pe_slice sl_list (pe_ix ix_tup (pv 10) pe_int (fun _ _ => rfl)) po_none (po_some pe_int))) (blkOk_by (own := [("_law_one", 15)]) (N := n_law_wider) (sc := defScope (top 117)) (by decide +kernel))
          (fun _ _ _ _ _ => (gd_name 15 (pg_name (i := 15) nd rfl (by first | exact Or.inl rfl | exact Or.inr rfl)))) (fun _ _ _ _ _ => tsd_nil) (fun _ _ _ _ _ => (pd_add (pd_var 15 (pv 15)) (pd_tup (pd_cons (pd_var 9 (pv 9)) (pd_cons (pd_rep (pd_tup (pd_cons (pd_tup (pd_cons pd_int (pd_cons pd_int pd_nil))) pd_nil)) (pd_var 2 (pv 2))) pd_nil)))))) pa_nil))) pa_nil)) pa_nil))))
      pss_nil)
    (pss_cons (ps_if (td_eq hr.units (pd_var 8 (pv 8)) pd_int)
      (pss_one (ps_set (i := 4) nd rfl (by first | exact Or.inl rfl | exact Or.inr rfl) (pd_add (pd_var 4 (pv 4)) (pd_tup (pd_cons (pd_rep (pd_tup (pd_cons pd_int pd_nil)) (pd_var 2 (pv 2))) pd_nil)))))
      pss_nil)
    (pss_one (ps_ret (pe_tup (pa_cons (pv 2) (pa_cons (pv 3) (pa_cons (pv 4) (pa_cons (pv 5) (pa_cons (pv 6) (pa_cons (pv 7) pa_nil))))))))))))))))  , ?_⟩
  obtain ⟨p, n, hv, h, rfl, hp, hH, G, S, hn, k⟩ := h
  obtain ⟨A0, us, rfl, hA0, hus⟩ := (show Im K H hv (.tuple [nD h.teeth, nD h.halls, .tuple (h.wears.map keyD), .tuple (h.doors.map doorD), .tuple (h.benches.map nD), .tuple (h.smiths.map smithD)]) from hH).inT
  obtain ⟨x1, x2, wv, dv, bv, sv, rfl, i1, i2, i3, i4, i5, i6⟩ := im6 hus
  cases i1
  cases i2
  have h6 := G.h6
  refine ⟨_, rfl, A0, _, rfl, SqT.of hA0, rfl, _, _, rfl, _, _, rfl, _, _, rfl, _, _, rfl, _, _, rfl, _, _, rfl, rfl, ?_⟩
  refine ⟨_, rfl, p, 6, n, rfl, hp, by omega, by omega, by omega, fun d H1 hd f1 p1 => ?_⟩
  refine ⟨_, rfl, _, rfl, p, h.halls, n + 1, rfl, p1, G.h1, by omega, by omega, fun e H2 he f2 p2 => ?_⟩
  have f12 := f1.trans f2
  refine ⟨_, rfl, .ref A0, h, rfl, hH.mono (f12.tk hp), G, fun T A B xs ys H3 hAn hBn s3 hT hA hxs hB hys => ?_⟩
  obtain ⟨op, hop⟩ := hp.some_
  refine ⟨by show 3 ≤ sizeLine; decide, fun U hU => ?_⟩
  have sU : Same H3 (upd H3 U (.tup [.int (d : Int), .int (e : Int), .ref T])) := Same.new hU
  refine ⟨U, _, rfl, SqT.of upd_same, rfl, _, _, rfl, _, _, rfl, _, _, rfl, rfl, ?_⟩
  have p3 := (p2.same s3).same sU
  have f3 := (f12.trans (Fr.of s3)).trans (Fr.of sU)
  have W0 : WSt K H p A0 T A B xs ys n 2 d e h 0 [some (.ref p), some (.ref A0), some (.int (h.teeth : Int)), some (.int (h.halls : Int)), some wv, some dv, some bv, some sv, some (.int (d : Int)), some (.int (e : Int)), some (.ref T), none, none, none, none, none] (upd H3 U (.tup [.int (d : Int), .int (e : Int), .ref T])) :=
    ⟨h, wv, dv, bv, sv, none, none, rfl, f3, p3, (WHouse.mk i3 i4 i5 i6).mono (f3.tk hp), WidR.refl G, fun _ => rfl, ?_⟩
  · generalize upd H3 U (.tup [.int (d : Int), .int (e : Int), .ref T]) = H4 at W0 ⊢
    clear sU hU p3 f3 hT hA hxs hB hys s3 f1 f2 f12 p1 p2
    dsimp only
    -- a gap wider
    refine seq_cut (WSt K H p A0 T A B xs ys n 10 d e h 1) ?_ ?_
    · intro σ5 H5 W5
      -- a bench
      refine seq_cut (WSt K H p A0 T A B xs ys n 10 d e h 2) ?_ ?_
      · intro σ6 H6 W6
        refine seq_cut (WSt K H p A0 T A B xs ys n 10 d e h 3) ?_ ?_
        · intro σ7 H7 W7
          refine seq_cut (WSt K H p A0 T A B xs ys n 10 d e h 4) ?_ ?_
          · intro σ8 H8 W8
            refine seq_cut (WSt K H p A0 T A B xs ys n 10 d e h 5) ?_ ?_
            · intro σ9 H9 W9
              refine seq_cut (WSt K H p A0 T A B xs ys n 10 d e h 6) ?_ ?_
              · rintro σ10 H10 ⟨h', wv', dv', bv', sv', y11, y12, rfl, f10, p10, WH, WR, _, WF⟩
                refine ⟨_, rfl, _, rfl, _, rfl, _, rfl, _, rfl, _, rfl, by show 6 ≤ sizeLine; decide, fun R hR => ?_⟩
                have sR : Same H10 (upd H10 R (.tup [.int (h.teeth : Int), .int (h.halls : Int), wv', dv', bv', sv'])) := Same.new hR
                have WH' := WH.mono (same_tk sR)
                have hDw : houseD h' = .tuple [nD h.teeth, nD h.halls, .tuple (h'.wears.map keyD), .tuple (h'.doors.map doorD), .tuple (h'.benches.map nD), .tuple (h'.smiths.map smithD)] := by
                  unfold houseD
                  rw [WR.te, WR.ha]
                exact k (.ref R) h' _ (f10.trans (Fr.of sR)) (p10.same sR) (by rw [hDw]; exact .tup upd_same (.cons (.int _) (.cons (.int _) (.cons WH'.w (.cons WH'.d (.cons WH'.b (.cons WH'.s .nil))))))) WR
              · intro nx hnx
                obtain ⟨h', wv', dv', bv', sv', y11, y12, rfl, f9, p9, WH, WR, hc, WF⟩ := W9
                have r9 := WH.rep (t := h.teeth) (a := h.halls) (d := d) (e := e) (x0 := some (.ref p)) (x1 := some (.ref A0)) (x10 := some (.ref T)) (y11 := y11) (y12 := y12)
                refine ⟨_, _, r9, t_eq (d := d) (k := 5) rfl, fun H10 s10 => ?_⟩
                by_cases h5 : d = 5
                · rw [decide_eq_true h5]
                  refine iteT ?_
                  have hh : h' = h := hc (by omega)
                  subst hh
                  refine ⟨_, .tuple ((h'.wears ++ [List.replicate h'.teeth 0]).map keyD), r9.mono s10, wearx_ok G (by have := S.w3; omega), fun v H11 s11 r11 => ?_⟩
                  have t11 := s10.trans s11
                  have WH2 := WH.mono (same_tk t11)
                  exact hnx _ _ ⟨{ h' with wears := h'.wears ++ [List.replicate h'.teeth 0] }, v, dv', bv', sv', y11, y12, rfl, f9.trans (Fr.of t11), p9.same t11, ⟨r11.im rfl, WH2.d, WH2.b, WH2.s⟩, (WidR.refl G).wear (by have := S.w3; omega), fun q => by omega, WF.fr (Fr.of t11) p9⟩
                · rw [decide_eq_false h5]
                  refine iteF ?_
                  exact hnx _ _ ⟨h', wv', dv', bv', sv', y11, y12, rfl, f9.trans (Fr.of s10), p9.same s10, WH.mono (same_tk s10), WR, fun q => hc (by omega), WF.fr (Fr.of s10) p9⟩
            · intro nx hnx
              obtain ⟨h', wv', dv', bv', sv', y11, y12, rfl, f9, p9, WH, WR, hc, WF⟩ := W8
              have r9 := WH.rep (t := h.teeth) (a := h.halls) (d := d) (e := e) (x0 := some (.ref p)) (x1 := some (.ref A0)) (x10 := some (.ref T)) (y11 := y11) (y12 := y12)
              refine ⟨_, _, r9, t_door, fun H10 s10 => ?_⟩
              by_cases h5 : d = 4 ∧ h'.doors.length < 10
              · rw [decide_eq_true h5.1, decide_eq_true h5.2]
                refine iteT ?_
                have hh : h' = h := hc (by omega)
                subst hh
                have WH1 := WH.mono (same_tk s10)
                have WF1 := WF.fr (Fr.of s10) p9
                obtain ⟨S1, ss, rfl, hS1, hss⟩ := WH1.d.inT
                refine ⟨_, rfl, ?_⟩
                unfold gName tCB tCons
                refine lc_of (K := K) (by decide) mono_free ⟨_, rfl, T, _, 1, .ref B, rfl, rfl, SqT.of WF1.t, rfl, 1, rfl, B, ys, rfl, SqL.of WF1.b, fun Z hZ => ?_⟩
                have imZ : ImAll K (upd H10 Z (.lst (cutV ys none (some 1)))) (cutV ys none (some 1)) (((freeWays h').take 1).map wayD) := by
                  have q := (WF1.bi.cut none (some 1)).mono (TK.new (o := .lst (cutV ys none (some 1))) hZ)
                  rw [show cutG ((freeWays h').map wayD) none (some 1) = ((freeWays h').take 1).map wayD by rw [List.map_take]; exact cutG_to _ 1] at q
                  exact q
                have sZ : Same H10 (upd H10 Z (.lst (cutV ys none (some 1)))) := Same.new hZ
                refine ⟨Z, rfl, ⟨_, SqL.of upd_same⟩, _, _, _, dw_list upd_same imZ, by simp; omega, r9.mono (s10.trans sZ), one_ok G _, fun D1 H11 zs hD1 s11 hD11 hz11 => ?_⟩
                refine ⟨D1, zs, rfl, .inl ⟨SqL.of hD11, fun V1 hV1 => ?_⟩⟩
                have sV : Same H11 (upd H11 V1 (.tup zs)) := Same.new hV1
                have lz := hz11.length
                have ls := hss.length
                have tA := (sZ.trans s11).trans sV
                refine catA_use rfl rfl (tA _ _ hS1) upd_same ?_ fun C1 H12 s12 hC1 => ?_
                · rw [lz, ls]
                  simp
                  omega
                have tB := tA.trans s12
                have imC : ImAll K H12 (ss ++ zs) ((h'.doors ++ ((freeWays h').take 1).map (exDoor h' e)).map doorD) := by
                  rw [List.map_append, List.map_map]
                  exact (hss.mono (same_tk tB)).append ((hz11.mono (same_tk sV)).mono (same_tk s12))
                obtain ⟨m, hm1, hm2, hm3⟩ := sort_map doorD (h'.doors ++ ((freeWays h').take 1).map (exDoor h' e))
                refine ⟨C1, _, _, rfl, .inr hC1, imC, srt_doors _ (by simp; omega), fun R ys' hR _ imR => ?_⟩
                rw [hm1] at imR
                refine ⟨R, ys', rfl, .inl ⟨SqL.of upd_same, fun U hU => ?_⟩⟩
                have sR : Same H12 (upd H12 R (.lst ys')) := Same.new hR
                have sU : Same (upd H12 R (.lst ys')) (upd (upd H12 R (.lst ys')) U (.tup ys')) := Same.new hU
                have tC := ((s10.trans tB).trans sR).trans sU
                have WH2 := WH.mono (same_tk tC)
                obtain ⟨fe1, fe2⟩ := free_doors G he
                exact hnx _ _ ⟨{ h' with doors := m }, wv', .ref U, bv', sv', y11, y12, rfl, f9.trans (Fr.of tC), p9.same tC, ⟨WH2.w, .tup upd_same (imR.mono (same_tk sU)), WH2.b, WH2.s⟩, (WidR.refl G).doors fe1 fe2 hm2 hm3 (by simp; omega), fun q => by omega, WF.fr (Fr.of tC) p9⟩
              · have hz : (decide (d = 4) && decide (h'.doors.length < 10)) = false := by
                  rw [Bool.and_eq_false_iff]
                  by_cases q : d = 4
                  · exact .inr (decide_eq_false fun z => h5 ⟨q, z⟩)
                  · exact .inl (decide_eq_false q)
                rw [hz]
                refine iteF ?_
                exact hnx _ _ ⟨h', wv', dv', bv', sv', y11, y12, rfl, f9.trans (Fr.of s10), p9.same s10, WH.mono (same_tk s10), WR, fun q => hc (by omega), WF.fr (Fr.of s10) p9⟩
          · intro nx hnx
            obtain ⟨h', wv', dv', bv', sv', y11, y12, rfl, f9, p9, WH, WR, hc, WF⟩ := W7
            have r9 := WH.rep (t := h.teeth) (a := h.halls) (d := d) (e := e) (x0 := some (.ref p)) (x1 := some (.ref A0)) (x10 := some (.ref T)) (y11 := y11) (y12 := y12)
            refine ⟨_, _, r9, t_eq (d := d) (k := 3) rfl, fun H10 s10 => ?_⟩
            by_cases h5 : d = 3
            · rw [decide_eq_true h5]
              refine iteT ?_
              have hh : h' = h := hc (by omega)
              subst hh
              refine ⟨_, .tuple ((h'.smiths.map fun s : Nat × Nat × Nat => (s.1, 6, s.2.2)).map smithD), r9.mono s10, liftx_ok G, fun v H11 s11 r11 => ?_⟩
              have t11 := s10.trans s11
              have WH2 := WH.mono (same_tk t11)
              exact hnx _ _ ⟨{ h' with smiths := h'.smiths.map fun s => (s.1, 6, s.2.2) }, wv', dv', bv', v, y11, y12, rfl, f9.trans (Fr.of t11), p9.same t11, ⟨WH2.w, WH2.d, WH2.b, r11.im rfl⟩, (WidR.refl G).lift, fun q => by omega, WF.fr (Fr.of t11) p9⟩
            · rw [decide_eq_false h5]
              refine iteF ?_
              exact hnx _ _ ⟨h', wv', dv', bv', sv', y11, y12, rfl, f9.trans (Fr.of s10), p9.same s10, WH.mono (same_tk s10), WR, fun q => hc (by omega), WF.fr (Fr.of s10) p9⟩
        · intro nx hnx
          obtain ⟨h', wv', dv', bv', sv', y11, y12, rfl, f9, p9, WH, WR, hc, WF⟩ := W6
          have r9 := WH.rep (t := h.teeth) (a := h.halls) (d := d) (e := e) (x0 := some (.ref p)) (x1 := some (.ref A0)) (x10 := some (.ref T)) (y11 := y11) (y12 := y12)
          refine ⟨_, _, r9, t_eq (d := d) (k := 2) rfl, fun H10 s10 => ?_⟩
          by_cases h5 : d = 2
          · rw [decide_eq_true h5]
            refine iteT ?_
            have hh : h' = h := hc (by omega)
            subst hh
            have WH1 := WH.mono (same_tk s10)
            have WF1 := WF.fr (Fr.of s10) p9
            obtain ⟨S1, ss, rfl, hS1, hss⟩ := WH1.s.inT
            refine ⟨_, rfl, ?_⟩
            unfold gName tCB tCons
            refine lc_of (K := K) (by decide) mono_free ⟨_, rfl, T, _, 0, .ref A, rfl, rfl, SqT.of WF1.t, rfl, 1, rfl, A, xs, rfl, SqL.of WF1.a, fun Z hZ => ?_⟩
            have imZ : ImAll K (upd H10 Z (.lst (cutV xs none (some 1)))) (cutV xs none (some 1)) (((freeHalls h').take 1).map nD) := by
              have q := (WF1.ai.cut none (some 1)).mono (TK.new (o := .lst (cutV xs none (some 1))) hZ)
              rw [show cutG ((freeHalls h').map nD) none (some 1) = ((freeHalls h').take 1).map nD by rw [List.map_take]; exact cutG_to _ 1] at q
              exact q
            have sZ : Same H10 (upd H10 Z (.lst (cutV xs none (some 1)))) := Same.new hZ
            have hres : lcL (nmP 13) yesB e_other (rhoW h'.teeth h'.halls h' d e) (((freeHalls h').take 1).map nD) = some (((freeHalls h').take 1).map fun i => smithD (i, 6, 1)) := lcL_all fun i _ => ⟨_, rfl, rfl, rfl⟩
            refine ⟨Z, rfl, ⟨_, SqL.of upd_same⟩, _, _, _, dw_list upd_same imZ, by simp; omega, r9.mono (s10.trans sZ), hres, fun D1 H11 zs hD1 s11 hD11 hz11 => ?_⟩
            refine ⟨D1, zs, rfl, .inl ⟨SqL.of hD11, fun V1 hV1 => ?_⟩⟩
            have sV : Same H11 (upd H11 V1 (.tup zs)) := Same.new hV1
            have lz := hz11.length
            have ls := hss.length
            have s4 := S.s4
            have tA := (sZ.trans s11).trans sV
            refine catA_use rfl rfl (tA _ _ hS1) upd_same ?_ fun C1 H12 s12 hC1 => ?_
            · rw [lz, ls]
              simp
              omega
            have tB := tA.trans s12
            have imC : ImAll K H12 (ss ++ zs) ((h'.smiths ++ ((freeHalls h').take 1).map fun i => (i, 6, 1)).map smithD) := by
              rw [List.map_append, List.map_map]
              exact (hss.mono (same_tk tB)).append ((hz11.mono (same_tk sV)).mono (same_tk s12))
            obtain ⟨m, hm1, hm2, hm3⟩ := sort_map smithD (h'.smiths ++ ((freeHalls h').take 1).map fun i => (i, 6, 1))
            refine ⟨C1, _, _, rfl, .inr hC1, imC, srt_smiths _ (by simp; omega), fun R ys' hR _ imR => ?_⟩
            rw [hm1] at imR
            refine ⟨R, ys', rfl, .inl ⟨SqL.of upd_same, fun U hU => ?_⟩⟩
            have sR : Same H12 (upd H12 R (.lst ys')) := Same.new hR
            have sU : Same (upd H12 R (.lst ys')) (upd (upd H12 R (.lst ys')) U (.tup ys')) := Same.new hU
            have tC := ((s10.trans tB).trans sR).trans sU
            have WH2 := WH.mono (same_tk tC)
            obtain ⟨fe1, fe2⟩ := free_ex G
            exact hnx _ _ ⟨{ h' with smiths := m }, wv', dv', bv', .ref U, y11, y12, rfl, f9.trans (Fr.of tC), p9.same tC, ⟨WH2.w, WH2.d, WH2.b, .tup upd_same (imR.mono (same_tk sU))⟩, (WidR.refl G).smiths fe1 fe2 hm2 hm3 (by simp; omega), fun q => by omega, WF.fr (Fr.of tC) p9⟩
          · rw [decide_eq_false h5]
            refine iteF ?_
            exact hnx _ _ ⟨h', wv', dv', bv', sv', y11, y12, rfl, f9.trans (Fr.of s10), p9.same s10, WH.mono (same_tk s10), WR, fun q => hc (by omega), WF.fr (Fr.of s10) p9⟩
      · intro nx hnx
        obtain ⟨h', wv', dv', bv', sv', y11, y12, rfl, f9, p9, WH, WR, hc, WF⟩ := W5
        have r9 := WH.rep (t := h.teeth) (a := h.halls) (d := d) (e := e) (x0 := some (.ref p)) (x1 := some (.ref A0)) (x10 := some (.ref T)) (y11 := y11) (y12 := y12)
        refine ⟨_, _, r9, t_in01, fun H10 s10 => ?_⟩
        by_cases h5 : d = 0 ∨ d = 1
        · rw [decide_eq_true h5]
          refine iteT ?_
          have gw6 := WR.gw.h6
          have bl : h'.benches.length ≤ 20 := Nat.le_trans (strict_len h'.benches 0 h'.halls WR.gw.bs fun x hx => ⟨Nat.zero_le _, WR.gw.bg x hx⟩) (by omega)
          refine ⟨_, .tuple ((h'.benches ++ [e]).map nD), r9.mono s10, benchx_ok bl, fun v H11 s11 r11 => ?_⟩
          obtain ⟨B1, vs, rfl, hB1, hvs⟩ := r11.tup
          have hv : vs = ((h'.benches ++ [e]).map fun (x : Nat) => (x : Int)).map V.int := im_nat_vals hvs
          subst hv
          refine ⟨B1, _, rfl, SqT.of hB1, by simp; omega, fun C c hC hcl => ?_⟩
          refine ⟨C, _, c, rfl, upd_same, ?_, fun ns R hns hmem hlen hR => ?_⟩
          · simp at hcl
            omega
          · have hk : ∀ x, x ∈ ns ↔ ∃ b : Nat, (b ∈ h'.benches ∨ b = e) ∧ (b : Int) = x := fun x => by
              rw [hmem, decide_eq_true_iff, List.mem_map]
              simp only [List.mem_append, List.mem_singleton]
            have hpos : ∀ x ∈ ns, 0 ≤ x := fun x hx => by
              obtain ⟨b, _, rfl⟩ := (hk x).mp hx
              omega
            have hbm : ∀ b : Nat, b ∈ ns.map Int.toNat ↔ b ∈ h'.benches ∨ b = e := fun b => by
              rw [List.mem_map]
              constructor
              · rintro ⟨x, hx, rfl⟩
                obtain ⟨c, hc, rfl⟩ := (hk x).mp hx
                exact hc
              · intro hb
                exact ⟨(b : Int), (hk b).mpr ⟨b, hb, rfl⟩, by omega⟩
            have hbp : (ns.map Int.toNat).Pairwise (· < ·) := by
              rw [List.pairwise_map]
              refine (List.Pairwise.and_mem.mp hns).imp ?_
              rintro x y ⟨hx, hy, hxy⟩
              have := hpos x hx
              have := hpos y hy
              omega
            have hbe := nat_back hpos
            refine ⟨R, _, rfl, .inl ⟨SqL.of upd_same, fun U hU => ?_⟩⟩
            have sC : Same H11 (upd H11 C (SetO w C (fun j => decide (j ∈ (h'.benches ++ [e]).map fun (x : Nat) => (x : Int))) c)) := Same.new hC
            have sA := ((s10.trans s11).trans sC).trans ((Same.new hR).trans (Same.new (o := .tup (ns.map V.int)) hU))
            have WH2 := WH.mono (same_tk sA)
            refine hnx _ _ ⟨{ h' with benches := ns.map Int.toNat }, wv', dv', .ref U, sv', y11, y12, rfl, f9.trans (Fr.of sA), p9.same sA, ⟨WH2.w, WH2.d, ?_, WH2.s⟩, WR.bench hbp (fun b hb => (hbm b).mpr (.inl hb)) (fun b hb => ?_) ?_, fun q => by omega, WF.fr (Fr.of sA) p9⟩
            · refine .tup upd_same ?_
              have e3 : ns.map V.int = (ns.map Int.toNat).map fun (x : Nat) => V.int (x : Int) := by
                conv => lhs; rw [hbe]
                rw [List.map_map]
                rfl
              exact im_of_eq e3 (im_nats _)
            · rcases (hbm b).mp hb with hb | rfl
              · exact WR.gw.bg b hb
              · rw [WR.ha]
                exact he
            · rw [List.length_map, hlen]
              simp at hcl
              omega
        · rw [decide_eq_false h5]
          refine iteF ?_
          exact hnx _ _ ⟨h', wv', dv', bv', sv', y11, y12, rfl, f9.trans (Fr.of s10), p9.same s10, WH.mono (same_tk s10), WR, fun q => hc (by omega), WF.fr (Fr.of s10) p9⟩
    · intro nx hnx
      obtain ⟨h', wv', dv', bv', sv', y11, y12, hσ, f9, p9, WH, WR, hc, WF⟩ := W0
      simp only [List.cons.injEq, Option.some.injEq, and_true, true_and] at hσ
      obtain ⟨rfl, rfl, rfl, rfl, rfl, rfl⟩ := hσ
      have r9 := WH.rep (t := h.teeth) (a := h.halls) (d := d) (e := e) (x0 := some (.ref p)) (x1 := some (.ref A0)) (x10 := some (.ref T)) (y11 := none) (y12 := none)
      refine ⟨_, _, r9, t_gap, fun H10 s10 => ?_⟩
      have hh : h' = h := hc (by omega)
      subst hh
      by_cases h5 : d = 0 ∧ h'.doors.isEmpty = false
      · rw [decide_eq_true h5.1, h5.2]
        refine iteT ?_
        have d10 := G.d10
        have dpos : 1 ≤ h'.doors.length := by
          cases hq : h'.doors with
          | nil => rw [hq] at h5; cases h5.2
          | cons a b => simp
        refine ⟨_, rfl, _, nD h'.doors.length, r9.mono s10, by simp [rhoW], fun v1 H11 s11 q11 => ?_⟩
        rw [q11.int]
        have t11 := s10.trans s11
        refine ⟨p, h'.doors.length, n + 2, rfl, p9.same t11, dpos, by omega, by omega, fun i H12 hi f12 p12 => ?_⟩
        obtain ⟨dd, hdd⟩ : ∃ dd, h'.doors[i]? = some dd := ⟨_, List.getElem?_eq_getElem hi⟩
        have f1 := (Fr.of t11).trans f12
        have WH1 := WH.mono (f1.tk p9)
        have r12 := (WH1.rep (t := h'.teeth) (a := h'.halls) (d := d) (e := e) (x0 := some (.ref p)) (x1 := some (.ref A0)) (x10 := some (.ref T)) (y11 := none) (y12 := none)).set (i := 11) (.inl (.int (i : Int)))
        have p12' := p12
        refine ⟨_, _, r12, slice_ok hdd, fun v3 H13 s13 q13 => ?_⟩
        obtain ⟨T3, x3, rfl, hT3, im3⟩ := q13.tup
        refine ⟨_, rfl, _, boxD dd.gaps, r12.mono s13, gaps_ok hdd, fun v4 H14 s14 q14 => ?_⟩
        have hg := G.dg dd (List.mem_of_getElem? hdd)
        have t3 := G.t3
        have p14 := (p12.same s13).same s14
        refine ⟨p, v4, dd.gaps, n + 2 + 1, rfl, p14, q14.im rfl, by rw [hg.2.2.2.1]; exact t3, hg.2.2.2.2, by omega, fun wv4 b' H15 f15 p15 im15 wb => ?_⟩
        refine ⟨by show 1 ≤ sizeLine; decide, fun T4 hT4 => ?_⟩
        have sT4 : Same H15 (upd H15 T4 (.tup [wv4])) := Same.new hT4
        have h3a := s14 _ _ hT3
        have h3b := sT4 _ _ (f15 _ _ (p14.ne h3a) h3a)
        have l3 := im3.length
        have f35 : Fr p H13 (upd H15 T4 (.tup [wv4])) := ((Fr.of s14).trans f15).trans (Fr.of sT4)
        refine catA_use rfl rfl h3b upd_same (by rw [l3]; exact (show 3 + 1 ≤ 10000 by decide)) fun C H16 s16 hC => ?_
        have f12b : Fr p H12 H16 := ((Fr.of s13).trans f35).trans (Fr.of s16)
        have imC : Im K H16 (.ref C) (doorD { dd with gaps := b' }) := .tup hC ((im3.mono ((f35.trans (Fr.of s16)).tk (p12.same s13))).append (.cons ((im15.mono (same_tk sT4)).mono (same_tk s16)) .nil))
        have WH2 := WH1.mono (f12b.tk p12)
        have r16 := ((WH2.rep (t := h'.teeth) (a := h'.halls) (d := d) (e := e) (x0 := some (.ref p)) (x1 := some (.ref A0)) (x10 := some (.ref T)) (y11 := none) (y12 := none)).set (i := 11) (.inl (.int (i : Int)))).set (i := 12) (.inl imC)
        refine ⟨_, _, r16, put_ok d10, fun v5 H17 s17 q17 => ?_⟩
        have fAll : Fr p H4 H17 := (f1.trans f12b).trans (Fr.of s17)
        have WH3 := WH2.mono (same_tk s17)
        exact hnx _ _ ⟨{ h' with doors := h'.doors.take i ++ [{ dd with gaps := b' }] ++ h'.doors.drop (i + 1) }, wv, v5, bv, sv, _, _, rfl, f9.trans fAll, (((p15.same sT4).same s16).same s17).le (by omega), ⟨WH3.w, q17.im rfl, WH3.b, WH3.s⟩, WidR.gap G hdd wb, fun q => by omega, WF.fr fAll p9⟩
      · have hz : (decide (d = 0) && !h'.doors.isEmpty) = false := by
          rw [Bool.and_eq_false_iff]
          by_cases q : d = 0
          · refine .inr ?_
            cases hq : h'.doors.isEmpty with
            | true => rfl
            | false => exact absurd ⟨q, hq⟩ h5
          · exact .inl (decide_eq_false q)
        rw [hz]
        refine iteF ?_
        exact hnx _ _ ⟨h', wv, dv, bv, sv, none, none, rfl, f9.trans (Fr.of s10), (p9.same s10).le (by omega), WH.mono (same_tk s10), WR, fun q => rfl, WF.fr (Fr.of s10) p9⟩
  · obtain ⟨o2, ho2⟩ := p2.some_
    exact ⟨sU _ _ hT, sU _ _ hA, hxs.mono (same_tk sU), sU _ _ hB, hys.mono (same_tk sU), (p2.same s3).ne hT, (ne_of_none ho2 hAn).symm, (ne_of_none ho2 hBn).symm⟩
end
end Wk

set_option maxHeartbeats 4000000
/-! what can be done in the one can be done in the wider, plain -/
namespace Wk
open PySem L2
theorem find_uniq {α : Type} {p : α → Bool} : ∀ {l : List α} {x : α}, x ∈ l → p x = true → (∀ y ∈ l, p y = true → y = x) → l.find? p = some x
  | y :: l, x, hx, hp, hu => by
    rw [List.find?_cons]
    cases hy : p y with
    | true =>
      rw [hu y List.mem_cons_self hy]
    | false =>
      rcases List.mem_cons.mp hx with e | hx
      · rw [← e, hp] at hy
        cases hy
      · exact find_uniq hx hp fun z hz => hu z (List.mem_cons_of_mem _ hz)
theorem pw_uniq {α : Type} {R : α → α → Prop} {e : α → α → Prop} (he : ∀ a b, R a b → ¬ e a b ∧ ¬ e b a) : ∀ {l : List α}, l.Pairwise R → ∀ a ∈ l, ∀ b ∈ l, e a b → a = b
  | x :: l, h, a, ha, b, hb, q => by
    rw [List.pairwise_cons] at h
    rcases List.mem_cons.mp ha with e1 | ha
    · rcases List.mem_cons.mp hb with e2 | hb
      · rw [e1, e2]
      · rw [e1] at q
        exact absurd q (he _ _ (h.1 b hb)).1
    · rcases List.mem_cons.mp hb with e2 | hb
      · rw [e2] at q
        exact absurd q (he _ _ (h.1 a ha)).2
      · exact pw_uniq he h.2 a ha b hb q
section
variable {h w : House}
theorem dAt_of (G : Good w) {d : Door} (hd : d ∈ w.doors) : dAt w d.hall d.letter = some d := find_uniq hd (by simp) fun y hy e => by
  have e1 : y.hall = d.hall ∧ y.letter = d.letter := by simpa using e
  exact pw_uniq (e := fun a b => a.hall = b.hall ∧ a.letter = b.letter) (fun a b q => ⟨fun z => by omega, fun z => by omega⟩) G.ds y hy d hd e1
theorem sAt_of (G : Good w) {s : Nat × Nat × Nat} (hs : s ∈ w.smiths) : sAt w s.1 = some s := find_uniq hs (by simp) fun y hy e => by
  have e1 : y.1 = s.1 := by simpa using e
  exact pw_uniq (e := fun a b : Nat × Nat × Nat => a.1 = b.1) (fun a b q => ⟨fun z => by omega, fun z => by omega⟩) G.ss y hy s hs e1
theorem dAt_wid (W : WidR h w) {hall l : Nat} {d : Door} (e : dAt h hall l = some d) : ∃ d', dAt w hall l = some d' ∧ d'.to = d.to ∧ Paired WB d.gaps d'.gaps := by
  obtain ⟨h1, h2, h3⟩ := dAt_mem e
  obtain ⟨d', q1, q2, q3, q4, q5⟩ := W.do_ d h1
  refine ⟨d', ?_, q4, q5⟩
  have := dAt_of W.gw q1
  rwa [q2, q3, h2, h3] at this
theorem sAt_wid (W : WidR h w) {hall : Nat} {s : Nat × Nat × Nat} (e : sAt h hall = some s) : ∃ s', sAt w hall = some s' ∧ s.2.1 ≤ s'.2.1 ∧ s'.2.2 = s.2.2 := by
  have h1 : s ∈ h.smiths := List.mem_of_find?_eq_some e
  have h2 : s.1 = hall := by simpa using List.find?_some e
  obtain ⟨s', q1, q2, q3, q4⟩ := W.sm s h1
  refine ⟨s', ?_, q3, q4⟩
  have := sAt_of W.gw q1
  rwa [q2, h2] at this
theorem wb_at : ∀ {b c : Box}, Paired WB b c → ∀ t, t < b.length → (c.getD t (0, 0)).1 ≤ (b.getD t (0, 0)).1 ∧ (b.getD t (0, 0)).2 ≤ (c.getD t (0, 0)).2
  | _, _, .nil, t, ht => by simp at ht
  | x :: b, y :: c, .cons a r, 0, _ => by simpa using ⟨a.1, a.2.1⟩
  | x :: b, y :: c, .cons a r, t + 1, ht => by
    have := wb_at r t (by simpa using ht)
    simpa using this
theorem away_wid (W : WidR h w) {hall : Nat} {d : Deed} (e : away h hall d = false) : away w hall d = false := by
  cases d with
  | go l =>
    cases q : dAt h hall l with
    | none => simp [away, q] at e
    | some d =>
      obtain ⟨d', h1, _⟩ := dAt_wid W q
      simp [away, h1]
  | file t =>
    simp [away] at e ⊢
    exact W.be _ e
  | lift t =>
    cases q : sAt h hall with
    | none => simp [away, q] at e
    | some d =>
      obtain ⟨d', h1, _⟩ := sAt_wid W q
      simp [away, h1]
theorem gap_wid (G : Good h) (W : WidR h w) {hall : Nat} {d : Deed} (e : away h hall d = false) {t : Nat} (ht : t < h.teeth) : (gapAt w hall d t).1 ≤ (gapAt h hall d t).1 ∧ (gapAt h hall d t).2 ≤ (gapAt w hall d t).2 := by
  cases d with
  | go l =>
    cases q : dAt h hall l with
    | none => simp [away, q] at e
    | some d =>
      obtain ⟨d', h1, _, h3⟩ := dAt_wid W q
      simp only [gapAt, q, h1]
      exact wb_at h3 t (by rw [(G.dg d (dAt_mem q).1).2.2.2.1]; exact ht)
  | file u => exact ⟨Nat.le_refl _, Nat.le_refl _⟩
  | lift u =>
    cases q : sAt h hall with
    | none => simp [away, q] at e
    | some s =>
      obtain ⟨s', h1, h2, _⟩ := sAt_wid W q
      simp only [gapAt, q, h1]
      split
      · exact ⟨Nat.le_refl _, by show s.2.1 - 1 ≤ s'.2.1 - 1; omega⟩
      · exact ⟨Nat.le_refl _, Nat.le_refl _⟩
theorem can_wid (G : Good h) (W : WidR h w) {s : Stand} (hs : GoodS h s) {d : Deed} (c : can h s d = true) : can w s d = true := by
  have na := can_away c
  have nw := away_wid W na
  unfold can at c ⊢
  rw [na] at c
  rw [nw]
  simp only [Bool.not_false, Bool.true_and, List.all_eq_true] at c ⊢
  intro p hp
  have h1 := c p hp
  have h2 := enF_get hp
  have h3 : p.1 < h.teeth := by
    rw [← hs.len]
    have := (List.getElem?_eq_some_iff.mp h2.2).1
    omega
  have h4 := gap_wid G W na h3
  simp only [fits, Bool.and_eq_true, decide_eq_true_iff] at h1 ⊢
  omega
theorem to_wid (W : WidR h w) {hall : Nat} {d : Deed} (e : away h hall d = false) : toH w hall d = toH h hall d := by
  cases d with
  | go l =>
    cases q : dAt h hall l with
    | none => simp [away, q] at e
    | some d =>
      obtain ⟨d', h1, h2, _⟩ := dAt_wid W q
      simp only [toH, q, h1, h2]
  | file t => rfl
  | lift t => rfl
theorem less_wid (W : WidR h w) {d : Deed} (gd : GoodD h d) (t : Nat) : lessD w d t = lessD h d t := by
  cases d with
  | go l =>
    obtain ⟨e, he⟩ := W.we
    have : (w.wears.getD l []) = h.wears.getD l [] := by
      rw [he, List.getD_eq_getElem?_getD, List.getD_eq_getElem?_getD, List.getElem?_append_left gd]
    simp only [lessD, this]
  | file t => rfl
  | lift t => rfl
theorem done_wid (W : WidR h w) {s : Stand} {d : Deed} (gd : GoodD h d) (e : away h s.1 d = false) : done w s d = done h s d := by
  unfold done
  rw [to_wid W e]
  congr 2
  funext p
  rw [less_wid W gd]
theorem price_wid (W : WidR h w) {hall : Nat} {d : Deed} (e : away h hall d = false) : price w hall d = price h hall d := by
  cases d with
  | go l => rfl
  | file t => rfl
  | lift t =>
    cases q : sAt h hall with
    | none => simp [away, q] at e
    | some s =>
      obtain ⟨s', h1, h2, h3⟩ := sAt_wid W q
      simp only [price, q, h1, h3]
theorem goodD_wid (W : WidR h w) {d : Deed} (gd : GoodD h d) : GoodD w d := by
  obtain ⟨e, he⟩ := W.we
  cases d with
  | go l =>
    show l < w.wears.length
    rw [he, List.length_append]
    exact Nat.lt_of_lt_of_le gd (Nat.le_add_right _ _)
  | file t =>
    show t < w.teeth
    rw [W.te]
    exact gd
  | lift t =>
    show t < w.teeth
    rw [W.te]
    exact gd
theorem goodS_wid (W : WidR h w) {s : Stand} (g : GoodS h s) : GoodS w s := ⟨by rw [W.ha]; exact g.hall, by rw [W.te]; exact g.len, g.six⟩
theorem run_wid (G : Good h) (W : WidR h w) : ∀ {r : List Deed} {s t : Stand}, GoodS h s → (∀ d ∈ r, GoodD h d) → run h s r = some t → run w s r = some t ∧ coins w s.1 r = coins h s.1 r
  | [], _, _, _, _, e => ⟨e, rfl⟩
  | d :: r, s, t, g, gd, e => by
    unfold run at e ⊢
    split at e
    · rename_i c
      have na := can_away c
      have hd := done_wid W (gd d List.mem_cons_self) na
      obtain ⟨h1, h2⟩ := run_wid G W (done_good G g c) (fun x hx => gd x (List.mem_cons_of_mem _ hx)) e
      rw [if_pos (can_wid G W g c), hd]
      refine ⟨h1, ?_⟩
      show price w s.1 d + coins w (toH w s.1 d) r = price h s.1 d + coins h (toH h s.1 d) r
      rw [price_wid W na, to_wid W na]
      have h3 : coins w (toH h s.1 d) r = coins h (toH h s.1 d) r := h2
      rw [h3]
    · cases e
theorem goes_wid (G : Good h) (W : WidR h w) {s : Stand} (g : GoodS h s) {q : Nat × Box} {r : List Deed} (hr : Goes h s q r) : Goes w s q r := by
  obtain ⟨h1, t, h2, h3⟩ := hr
  exact ⟨fun d hd => goodD_wid W (h1 d hd), t, (run_wid G W g h1 h2).1, h3⟩
theorem mays_wid (G : Good h) (W : WidR h w) {s : Stand} (g : GoodS h s) {d : Deed} (hd : d ∈ mays h s) : d ∈ mays w s := by
  obtain ⟨h1, h2⟩ := List.mem_filter.mp hd
  exact List.mem_filter.mpr ⟨deeds_good.mpr (goodD_wid W (deeds_good.mp h1)), can_wid G W g h2⟩
end
end Wk

set_option maxHeartbeats 4000000
/-! Walker -/
namespace Wk
open PySem L2 PyProof.Rows
/-! ### o.f as a target -/
def gFld (K : PySem.W.Frag) (ta : TE) (f : Str) : TG := fun v σ H Q => ta σ H fun x H2 => ∃ a C dx fs, x = V.ref a ∧ H2 a = some (.ins C dx fs) ∧ Cls K C ∧ NoAttr K C f ∧ fs.length < 1000 ∧ Q σ (upd H2 a (.ins C dx (putF f v fs)))
theorem pg_fld {X : Cx} {o : Expr} {f : Str} {pos : Pos} {ta : TE} (ha : PE X o ta) : PG X (.Attribute o f pos) (gFld X.K ta f) := ⟨fun pins s σ H v u Q I r h => by
  unfold assign
  refine wpAny_bind (wpAny_holding (thn (ha.run pins s σ H _ I h) fun ov s1 ⟨x, H1, I1, r1, q1⟩ => ?_))
  obtain ⟨a, C, dx, fs, rfl, e, c, n, l, q2⟩ := q1
  obtain rfl : ov = .ref a := r1
  refine wpAny_bind (wpAny_standAt ?_)
  refine wpAny_bind (wpAny_holding (setattr_ok I1 e c n l r fun s3 I3 => ?_))
  exact wpAny_release ⟨σ, _, I3, q2⟩⟩
theorem meth_raw {P : Program} {w : World} {K : PySem.W.Frag} {mg : Str → Option Value} {base : Heap} {x q : Str} {params : Arguments} {body : List Stmt} {scope : Scope} {f : Addr} {fd : FuncData} {N ps : List Str} {k : Nat} {sp : Sp} (F : FunD K x q params body scope [] [] f fd) (S : FnScope N ps scope)
    (len : ∀ vs H Q E, sp vs H Q E → vs.length = ps.length)
    (hbody : ∀ (cdv : Value) (A : Around) (outer : List PySem.Env) (s : Shared) (H : Hp) (vs : List V) (Q : VK) (E : XK), Room k (A.deeper (envOfC q scope s.heap.objs.size f cdv)) → sp vs H Q E →
      ∃ t, PSs (cxOf CX0 P w K mg base N q scope f cdv A outer s H E).nox body t ∧ t { nx := fun _ H' => Q .non H', rt := Q } (L2.start N vs) H) :
    FnOk P w K mg base CX0 (k + 1) f fd ps sp :=
  F.ok S len fun cdv A outer s H vs Q E hr h => by
    obtain ⟨t, h1, h2⟩ := hbody cdv A outer s H vs Q E hr h
    exact ⟨t, h1.nox, h2⟩
def mtd (j : Nat) : Stmt := inClass (top 97) j
/-- an own method, by its promise -/
structure MtAt (P : Program) (w : World) (K : PySem.W.Frag) (mg : Str → Option Value) (base : Heap) (C : Addr) (k : Nat) (m : Str) (ps : List Str) (sp : Sp) : Prop where
  ex : ∃ f fd, Meth K C m f ∧ Binds K fd ps [] ∧ FnOk P w K mg base CX0 k f fd ps sp
structure DnM (K : PySem.W.Frag) (C : Addr) (m q : Str) (st : Stmt) : Prop where
  ex : ∃ f fd, FunD K m q (defArgs st) (defBody st) (defScope st) [] [] f fd ∧ Meth K C m f
structure WkT (K : PySem.W.Frag) (mg : Str → Option Value) (C : Addr) : Prop where
  cl : Cls K C
  nH : NoAttr K C "house"
  nB : NoAttr K C "begin"
  nS : NoAttr K C "here"
  nK : NoAttr K C "kept"
  nP : NoAttr K C "past"
  mgC : mg "Walker" = some (.ref C)
  ini : ∃ f fd, FunD K "__init__" "Walker.__init__" (defArgs (mtd 0)) (defBody (mtd 0)) (defScope (mtd 0)) [] [] f fd ∧ Mk K C f
def wf (hv bv sv rv pv : V) : List (Str × V) := [("house", hv), ("begin", bv), ("here", sv), ("kept", rv), ("past", pv)]
theorem wf_new (hv bv sv rv pv : V) : putF "past" pv (putF "kept" rv (putF "here" sv (putF "begin" bv (putF "house" hv [])))) = wf hv bv sv rv pv := rfl
theorem wf_here (hv bv sv rv pv x : V) : putF "here" x (wf hv bv sv rv pv) = wf hv bv x rv pv := rfl
theorem wf_kept (hv bv sv rv pv x : V) : putF "kept" x (wf hv bv sv rv pv) = wf hv bv sv x pv := rfl
theorem wf_h (hv bv sv rv pv : V) : (wf hv bv sv rv pv).lookup ("house" : Str) = some hv := rfl
theorem wf_b (hv bv sv rv pv : V) : (wf hv bv sv rv pv).lookup ("begin" : Str) = some bv := rfl
theorem wf_s (hv bv sv rv pv : V) : (wf hv bv sv rv pv).lookup ("here" : Str) = some sv := rfl
theorem wf_k (hv bv sv rv pv : V) : (wf hv bv sv rv pv).lookup ("kept" : Str) = some rv := rfl
theorem wf_p (hv bv sv rv pv : V) : (wf hv bv sv rv pv).lookup ("past" : Str) = some pv := rfl
end Wk

set_option maxHeartbeats 4000000
/-! Walker's methods -/
namespace Wk
open PySem L2 PyProof.Rows
theorem upd_twice {H : Hp} {x : Addr} {o o' : HO} : upd (upd H x o) x o' = upd H x o' := by
  funext b
  by_cases e : b = x
  · subst e
    rw [upd_same, upd_same]
  · rw [upd_ne e, upd_ne e, upd_ne e]
theorem upd_comm {H : Hp} {x y : Addr} {o o' : HO} (n : x ≠ y) : upd (upd H x o) y o' = upd (upd H y o') x o := by
  funext b
  by_cases e : b = x
  · subst e
    rw [upd_same, upd_ne n, upd_same]
  · by_cases e2 : b = y
    · subst e2
      rw [upd_same, upd_ne e, upd_same]
    · rw [upd_ne e2, upd_ne e, upd_ne e, upd_ne e2]
/-- all but two objects stays -/
def Fr2 (a b : Addr) (H H' : Hp) : Prop := ∀ c o, c ≠ a → c ≠ b → H c = some o → H' c = some o
theorem Fr2.of {a b : Addr} {H H' : Hp} (s : Same H H') : Fr2 a b H H' := fun c o _ _ h => s c o h
theorem Fr2.trans {a b : Addr} {H H1 H2 : Hp} (x : Fr2 a b H H1) (y : Fr2 a b H1 H2) : Fr2 a b H H2 := fun c o n m h => y c o n m (x c o n m h)
theorem Fr2.upd1 {a b : Addr} {H : Hp} {o : HO} : Fr2 a b H (upd H a o) := fun c u n m h => by
  rw [upd_ne n]
  exact h
theorem Fr2.upd2 {a b : Addr} {H : Hp} {o : HO} : Fr2 a b H (upd H b o) := fun c u n m h => by
  rw [upd_ne m]
  exact h
theorem Fr2.tk {a b : Addr} {H H' : Hp} {oa ob : HO} (f : Fr2 a b H H') (ha : H a = some oa) (hb : H b = some ob) (na : ∀ xs, oa ≠ .tup xs) (nb : ∀ xs, ob ≠ .tup xs) : TK H H' := fun c xs e =>
  f c _ (ne_of e ha (na xs).symm) (ne_of e hb (nb xs).symm) e
/-- a walker at a: of the house h, begun in the hall b, its stand s, its row r, its past at p, of n deeds at most -/
structure WkAt (K : PySem.W.Frag) (C : Addr) (H : Hp) (a p : Addr) (h : House) (b : Nat) (s : Stand) (r : List Deed) (n : Nat) : Prop where
  ex : ∃ dx hv sv rv xs, H a = some (.ins C dx (wf hv (.int (b : Int)) sv rv (.ref p))) ∧ H p = some (.lst xs) ∧ xs.length ≤ n ∧ Im K H hv (houseD h) ∧ Im K H sv (standD s) ∧ Im K H rv (rowD r)
section
variable {K : PySem.W.Frag} {C : Addr} {H H' : Hp} {a p : Addr} {h : House} {b n : Nat} {s : Stand} {r : List Deed}
theorem WkAt.keep (W : WkAt K C H a p h b s r n) (f : ∀ c o, (c = a ∨ c = p) → H c = some o → H' c = some o) (t : TK H H') : WkAt K C H' a p h b s r n := by
  obtain ⟨dx, hv, sv, rv, xs, h1, h2, h3, h4, h5, h6⟩ := W.ex
  exact ⟨dx, hv, sv, rv, xs, f _ _ (.inl rfl) h1, f _ _ (.inr rfl) h2, h3, h4.mono t, h5.mono t, h6.mono t⟩
theorem WkAt.same (W : WkAt K C H a p h b s r n) (e : Same H H') : WkAt K C H' a p h b s r n := W.keep (fun c o _ q => e c o q) (same_tk e)
theorem WkAt.ne (W : WkAt K C H a p h b s r n) : a ≠ p := by
  obtain ⟨dx, hv, sv, rv, xs, h1, h2, _⟩ := W.ex
  exact ne_of h1 h2 fun z => nomatch z
theorem WkAt.tk (W : WkAt K C H a p h b s r n) (f : Fr2 a p H H') : TK H H' := by
  obtain ⟨dx, hv, sv, rv, xs, h1, h2, _⟩ := W.ex
  exact f.tk h1 h2 (fun _ z => nomatch z) (fun _ z => nomatch z)
end
section
variable {P : Program} {w : World} {K : PySem.W.Frag} {mg : Str → Option Value} {base : Heap} {C : Addr}
/-! ### __init__ -/
abbrev n_init : List Str := ["self", "house", "stand"]
theorem sc_init : FnScope n_init ["self", "house", "stand"] (defScope (mtd 0)) := ⟨rfl, rfl, rfl, by decide +kernel, rfl, by decide +kernel, by decide +kernel⟩
def sp_init (K : PySem.W.Frag) (C : Addr) : Sp := fun vs H Q _ => ∃ (x dx : Addr) (hv sv : V) (h : House) (s : Stand), vs = [.ref x, hv, sv] ∧ H x = some (.ins C dx []) ∧ Im K H hv (houseD h) ∧ Im K H sv (standD s) ∧ Good h ∧ GoodS h s ∧
  ∀ p H', H p = none → Fr x H H' → WkAt K C H' x p h s.1 s [] 0 → Q .non H'
theorem ok_init (T : WkT K mg C) (F_need_stand : FnAt P w K mg base 10 "need_stand" ["house", "thing"] (spD K 2 f_need_stand)) :
    ∃ f fd, Mk K C f ∧ Binds K fd ["self", "house", "stand"] [] ∧ FnOk P w K mg base CX0 11 f fd ["self", "house", "stand"] (sp_init K C) := by
  obtain ⟨f, fd, F, mk⟩ := T.ini
  refine ⟨f, fd, mk, F.bindsN fun _ _ _ _ _ _ us hl => (match us, hl with | [_, _, _], _ => rfl), ?_⟩
  refine meth_raw (N := n_init) F sc_init (fun vs H Q E h => by obtain ⟨_, _, _, _, _, _, rfl, _⟩ := h; rfl) (fun cdv A outer s H vs Q E hr h => ?_)
  refine ⟨_, pss_cons (ps_expr (pd_fn F_need_stand hr rfl (pd_cons (pd_var 1 (pv 1)) (pd_cons (pd_var 2 (pv 2)) pd_nil)) (consE_len (consE_len nilE_len))))
    (pss_one (ps_asg (pe_tup (pa_cons (pv 1) (pa_cons (pd_ix (pd_var 2 (pv 2)) pd_int) (pa_cons (pv 2) (pa_cons (pe_tup pa_nil) (pa_cons (pe_lst pa_nil) pa_nil))))))
      (pg_tup rfl (pgs_cons (pg_fld (pv 0)) (pgs_cons (pg_fld (pv 0)) (pgs_cons (pg_fld (pv 0)) (pgs_cons (pg_fld (pv 0)) (pgs_cons (pg_fld (pv 0)) pgs_nil)))))))), ?_⟩
  obtain ⟨x, dx, hv, sv, h, s0, rfl, hx, ih, is, G, g0, k⟩ := h
  refine ⟨[none, some (houseD h), some (standD s0)], .none, repAll (.cons rNone (.cons (rSome (.inl ih)) (.cons (rSome (.inl is)) .nil))), by simp [need_stand_ok G g0], fun v1 H1 s1 r1 => ?_⟩
  refine ⟨_, rfl, [none, none, some (standD s0)], nD s0.1, repAll (.cons rNone (.cons rNone (.cons (rSome (.inl (is.mono (same_tk s1)))) .nil))), by simp [standD], fun v2 H2 s2 r2 => ?_⟩
  rw [r2.int]
  have t2 := s1.trans s2
  refine ⟨_, rfl, Nat.zero_le _, fun T0 hT0 => ?_⟩
  refine ⟨by decide, fun R hR => ?_⟩
  refine ⟨by show 5 ≤ sizeLine; decide, fun U hU => ?_⟩
  have s3 : Same H2 (upd H2 T0 (.tup [])) := Same.new hT0
  have s4 : Same (upd H2 T0 (.tup [])) (upd (upd H2 T0 (.tup [])) R (.lst [])) := Same.new hR
  have s5 : Same (upd (upd H2 T0 (.tup [])) R (.lst [])) (upd (upd (upd H2 T0 (.tup [])) R (.lst [])) U (.tup [hv, .int (s0.1 : Int), sv, .ref T0, .ref R])) := Same.new hU
  have t5 := ((t2.trans s3).trans s4).trans s5
  have hT5 : (upd (upd (upd H2 T0 (.tup [])) R (.lst [])) U (.tup [hv, .int (s0.1 : Int), sv, .ref T0, .ref R])) T0 = some (.tup []) := s5 _ _ (s4 _ _ upd_same)
  have hR5 : (upd (upd (upd H2 T0 (.tup [])) R (.lst [])) U (.tup [hv, .int (s0.1 : Int), sv, .ref T0, .ref R])) R = some (.lst []) := s5 _ _ upd_same
  have hR0 : H R = none := (t2.trans s3).free hR
  have hU5 : (upd (upd (upd H2 T0 (.tup [])) R (.lst [])) U (.tup [hv, .int (s0.1 : Int), sv, .ref T0, .ref R])) U = some (.tup [hv, .int (s0.1 : Int), sv, .ref T0, .ref R]) := upd_same
  generalize upd (upd (upd H2 T0 (.tup [])) R (.lst [])) U (.tup [hv, .int (s0.1 : Int), sv, .ref T0, .ref R]) = H5 at t5 hT5 hR5 hU5 ⊢
  have hx5 := t5 _ _ hx
  refine ⟨U, _, rfl, SqT.of hU5, rfl, _, _, rfl, _, rfl, x, C, dx, _, rfl, hx5, T.cl, T.nH, by decide, ?_⟩
  refine ⟨_, _, rfl, _, rfl, x, C, dx, _, rfl, upd_same, T.cl, T.nB, by show 1 < 1000; decide, ?_⟩
  refine ⟨_, _, rfl, _, rfl, x, C, dx, _, rfl, upd_same, T.cl, T.nS, by show 2 < 1000; decide, ?_⟩
  refine ⟨_, _, rfl, _, rfl, x, C, dx, _, rfl, upd_same, T.cl, T.nK, by show 3 < 1000; decide, ?_⟩
  refine ⟨_, _, rfl, _, rfl, x, C, dx, _, rfl, upd_same, T.cl, T.nP, by show 4 < 1000; decide, rfl, ?_⟩
  rw [upd_twice, upd_twice, upd_twice, upd_twice, wf_new]
  have tk : TK H5 (upd H5 x (.ins C dx (wf hv (.int (s0.1 : Int)) sv (.ref T0) (.ref R)))) := TK.updO hx5 fun _ z => nomatch z
  refine k R _ hR0 (Fr.of t5).pen ⟨dx, hv, sv, .ref T0, [], upd_same, ?_, Nat.zero_le _, (ih.mono (same_tk t5)).mono tk, (is.mono (same_tk t5)).mono tk, .tup (tk _ _ hT5) .nil⟩
  rw [upd_ne (ne_of hR5 hx5 fun z => nomatch z)]
  exact hR5
/-! ### stand -/
abbrev n_stand : List Str := ["self"]
theorem sc_stand : FnScope n_stand ["self"] (defScope (mtd 8)) := ⟨rfl, rfl, rfl, by decide +kernel, rfl, by decide +kernel, by decide +kernel⟩
def sp_wstand (K : PySem.W.Frag) (C : Addr) : Sp := fun vs H Q _ => ∃ (a p : Addr) (h : House) (b n : Nat) (s : Stand) (r : List Deed), vs = [.ref a] ∧ WkAt K C H a p h b s r n ∧ ∀ v, Im K H v (standD s) → Q v H
theorem ok_wstand (T : WkT K mg C) (D : DnM K C "stand" "Walker.stand" (mtd 8)) : MtAt P w K mg base C 1 "stand" ["self"] (sp_wstand K C) := by
  obtain ⟨f, fd, F, hm⟩ := D.ex
  refine ⟨f, fd, hm, F.bindsN fun _ _ _ _ _ _ us hl => (match us, hl with | [_], _ => rfl), ?_⟩
  refine meth_raw (N := n_stand) F sc_stand (fun vs H Q E h => by obtain ⟨_, _, _, _, _, _, _, rfl, _⟩ := h; rfl) (fun cdv A outer s H vs Q E hr h => ?_)
  refine ⟨_, pss_one (ps_ret (pe_fld (pv 0) rfl)), ?_⟩
  obtain ⟨a, p, h, b, n, s0, r, rfl, W, k⟩ := h
  obtain ⟨dx, hv, sv, rv, xs, h1, h2, h3, h4, h5, h6⟩ := W.ex
  exact ⟨_, rfl, a, C, dx, _, sv, rfl, h1, T.cl, T.nS, wf_s .., k sv h5⟩
/-! ### coins -/
theorem sc_coins : FnScope n_stand ["self"] (defScope (mtd 10)) := ⟨rfl, rfl, rfl, by decide +kernel, rfl, by decide +kernel, by decide +kernel⟩
def sp_wcoins (K : PySem.W.Frag) (C : Addr) : Sp := fun vs H Q _ => ∃ (a p : Addr) (h : House) (n : Nat) (s0 s : Stand) (r : List Deed), vs = [.ref a] ∧ WkAt K C H a p h s0.1 s r n ∧ Good h ∧ GoodS h s0 ∧ run h s0 r = some s ∧ ∀ H', Same H H' → Q (.int (coins h s0.1 r : Int)) H'
theorem ok_wcoins (T : WkT K mg C) (D : DnM K C "coins" "Walker.coins" (mtd 10)) (F_coins_by : FnAt P w K mg base 3 "coins_by" ["house", "hall", "row"] (spD K 3 f_coins_by)) : MtAt P w K mg base C 4 "coins" ["self"] (sp_wcoins K C) := by
  obtain ⟨f, fd, F, hm⟩ := D.ex
  refine ⟨f, fd, hm, F.bindsN fun _ _ _ _ _ _ us hl => (match us, hl with | [_], _ => rfl), ?_⟩
  refine meth_raw (N := n_stand) F sc_coins (fun vs H Q E h => by obtain ⟨_, _, _, _, _, _, _, rfl, _⟩ := h; rfl) (fun cdv A outer s H vs Q E hr h => ?_)
  refine ⟨_, pss_one (ps_ret (pe_fn F_coins_by hr (pa_cons (pe_fld (pv 0) rfl) (pa_cons (pe_fld (pv 0) rfl) (pa_cons (pe_fld (pv 0) rfl) pa_nil))))), ?_⟩
  obtain ⟨a, p, h, n, s0, s1, r, rfl, W, G, g0, er, k⟩ := h
  obtain ⟨dx, hv, sv, rv, xs, h1, h2, h3, h4, h5, h6⟩ := W.ex
  refine ⟨_, rfl, a, C, dx, _, hv, rfl, h1, T.cl, T.nH, wf_h .., _, rfl, a, C, dx, _, _, rfl, h1, T.cl, T.nB, wf_b .., _, rfl, a, C, dx, _, rv, rfl, h1, T.cl, T.nK, wf_k .., ?_⟩
  refine ⟨rfl, [houseD h, nD s0.1, rowD r], nD (coins h s0.1 r), .cons (.inl h4) (.cons (.inl (.int _)) (.cons (.inl h6) .nil)), coins_ok G g0 er, fun v H1 s1 r1 => ?_⟩
  rw [r1.int]
  exact k H1 s1
/-! ### turn -/
abbrev n_turn : List Str := ["self", "row"]
theorem sc_turn : FnScope n_turn ["self", "row"] (defScope (mtd 1)) := ⟨rfl, rfl, rfl, by decide +kernel, rfl, by decide +kernel, by decide +kernel⟩
def sp_turn (K : PySem.W.Frag) (C : Addr) : Sp := fun vs H Q _ => ∃ (a p : Addr) (h : House) (b n : Nat) (s s' : Stand) (r q : List Deed) (qv : V), vs = [.ref a, qv] ∧ WkAt K C H a p h b s r n ∧ Im K H qv (rowD q) ∧ Good h ∧ GoodS h s ∧ (∀ d ∈ q, GoodD h d) ∧ run h s q = some s' ∧ n ≤ 1000 ∧ r.length + q.length ≤ 1000 ∧
  ∀ H', Fr2 a p H H' → WkAt K C H' a p h b s' (r ++ q) (n + 1) → Q .non H'
theorem ok_turn (T : WkT K mg C) (D : DnM K C "turn" "Walker.turn" (mtd 1)) (F_bar_at : FnAt P w K mg base 4 "bar_at" ["house", "stand", "row"] (spD K 3 f_bar_at)) (F_behind_by : FnAt P w K mg base 4 "behind_by" ["house", "stand", "row"] (spD K 3 f_behind_by)) : MtAt P w K mg base C 5 "turn" ["self", "row"] (sp_turn K C) := by
  obtain ⟨f, fd, F, hm⟩ := D.ex
  refine ⟨f, fd, hm, F.bindsN fun _ _ _ _ _ _ us hl => (match us, hl with | [_, _], _ => rfl), ?_⟩
  refine meth_raw (N := n_turn) F sc_turn (fun vs H Q E h => by obtain ⟨_, _, _, _, _, _, _, _, _, _, rfl, _⟩ := h; rfl) (fun cdv A outer s H vs Q E hr h => ?_)
  refine ⟨_, pss_cons (ps_if (pt_cmp (pc_notN (pe_fn F_bar_at hr (pa_cons (pe_fld (pv 0) rfl) (pa_cons (pe_fld (pv 0) rfl) (pa_cons (pv 1) pa_nil))))) rfl) pss_never pss_nil)
    (pss_cons (ps_expr (pe_bm PySem.F.plainAttrs_list PySem.F.slot_list_append PySem.F.type_list_append mt_append (pe_fld (pv 0) rfl) (pa_cons (pe_tup (pa_cons (pe_fld (pv 0) rfl) (pa_cons (pe_fld (pv 0) rfl) pa_nil))) pa_nil)))
    (pss_one (ps_asg (pe_tup (pa_cons (pe_fn F_behind_by hr (pa_cons (pe_fld (pv 0) rfl) (pa_cons (pe_fld (pv 0) rfl) (pa_cons (pv 1) pa_nil)))) (pa_cons (pe_op op_catA (pe_fld (pv 0) rfl) (pv 1)) pa_nil)))
      (pg_tup rfl (pgs_cons (pg_fld (pv 0)) (pgs_cons (pg_fld (pv 0)) pgs_nil)))))), ?_⟩
  obtain ⟨a, p, h, b, n, s0, s', r, q, qv, rfl, W, iq, G, g0, hd, er, hn, hl, k⟩ := h
  obtain ⟨dx, hv, sv, rv, xs, h1, h2, h3, h4, h5, h6⟩ := W.ex
  have nap := W.ne
  refine ⟨_, rfl, a, C, dx, _, hv, rfl, h1, T.cl, T.nH, wf_h .., _, rfl, a, C, dx, _, sv, rfl, h1, T.cl, T.nS, wf_s .., _, rfl, ?_⟩
  refine ⟨rfl, [houseD h, standD s0, rowD q], .none, .cons (.inl h4) (.cons (.inl h5) (.cons (.inl iq) .nil)), bar_at_ok G g0 hd er, fun v H1 s1 r1 => ?_⟩
  obtain rfl := r1.non
  refine ⟨false, rfl, ?_⟩
  refine iteF ?_
  have W1 := W.same s1
  have a1 := s1 _ _ h1
  have p1 := s1 _ _ h2
  refine ⟨_, rfl, a, C, dx, _, .ref p, rfl, a1, T.cl, T.nP, wf_p .., .inl ⟨rfl, _, SqL.of p1⟩, _, rfl, a, C, dx, _, sv, rfl, a1, T.cl, T.nS, wf_s .., _, rfl, a, C, dx, _, rv, rfl, a1, T.cl, T.nK, wf_k .., by show 2 ≤ sizeLine; decide, fun U hU => ?_⟩
  have sU : Same H1 (upd H1 U (.tup [sv, rv])) := Same.new hU
  have a2 := sU _ _ a1
  have p2 := sU _ _ p1
  have t2 := s1.trans sU
  generalize upd H1 U (.tup [sv, rv]) = H2 at sU a2 p2 t2 ⊢
  refine ⟨p, xs, .ref U, rfl, rfl, p2, Nat.lt_of_le_of_lt (Nat.le_trans h3 hn) (by decide), ?_⟩
  have tk3 : TK H2 (upd H2 p (.lst (xs ++ [.ref U]))) := TK.updL p2
  have a3 : (upd H2 p (.lst (xs ++ [.ref U]))) a = some (.ins C dx (wf hv (.int (b : Int)) sv rv (.ref p))) := by
    rw [upd_ne nap]
    exact a2
  have p3 : (upd H2 p (.lst (xs ++ [.ref U]))) p = some (.lst (xs ++ [.ref U])) := upd_same
  have f3 : Fr2 a p H (upd H2 p (.lst (xs ++ [.ref U]))) := (Fr2.of t2).trans Fr2.upd2
  have TT : TK H (upd H2 p (.lst (xs ++ [.ref U]))) := (same_tk t2).trans tk3
  dsimp only
  generalize upd H2 p (.lst (xs ++ [.ref U])) = H3 at tk3 a3 p3 f3 TT ⊢
  refine ⟨_, rfl, a, C, dx, _, hv, rfl, a3, T.cl, T.nH, wf_h .., _, rfl, a, C, dx, _, sv, rfl, a3, T.cl, T.nS, wf_s .., _, rfl, ?_⟩
  refine ⟨rfl, [houseD h, standD s0, rowD q], standD s', .cons (.inl (h4.mono TT)) (.cons (.inl (h5.mono TT)) (.cons (.inl (iq.mono TT)) .nil)), behind_ok G g0 hd er, fun v H4 s4 r4 => ?_⟩
  have iv := r4.im rfl
  have T4 := TT.trans (same_tk s4)
  have a4 := s4 _ _ a3
  have p4 := s4 _ _ p3
  have f4 := f3.trans (Fr2.of s4)
  refine ⟨_, rfl, a, C, dx, _, rv, rfl, a4, T.cl, T.nK, wf_k .., _, rfl, ?_⟩
  obtain ⟨c1, ys1, e1, y1, z1⟩ := (h6.mono T4).inT
  obtain ⟨c2, ys2, e2, y2, z2⟩ := (iq.mono T4).inT
  refine catA_use e1 e2 y1 y2 (by rw [z1.length, z2.length, List.length_map, List.length_map]; omega) fun c H5 s5 hc => ?_
  refine ⟨by show 2 ≤ sizeLine; decide, fun U2 hU2 => ?_⟩
  have s6 : Same H5 (upd H5 U2 (.tup [v, .ref c])) := Same.new hU2
  have hU6 : upd H5 U2 (.tup [v, .ref c]) U2 = some (.tup [v, .ref c]) := upd_same
  generalize upd H5 U2 (.tup [v, .ref c]) = H6 at s6 hU6 ⊢
  have t6 := s5.trans s6
  have a6 := t6 _ _ a4
  have p6 := t6 _ _ p4
  refine ⟨U2, _, rfl, SqT.of hU6, rfl, _, _, rfl, _, rfl, a, C, dx, _, rfl, a6, T.cl, T.nS, by show 5 < 1000; decide, ?_⟩
  refine ⟨_, _, rfl, _, rfl, a, C, dx, _, rfl, upd_same, T.cl, T.nK, by show 5 < 1000; decide, rfl, ?_⟩
  rw [upd_twice, wf_here, wf_kept]
  have tk7 : TK H6 (upd H6 a (.ins C dx (wf hv (.int (b : Int)) v (.ref c) (.ref p)))) := TK.updO a6 fun _ z => nomatch z
  have T7 : TK H (upd H6 a (.ins C dx (wf hv (.int (b : Int)) v (.ref c) (.ref p)))) := (T4.trans (same_tk t6)).trans tk7
  refine k _ ((f4.trans (Fr2.of t6)).trans Fr2.upd1) ⟨dx, hv, v, .ref c, xs ++ [.ref U], upd_same, ?_, by simp; omega, h4.mono T7, (iv.mono (same_tk t6)).mono tk7, ?_⟩
  · rw [upd_ne nap.symm]
    exact p6
  · refine .tup (tk7 _ _ (s6 _ _ hc)) ?_
    rw [List.map_append]
    exact ((z1.append z2).mono (same_tk t6)).mono tk7
/-! ### play -/
theorem sc_play : FnScope n_turn ["self", "row"] (defScope (mtd 6)) := ⟨rfl, rfl, rfl, by decide +kernel, rfl, by decide +kernel, by decide +kernel⟩
theorem ok_play (T : WkT K mg C) (D : DnM K C "play" "Walker.play" (mtd 6)) (F_need_row : FnAt P w K mg base 4 "need_row" ["house", "thing"] (spD K 2 f_need_row)) (M_turn : MtAt P w K mg base C 5 "turn" ["self", "row"] (sp_turn K C)) : MtAt P w K mg base C 6 "play" ["self", "row"] (sp_turn K C) := by
  obtain ⟨f, fd, F, hm⟩ := D.ex
  obtain ⟨g, gd, gm, gb, Ft⟩ := M_turn.ex
  refine ⟨f, fd, hm, F.bindsN fun _ _ _ _ _ _ us hl => (match us, hl with | [_, _], _ => rfl), ?_⟩
  refine meth_raw (N := n_turn) F sc_play (fun vs H Q E h => by obtain ⟨_, _, _, _, _, _, _, _, _, _, rfl, _⟩ := h; rfl) (fun cdv A outer s H vs Q E hr h => ?_)
  refine ⟨_, pss_cons (ps_expr (pe_fn (F_need_row.mono (by decide)) hr (pa_cons (pe_fld (pv 0) rfl) (pa_cons (pv 1) pa_nil))))
    (pss_one (ps_expr (pe_meth (pv 0) T.cl gm Ft hr gb .nil pass0 (pa_cons (pv 1) pa_nil)))), ?_⟩
  obtain ⟨a, p, h, b, n, s0, s', r, q, qv, rfl, W, iq, G, g0, hd, er, hn, hl, k⟩ := h
  obtain ⟨dx, hv, sv, rv, xs, h1, h2, h3, h4, h5, h6⟩ := W.ex
  refine ⟨_, rfl, a, C, dx, _, hv, rfl, h1, T.cl, T.nH, wf_h .., _, rfl, ?_⟩
  refine ⟨rfl, [houseD h, rowD q], .none, .cons (.inl h4) (.cons (.inl iq) .nil), need_row_ok G hd (by omega), fun v H1 s1 r1 => ?_⟩
  refine ⟨_, rfl, a, dx, _, rfl, s1 _ _ h1, rfl, _, rfl, ?_⟩
  exact ⟨a, p, h, b, n, s0, s', r, q, qv, rfl, W.same s1, iq.mono (same_tk s1), G, g0, hd, er, hn, hl, fun H' f' W' => k H' ((Fr2.of s1).trans f') W'⟩
end
end Wk

set_option maxHeartbeats 4000000
/-! Walker.may, goal_right -/
namespace Wk
open PySem L2 PyProof.Rows
section
variable {P : Program} {w : World} {K : PySem.W.Frag} {mg : Str → Option Value} {base : Heap} {C : Addr}
abbrev n_may : List Str := ["self", "deed"]
theorem sc_may : FnScope n_may ["self"] (defScope (mtd 11)) := ⟨rfl, rfl, rfl, by decide +kernel, rfl, by decide +kernel, by decide +kernel⟩
def sp_wmay (K : PySem.W.Frag) (C : Addr) : Sp := fun vs H Q _ => ∃ (a p : Addr) (h : House) (b n : Nat) (s : Stand) (r : List Deed), vs = [.ref a] ∧ WkAt K C H a p h b s r n ∧ Good h ∧ GoodS h s ∧ ∀ v H', Same H H' → Im K H' v (.tuple ((mays h s).map deedD)) → Q v H'
theorem take_filter {α : Type} (q : α → Bool) {l : List α} {i : Nat} {x : α} (hx : l[i]? = some x) : (l.take (i + 1)).filter q = if q x then (l.take i).filter q ++ [x] else (l.take i).filter q := by
  rw [List.take_succ, hx, List.filter_append]
  cases h : q x <;> simp [h]
theorem ok_wmay (M : Mo mg) (T : WkT K mg C) (D : DnM K C "may" "Walker.may" (mtd 11)) (F_all_deeds : FnAt P w K mg base 1 "all_deeds" ["house"] (spD K 1 f_all_deeds)) (F_bar_of : FnAt P w K mg base 3 "bar_of" ["house", "stand", "deed"] (spD K 3 f_bar_of)) : MtAt P w K mg base C 4 "may" ["self"] (sp_wmay K C) := by
  obtain ⟨f, fd, F, hm⟩ := D.ex
  refine ⟨f, fd, hm, F.bindsN fun _ _ _ _ _ _ us hl => (match us, hl with | [_], _ => rfl), ?_⟩
  refine meth_raw (N := n_may) F sc_may (fun vs H Q E h => by obtain ⟨_, _, _, _, _, _, _, rfl, _⟩ := h; rfl) (fun cdv A outer s H vs Q E hr h => ?_)
  have nd := sc_may.nd
  refine ⟨_, pss_one (ps_ret (pe_callTy call_tuple_of rfl M.b_tuple PyProof.Rows.boot_tuple (pa_cons
    (pe_lc (own := [("deed", 1)]) (g := gName 1) (tt := tB (tIsN (tCall (spD K 3 f_bar_of) [] E0 (tCons (tFld K (tVar 0) "house") (tCons (tFld K (tVar 0) "here") (tCons (tVar 1) tNil)))))) (te := tVar 1) rfl nd
      (pi_list (pe_fn (F_all_deeds.mono (by decide)) hr (pa_cons (pe_fld (pv 0) rfl) pa_nil)))
      (blkOk_by (own := [("deed", 1)]) (N := n_may) (sc := defScope (mtd 11)) (by decide +kernel)) (fun _ _ _ _ _ => pg_name (i := 1) nd rfl (by first | exact Or.inl rfl | exact Or.inr rfl))
      (fun _ _ _ _ _ => pts_one (pt_cmp (pc_isN (pe_fn F_bar_of hr (pa_cons (pe_fld (pv 0) rfl) (pa_cons (pe_fld (pv 0) rfl) (pa_cons (pv 1) pa_nil))))) rfl)) (fun _ _ _ _ _ => pv 1)) pa_nil))), ?_⟩
  obtain ⟨a, p, h, b, n, s0, r, rfl, W, G, g0, k⟩ := h
  obtain ⟨dx, hv, sv, rv, xs, h1, h2, h3, h4, h5, h6⟩ := W.ex
  refine ⟨_, rfl, a, C, dx, _, hv, rfl, h1, T.cl, T.nH, wf_h .., rfl, [houseD h], .list ((deeds h).map deedD), .cons (.inl h4) .nil, all_deeds_ok G, fun v H1 s1 r1 => ?_⟩
  obtain ⟨L, ys, rfl, hL, iy⟩ := r1.lst
  have ly : ys.length = (deeds h).length := by rw [iy.length, List.length_map]
  have dl := deeds_len G
  refine ⟨L, rfl, ⟨ys, SqL.of hL⟩, fun D1 hD => ?_⟩
  refine lc_it walk_list (fun i H2 => ∃ zs, Same H1 H2 ∧ H2 D1 = some (.lst zs) ∧ ImAll K H2 zs ((((deeds h).take i).filter (can h s0)).map deedD)) ⟨[], Same.new hD, upd_same, .nil⟩ (fun i H2 _ ⟨zs, q, _⟩ => SqL.of (q _ _ hL)) ?_ ?_
  · rintro i x H20 H2 hi ⟨zs, q1, q2, q3⟩ ⟨rfl, hx⟩
    refine ⟨rfl, ?_⟩
    have t2 := s1.trans q1
    obtain ⟨dd, hdd, imx⟩ := iy.get' hx
    rw [List.getElem?_map] at hdd
    obtain ⟨d, hd, rfl⟩ := Option.map_eq_some_iff.mp hdd
    obtain ⟨bd, hbd, hbn, hbl⟩ := bar_ok G g0 d
    have a2 := t2 _ _ h1
    have lz : zs.length ≤ 12 := by
      have e1 := q3.length
      rw [List.length_map] at e1
      have e2 := List.length_filter_le (can h s0) ((deeds h).take i)
      have e3 := List.length_take_le i (deeds h)
      have e4 : ((deeds h).take i).length ≤ (deeds h).length := by rw [List.length_take]; omega
      omega
    refine ⟨_, rfl, a, C, dx, _, hv, rfl, a2, T.cl, T.nH, wf_h .., _, rfl, a, C, dx, _, sv, rfl, a2, T.cl, T.nS, wf_s .., _, rfl, rfl, [houseD h, standD s0, deedD d], bd, .cons (.inl (h4.mono (same_tk t2))) (.cons (.inl (h5.mono (same_tk t2))) (.cons (.inl (imx.mono (same_tk q1))) .nil)), hbd, fun v H3 s3 r3 => ⟨_, rfl, ?_⟩⟩
    rw [r3.isN, hbn]
    have tf := take_filter (can h s0) hd
    cases hc : can h s0 d with
    | true =>
      rw [hc, if_pos rfl] at tf
      refine iteT ?_
      refine ⟨x, rfl, zs, s3 _ _ q2, Nat.lt_of_le_of_lt lz (by decide), zs ++ [x], Same.mut (q1.trans s3) hD, upd_same, ?_⟩
      rw [tf, List.map_append]
      exact ((q3.mono (same_tk s3)).snoc (imx.mono (same_tk (q1.trans s3)))).mono (TK.updL (s3 _ _ q2))
    | false =>
      rw [hc, if_neg (by decide)] at tf
      refine iteF ?_
      refine ⟨zs, q1.trans s3, s3 _ _ q2, ?_⟩
      rw [tf]
      exact q3.mono (same_tk s3)
  · rintro H2 ⟨zs, q1, q2, q3⟩
    refine ⟨D1, _, rfl, .inl ⟨SqL.of q2, fun U hU => ?_⟩⟩
    have sU : Same H2 (upd H2 U (.tup zs)) := Same.new hU
    refine k (.ref U) _ ((s1.trans q1).trans sU) (.tup upd_same ?_)
    rw [ly, List.take_of_length_le (Nat.le_refl _)] at q3
    exact q3.mono (same_tk sU)
end
end Wk

set_option maxHeartbeats 4000000
/-! goal_right -/
namespace Wk
open PySem L2 PyProof.Rows
section
variable {P : Program} {w : World} {K : PySem.W.Frag} {mg : Str → Option Value} {base : Heap}
abbrev n_law_goal_right : List Str := ["_law_house_here", "_law_wide", "_law_stand_here", "_law_goal", "_law_one", "_law_other", "_law_cheap", "_law_dear"]
theorem sc_law_goal_right : FnScope n_law_goal_right ["_law_house_here", "_law_wide", "_law_stand_here", "_law_goal"] (defScope (top 118)) := ⟨rfl, rfl, rfl, by decide +kernel, rfl, by decide +kernel, by decide +kernel⟩
def sp_goal_right (K : PySem.W.Frag) : Sp := fun vs H Q _ => ∃ (hv wv sv gv : V) (h u : House) (s : Stand) (g : Nat × Box), vs = [hv, wv, sv, gv] ∧ Im K H hv (houseD h) ∧ Im K H wv (houseD u) ∧ Im K H sv (standD s) ∧ Im K H gv (goalD g) ∧ Good h ∧ WidR h u ∧ GoodS h s ∧ g.1 < h.halls ∧ GoodB h.teeth g.2 ∧ h.teeth ≤ 2 ∧
  ∀ H', Same H H' → Q (.bl true) H'
theorem goal_len {d1 d2 : PyData} {r1 r2 : List Deed} (e1 : d1 = .tuple [.str "row", rowD r1]) (e2 : d2 = .tuple [.str "row", rowD r2]) (hl : r2.length ≤ r1.length) :
    orB (cmp2 neB (op2 ixD (vE 5) (cE (.int 0))) (cE (.str "row"))) (cmp2 gtB (callE lenF (consE (op2 ixD (vE 5) (cE (.int 1))) nilE)) (callE lenF (consE (op2 ixD (vE 4) (cE (.int 1))) nilE))) [none, none, none, none, some d1, some d2, none, none] = some false := by
  subst e1 e2
  simp [rowD]
  omega
theorem ok_law_goal_right (M : Mo mg) (D : Dn K mg "_law_goal_right" (top 118)) (F_way : FnAt P w K mg base 12 "way" ["house", "stand", "goal"] (sp_way K)) (F_least : FnAt P w K mg base 12 "least_coins" ["house", "stand", "goal"] (sp_least_coins K)) : FnAt P w K mg base 13 "_law_goal_right" ["_law_house_here", "_law_wide", "_law_stand_here", "_law_goal"] (sp_goal_right K) := by
  obtain ⟨f, fd, F, hm⟩ := D.ex
  refine fn_raw (N := n_law_goal_right) F hm (F.bindsN fun _ _ _ _ _ _ us hl => match us, hl with | [_, _, _, _], _ => rfl) sc_law_goal_right (fun vs H Q E h => by obtain ⟨_, _, _, _, _, _, _, _, rfl, _⟩ := h; rfl) (fun cdv A outer s H vs Q E hr h => ?_)
  have nd := sc_law_goal_right.nd
  refine ⟨_, pss_cons (ps_par (i := 4) (j := 5) rfl nd rfl rfl (by decide) rfl rfl (pa_cons (pe_fn F_way hr (pa_cons (pv 0) (pa_cons (pv 2) (pa_cons (pv 3) pa_nil)))) (pa_cons (pe_fn F_way hr (pa_cons (pv 1) (pa_cons (pv 2) (pa_cons (pv 3) pa_nil)))) pa_nil)) rfl)
    (pss_cons (ps_if (td_eq hr.units (pd_ix (pd_var 4 (pv 4)) pd_int) pd_str) (pss_one (ps_ret (pe_cmp (pc_isN (pe_fn F_least hr (pa_cons (pv 0) (pa_cons (pv 2) (pa_cons (pv 3) pa_nil))))) rfl))) pss_nil)
    (pss_cons (ps_if (PW.pt (wd_or (td_ne hr.units (pd_ix (pd_var 5 (pv 5)) pd_int) pd_str) (wd_or1 (td_gt (pd_len M.b_len (pd_cons (pd_ix (pd_var 5 (pv 5)) pd_int) pd_nil)) (pd_len M.b_len (pd_cons (pd_ix (pd_var 4 (pv 4)) pd_int) pd_nil)))))) (pss_one (ps_ret pe_bl)) pss_nil)
    (pss_cons (ps_par (i := 6) (j := 7) rfl nd rfl rfl (by decide) rfl rfl (pa_cons (pe_fn F_least hr (pa_cons (pv 1) (pa_cons (pv 2) (pa_cons (pv 3) pa_nil)))) (pa_cons (pe_fn F_least hr (pa_cons (pv 0) (pa_cons (pv 2) (pa_cons (pv 3) pa_nil)))) pa_nil)) rfl)
    (pss_one (ps_ret (pd_and (pd_notN (pd_var 6 (pv 6))) (pd_and (pd_notN (pd_var 7 (pv 7))) (pd_one (pd_le (pd_var 6 (pv 6)) (pd_var 7 (pv 7)))))))))))
    , ?_⟩
  obtain ⟨hv, wv, sv, gv, h, u, s0, g, rfl, ih, iw, is, ig, G, W, g0, hg1, hgb, t2, k⟩ := h
  have wg1 : g.1 < u.halls := by rw [W.ha]; exact hg1
  have wgb : GoodB u.teeth g.2 := by rw [W.te]; exact hgb
  have wt2 : u.teeth ≤ 2 := by rw [W.te]; exact t2
  have wg0 := goodS_wid W g0
  refine ⟨_, rfl, _, rfl, _, rfl, hv, sv, gv, h, s0, g, rfl, ih, is, ig, G, g0, hg1, hgb, t2, fun v1 d1 H1 s1 i1 w1 => ?_⟩
  refine ⟨_, rfl, _, rfl, _, rfl, wv, sv, gv, u, s0, g, rfl, iw.mono (same_tk s1), is.mono (same_tk s1), ig.mono (same_tk s1), W.gw, wg0, wg1, wgb, wt2, fun v2 d2 H2 s2 i2 w2 => ⟨v1, v2, rfl, ?_⟩⟩
  have t12 := s1.trans s2
  rcases w1 with ⟨r1, e1, go1, rl1, min1⟩ | ⟨ds, e1, no1⟩
  · -- a row
    refine ⟨[none, none, none, none, some d1, none, none, none], false, repAll (.cons rNone (.cons rNone (.cons rNone (.cons rNone (.cons (rSome (.inl (i1.mono (same_tk s2)))) (.cons rNone (.cons rNone (.cons rNone .nil)))))))), by rw [e1]; rfl, fun H3 s3 => ?_⟩
    refine iteF ?_
    rcases w2 with ⟨r2, e2, go2, rl2, min2⟩ | ⟨ds, e2, no2⟩
    · refine ⟨_, false, repAll (.cons rNone (.cons rNone (.cons rNone (.cons rNone (.cons (rSome (.inl (i1.mono (same_tk (s2.trans s3))))) (.cons (rSome (.inl (i2.mono (same_tk s3)))) (.cons rNone (.cons rNone .nil)))))))), goal_len e1 e2 (min2 _ (goes_wid G W g0 go1)), fun H4 s4 => ?_⟩
      refine iteF ?_
      have t4 := (t12.trans s3).trans s4
      refine ⟨_, rfl, _, rfl, _, rfl, wv, sv, gv, u, s0, g, rfl, iw.mono (same_tk t4), is.mono (same_tk t4), ig.mono (same_tk t4), W.gw, wg0, wg1, wgb, fun c1 H5 s5 l1 => ?_⟩
      have t5 := t4.trans s5
      refine ⟨_, rfl, _, rfl, _, rfl, hv, sv, gv, h, s0, g, rfl, ih.mono (same_tk t5), is.mono (same_tk t5), ig.mono (same_tk t5), G, g0, hg1, hgb, fun c2 H6 s6 l2 => ⟨c1, c2, rfl, ?_⟩⟩
      rcases l1 with ⟨_, n1⟩ | ⟨m1, rfl, _, le1⟩
      · exact absurd (goes_wid G W g0 go1) (n1 r1)
      rcases l2 with ⟨_, n2⟩ | ⟨m2, rfl, ⟨r3, go3, c3⟩, _⟩
      · exact absurd go1 (n2 r1)
      have hle : m1 ≤ m2 := by
        obtain ⟨gd3, t3, rn3, _⟩ := id go3
        have q1 := le1 r3 (goes_wid G W g0 go3)
        have q2 := (run_wid G W g0 gd3 rn3).2
        omega
      refine ⟨[none, none, none, none, none, none, some (nD m1), some (nD m2)], .bool true, repAll (.cons rNone (.cons rNone (.cons rNone (.cons rNone (.cons rNone (.cons rNone (.cons (rSome (.inl (.int _))) (.cons (rSome (.inl (.int _))) .nil)))))))), ?_, fun v H7 s7 r7 => ?_⟩
      · rw [andE_bool (k := true) rfl, if_pos rfl, andE_bool (k := true) rfl, if_pos rfl]
        simp
        omega
      · rw [r7.bl]
        exact k H7 ((t5.trans s6).trans s7)
    · exact absurd (goes_wid G W g0 go1) (no2 r1)
  · refine ⟨[none, none, none, none, some d1, none, none, none], true, repAll (.cons rNone (.cons rNone (.cons rNone (.cons rNone (.cons (rSome (.inl (i1.mono (same_tk s2)))) (.cons rNone (.cons rNone (.cons rNone .nil)))))))), by rw [e1]; rfl, fun H3 s3 => ?_⟩
    refine iteT ?_
    have t3 := t12.trans s3
    refine ⟨_, rfl, _, rfl, _, rfl, hv, sv, gv, h, s0, g, rfl, ih.mono (same_tk t3), is.mono (same_tk t3), ig.mono (same_tk t3), G, g0, hg1, hgb, fun c1 H4 s4 l1 => ?_⟩
    rcases l1 with ⟨rfl, _⟩ | ⟨m1, rfl, ⟨r, go, _⟩, _⟩
    · exact k H4 (t3.trans s4)
    · exact absurd go (no1 r)
end
end Wk

set_option maxHeartbeats 4000000
/-! said; frames of the law -/
namespace Wk
open PySem L2 PyProof.Rows LamX
/-! ### said -/
abbrev n_law_said : List Str := ["_law_call", "_law_e"]
theorem sc_law_said : FnScope n_law_said ["_law_call"] (defScope (top 105)) := ⟨rfl, rfl, rfl, by decide +kernel, rfl, by decide +kernel, by decide +kernel⟩
/-- ("told", what is told) -/
def TSaid : (XK → Hp → VK → Prop) → Hp → VK → Prop := fun tl H Q => tl E0 H fun v H1 => 2 ≤ sizeLine ∧ ∀ U, H1 U = none → Q (.ref U) (upd H1 U (.tup [.str "told", v]))
theorem said_gives {X : Cx} {q : Str} {g CS : Addr} {cdg : Value} (hme : X.mg "WearError" = some (.ref CS)) : GivesTo X n_law_said "_law_said" (defScope (top 105)) g cdg (defBody (top 105)) "_law_call" q TSaid := by
  intro f c' s H Q tl act hc h
  have nd := sc_law_said.nd
  refine ⟨_, pss_one (ps_try_as (X := (cxOf C8.CX0 X.prog X.w X.K X.mg X.base n_law_said "_law_said" (defScope (top 105)) g cdg X.A X.stack s H C8.E0).nox) (c := .ref CS) (i := 1)
      (tb := fun W D σ H => σ[0]? = some (some (.ref f)) ∧ H c' = some (CodeO c' q) ∧ tl E0 H (fun v H1 => 2 ≤ sizeLine ∧ ∀ U, H1 U = none → D.rt (.ref U) (upd H1 U (.tup [.str "told", v]))))
      rfl rfl nd rfl rfl ⟨rfl, by decide, .inl hme⟩ takes0 (fun W pn xe tk _ => ?_) (fun a oe cls d pn _ _ => pss_never)), ?_⟩
  · refine pss_w (pss_one (ps_ret (pe_tup (pa_cons pe_str (pa_cons (act W pn xe E0 _ _ tk (fun _ _ _ _ z => z.elim)) pa_nil))))) fun D σ H' ⟨h1, h2, h3⟩ => ?_
    exact ⟨h1, h2, h3⟩
  · exact ⟨rfl, hc, h⟩
/-! ### frames -/
/-- all but the pen and the tables stays -/
def FrN (p : Addr) (H H' : Hp) : Prop := ∀ b o, b ≠ p → H b = some o → (∀ ps, o ≠ .tbl ps) → H' b = some o
section
variable {p : Addr} {H H' H'' : Hp} {n : Nat}
theorem FrN.of (f : Fr p H H') : FrN p H H' := fun b o nb e _ => f b o nb e
theorem FrN.ofE (f : ExtN H H') : FrN p H H' := fun b o _ e n => f b o e n
theorem FrN.trans (a : FrN p H H') (b : FrN p H' H'') : FrN p H H'' := fun c o n h q => b c o n (a c o n h q) q
theorem FrN.tk (f : FrN p H H') (h : PenAt H p n) : TK H H' := fun a xs e => f a _ (h.ne e) e fun _ z => nomatch z
theorem FrN.ext {H0 : Hp} (s : Same H0 H) (hp : H0 p = none) (f : FrN p H H') : ExtN H0 H' := fun b o e n => f b o (ne_of_none e hp) (s _ _ e) n
theorem extN_same (s : Same H H') : ExtN H H' := fun b o e _ => s b o e
theorem extN_tk (f : ExtN H H') : TK H H' := fun a xs e => f a _ e fun _ z => nomatch z
theorem extN_fr2 {a b : Addr} (f : ExtN H H') (g : Fr2 a b H' H'') (ha : H a = none) (hb : H b = none) : ExtN H H'' := fun c o e n => g c o (ne_of_none e ha) (ne_of_none e hb) (f c o e n)
theorem PenAt.ext (h : PenAt H p n) (f : ExtN H H') : PenAt H' p n := by
  obtain ⟨a, b, c, h1, h2⟩ := h
  exact ⟨a, b, c, f _ _ h1 (fun _ z => nomatch z), h2⟩
theorem PenAt.fr2 {a b : Addr} (h : PenAt H p n) (f : Fr2 a b H H') (na : p ≠ a) (nb : p ≠ b) : PenAt H' p n := by
  obtain ⟨x, y, c, h1, h2⟩ := h
  exact ⟨x, y, c, f _ _ na nb h1, h2⟩
theorem code_ne {c : Addr} {q : Str} {xs : List V} : CodeO c q ≠ .lst xs := fun z => by
  unfold CodeO at z
  cases z
theorem code_ne2 {c C dx : Addr} {q : Str} {fs : List (Str × V)} : CodeO c q ≠ .ins C dx fs := fun z => by
  unfold CodeO at z
  cases z
theorem tabS_keep {P : Addr} {q : Str} (t : TabS H P q) (e1 : ∀ ps, H P = some (.tbl ps) → H' P = some (.tbl ps)) (e2 : ∀ c, H c = some (CodeO c q) → H' c = some (CodeO c q)) : TabS H' P q := by
  obtain ⟨ps, h1, h2, h3⟩ := t
  refine ⟨ps, e1 ps h1, h2, fun pos cv hc => ?_⟩
  obtain ⟨c, e, h⟩ := h3 pos cv hc
  exact ⟨c, e, e2 c h⟩
theorem tabs_fr {T : List (Addr × Str)} (t : Tabs T H) (f : Fr p H H') (hp : PenAt H p n) : Tabs T H' := fun x hx => by
  obtain ⟨a, b, c, h1, _⟩ := hp
  exact tabS_keep (t x hx) (fun ps e => f _ _ (ne_of e h1 fun z => nomatch z) e) fun d e => f _ _ (ne_of e h1 code_ne) e
theorem tabs_same {T : List (Addr × Str)} (t : Tabs T H) (f : Same H H') : Tabs T H' := t.ext f
theorem tabs_fr2 {T : List (Addr × Str)} {a b C dx : Addr} {fs : List (Str × V)} {xs : List V} (t : Tabs T H) (f : Fr2 a b H H') (ha : H a = some (.ins C dx fs)) (hb : H b = some (.lst xs)) : Tabs T H' := fun x hx =>
  tabS_keep (t x hx) (fun ps e => f _ _ (ne_of e ha fun z => nomatch z) (ne_of e hb fun z => nomatch z) e) fun d e => f _ _ (ne_of e ha code_ne2) (ne_of e hb code_ne) e
theorem sql_ext {K : PySem.W.Frag} {a : Addr} {xs : List V} (h : SqL K H a xs) (f : ExtN H H') : SqL K H' a xs := by
  rcases h with h | h
  · rcases h with h | ⟨o, h⟩
    · exact .inl (.inl (f _ _ h fun _ z => nomatch z))
    · exact .inl (.inr ⟨o, f _ _ h fun _ z => nomatch z⟩)
  · exact .inr h
theorem made_same {x dx C : Addr} (hx : H x = none) (hd : H dx = none) (ne : dx ≠ x) (f : Fr x (upd (upd H dx (.own x)) x (.ins C dx [])) H') : Same H H' := fun b o e => by
  refine f b o (ne_of_none e hx) ?_
  rw [upd_ne (ne_of_none e hx), upd_ne (ne_of_none e hd)]
  exact e
theorem made_free {x dx C p : Addr} (hx : H x = none) (hd : H dx = none) (hp : (upd (upd H dx (.own x)) x (.ins C dx [])) p = none) : H p = none := by
  refine Same.free (H' := upd (upd H dx (.own x)) x (.ins C dx [])) (fun b o e => ?_) hp
  rw [upd_ne (ne_of_none e hx), upd_ne (ne_of_none e hd)]
  exact e
end
section
variable {K : PySem.W.Frag} {C : Addr} {H H' : Hp} {a p : Addr} {h : House} {b n : Nat} {s : Stand} {r : List Deed}
theorem WkAt.ext (W : WkAt K C H a p h b s r n) (f : ExtN H H') : WkAt K C H' a p h b s r n := by
  obtain ⟨dx, hv, sv, rv, xs, h1, h2, h3, h4, h5, h6⟩ := W.ex
  exact ⟨dx, hv, sv, rv, xs, f _ _ h1 (fun _ z => nomatch z), f _ _ h2 (fun _ z => nomatch z), h3, h4.mono (extN_tk f), h5.mono (extN_tk f), h6.mono (extN_tk f)⟩
/-- a walker apart from one that moves -/
theorem WkAt.apart {a' p' : Addr} {h' : House} {b' n' : Nat} {s' : Stand} {r' : List Deed} (W : WkAt K C H a p h b s r n) (W' : WkAt K C H a' p' h' b' s' r' n') (f : Fr2 a' p' H H') (n1 : a ≠ a') (n2 : p ≠ p') : WkAt K C H' a p h b s r n := by
  obtain ⟨dx, hv, sv, rv, xs, h1, h2, _⟩ := W.ex
  obtain ⟨dx', hv', sv', rv', xs', h1', h2', _⟩ := W'.ex
  refine W.keep (fun c o hc e => ?_) (W'.tk f)
  rcases hc with rfl | rfl
  · exact f _ _ n1 (ne_of h1 h2' fun z => nomatch z) e
  · exact f _ _ (ne_of h2 h1' fun z => nomatch z) n2 e
theorem WkAt.some_ (W : WkAt K C H a p h b s r n) : (∃ o, H a = some o) ∧ ∃ o, H p = some o := by
  obtain ⟨dx, hv, sv, rv, xs, h1, h2, _⟩ := W.ex
  exact ⟨⟨_, h1⟩, ⟨_, h2⟩⟩
theorem WkAt.tabs {T : List (Addr × Str)} (W : WkAt K C H a p h b s r n) (t : Tabs T H) (f : Fr2 a p H H') : Tabs T H' := by
  obtain ⟨dx, hv, sv, rv, xs, h1, h2, _⟩ := W.ex
  exact tabs_fr2 t f h1 h2
end
end Wk

set_option maxHeartbeats 1000000
/-! law -/
namespace Wk
open PySem L2 PyProof.Rows LamX
section
variable {P : Program} {w : World} {K : PySem.W.Frag} {mg : Str → Option Value} {base : Heap} {C : Addr}
abbrev n_law : List Str := ["_law_script", "_law_k", "_law_pen_here", "_law_house_here", "_law_wide", "_law_stand_here", "_law_turn", "_law_row_here", "_law_one", "_law_other", "_law_goal", "_law_deed"]
theorem sc_law : FnScope n_law ["_law_script"] (defScope (top 119)) := ⟨rfl, rfl, rfl, by decide +kernel, rfl, by decide +kernel, by decide +kernel⟩
def qL : Str := (("law" : Str) ++ ".<locals>.") ++ "<lambda>"
def sp_law (K : PySem.W.Frag) (P0 : Addr) : Sp := fun vs H Q _ => ∃ (a : Addr) (ns : List Int), vs = [.ref a] ∧ SqL K H a (ns.map V.int) ∧ ns.length ≤ 63 ∧ H P0 = some (.tbl #[]) ∧ ∀ H', Q (.bl true) H'
/-- the slots behind a cell -/
def LSt (a : Addr) (σ : L2.St) : Prop := ∃ y1 y2 y3 y4 y5 y6 y7 y8 y9 y10 y11, σ = [some (.ref a), y1, y2, y3, y4, y5, y6, y7, y8, y9, y10, y11]
def LIn (K : PySem.W.Frag) (P0 a p : Addr) (hv wv sv : V) (Hc : Hp) (n : Nat) (i : Nat) (σ : L2.St) (H : Hp) : Prop := ∃ y1 y6 y7 y8 y9 y10 y11, σ = [some (.ref a), y1, some (.ref p), some hv, some wv, some sv, y6, y7, y8, y9, y10, y11] ∧ FrN p Hc H ∧ PenAt H p (n + 13 * i) ∧ Tabs [(P0, qL)] H
theorem ok_law {f c0 P0 CS : Addr} {oc dV kV doc pm ct : Value} {od an : Option Addr} {osl : Array (Option Value)} (lk : K.lookup f = some ⟨oc, od, .func (PySem.W.fnOf "law" "law" (defArgs (top 119)) (defBody (top 119)) (defScope (top 119)) dV kV doc pm an (.ref c0) ct), osl⟩) (hcd : PySem.W.codeIn K (.ref c0) "law" = true)
    (TB : TabB base mg c0 P0) (M : Mo mg) (TW : WkT K mg C) (D_said : Dn K mg "_law_said" (top 105)) (hWE : mg "WearError" = some (.ref CS))
    (I_init : ∃ f fd, Mk K C f ∧ Binds K fd ["self", "house", "stand"] [] ∧ FnOk P w K mg base CX0 11 f fd ["self", "house", "stand"] (sp_init K C))
    (M_play : MtAt P w K mg base C 6 "play" ["self", "row"] (sp_turn K C)) (M_stand : MtAt P w K mg base C 1 "stand" ["self"] (sp_wstand K C)) (M_coins : MtAt P w K mg base C 4 "coins" ["self"] (sp_wcoins K C)) (M_may : MtAt P w K mg base C 4 "may" ["self"] (sp_wmay K C))
    (F_cell : FnAt P w K mg base 1 "_law_cell_at" ["_law_script", "_law_k"] (sp_cell_at K)) (F_pen : FnAt P w K mg base 1 "_law_pen" ["_law_cell"] sp_pen) (F_house : FnAt P w K mg base 3 "_law_house" ["_law_pen_here"] (sp_house K))
    (F_wider : FnAt P w K mg base 3 "_law_wider" ["_law_pen_here", "_law_house_here"] (sp_wider K)) (F_stand : FnAt P w K mg base 3 "_law_stand" ["_law_pen_here", "_law_house_here"] (sp_stand K)) (F_row : FnAt P w K mg base 4 "_law_row" ["_law_pen_here", "_law_house_here", "_law_stand_here", "_law_most"] (sp_row K))
    (F_draw : FnAt P w K mg base 1 "_law_draw" ["_law_pen_here", "_law_many"] (sp_draw K)) (F_box : FnAt P w K mg base 2 "_law_box" ["_law_pen_here", "_law_teeth"] (sp_box K)) (F_goal : FnAt P w K mg base 13 "_law_goal_right" ["_law_house_here", "_law_wide", "_law_stand_here", "_law_goal"] (sp_goal_right K)) :
    FnOk P w K mg base CX0 14 f (PySem.W.fnOf "law" "law" (defArgs (top 119)) (defBody (top 119)) (defScope (top 119)) dV kV doc pm an (.ref c0) ct) ["_law_script"] (sp_law K P0) := by
  obtain ⟨fi, fdi, mk, bi, Fi⟩ := I_init
  obtain ⟨fp, fdp, gp, bp, Fp⟩ := M_play.ex
  obtain ⟨fs, fds, gs, bs, Fs⟩ := M_stand.ex
  obtain ⟨fc, fdc, gc, bc, Fc⟩ := M_coins.ex
  obtain ⟨fm, fdm, gm, bm, Fm⟩ := M_may.ex
  obtain ⟨fq, fdq, FQ, mq⟩ := D_said.ex
  have bq := FQ.bindsN (ps := ["_law_call"]) fun _ _ _ _ _ _ us hl => (match us, hl with | [_], _ => rfl)
  have kq := FQ.kp
  obtain ⟨ocq, odq, dVq, kVq, docq, pmq, anq, cdq, ctq, oslq, rfl, lkq, hcq, _, _⟩ := FQ.ex
  refine fn_of (N := n_law) lk hcd sc_law (fun vs H Q E h => by obtain ⟨_, _, rfl, _⟩ := h; rfl) fun A outer s H vs Q E hr h => ?_
  have nd := sc_law.nd
  have hu := hr.units
  suffices key : ∃ t, PSs (cxOf CX0 P w K mg base n_law "law" (defScope (top 119)) f (.ref c0) A outer s H E).nox (defBody (top 119)) t ∧ t { nx := fun _ H' => Q .non H', rt := Q } (L2.start n_law vs) H by
    obtain ⟨t, h1, h2⟩ := key
    exact ⟨t, h1.nox, h2⟩
  refine ⟨_, pss_cons (ps_for PassesOwn.never rfl (pi_range1 rfl M.b_range (pa_cons (pe_callB (call_max2 rfl) rfl M.b_max (by decide +kernel) (pa_cons pe_int (pa_cons (pe_callB (call_min2 rfl) rfl M.b_min (by decide +kernel) (pa_cons (pe_callB call_len_seq rfl M.b_len PySem.boot_len (pa_cons (pv 0) pa_nil)) (pa_cons pe_int pa_nil))) pa_nil))) pa_nil)) (pg_name (i := 1) nd rfl (by first | exact Or.inl rfl | exact Or.inr rfl))
 (pss_cons (ps_set (i := 2) nd rfl (by first | exact Or.inl rfl | exact Or.inr rfl) (pe_fn (F_pen.mono (by decide)) hr (pa_cons (pe_fn (F_cell.mono (by decide)) hr (pa_cons (pv 0) (pa_cons (pv 1) pa_nil))) pa_nil)))
 (pss_cons (ps_set (i := 3) nd rfl (by first | exact Or.inl rfl | exact Or.inr rfl) (pe_fn (F_house.mono (by decide)) hr (pa_cons (pv 2) pa_nil)))
 (pss_cons (ps_par (i := 4) (j := 5) rfl nd rfl rfl (by decide) rfl rfl (pa_cons (pe_fn (F_wider.mono (by decide)) hr (pa_cons (pv 2) (pa_cons (pv 3) pa_nil))) (pa_cons (pe_fn (F_stand.mono (by decide)) hr (pa_cons (pv 2) (pa_cons (pv 3) pa_nil))) pa_nil)) rfl)
 (pss_cons (ps_for PassesOwn.never rfl (pi_range1 rfl M.b_range (pa_cons pe_int pa_nil)) (pg_name (i := 6) nd rfl (by first | exact Or.inl rfl | exact Or.inr rfl))
 (pss_cons (ps_set (i := 7) nd rfl (by first | exact Or.inl rfl | exact Or.inr rfl) (pe_fn (F_row.mono (by decide)) hr (pa_cons (pv 2) (pa_cons (pv 3) (pa_cons (pv 5) (pa_cons pe_int pa_nil))))))
 (pss_cons (ps_asg (pe_tup (pa_cons (pe_make mk Fi (hr.mono (by decide)) rfl TW.mgC bi .nil pass0 (pa_cons (pv 3) (pa_cons (pv 5) pa_nil))) (pa_cons (pe_make mk Fi (hr.mono (by decide)) rfl TW.mgC bi .nil pass0 (pa_cons (pv 4) (pa_cons (pv 5) pa_nil))) pa_nil))) (pg_tup rfl (pgs_cons (pg_name (i := 8) nd rfl (by first | exact Or.inl rfl | exact Or.inr rfl)) (pgs_cons (pg_name (i := 9) nd rfl (by first | exact Or.inl rfl | exact Or.inr rfl)) pgs_nil))))
 (pss_cons (ps_expr (pe_meth (pv 8) TW.cl gp Fp (hr.mono (by decide)) bp .nil pass0 (pa_cons (pv 7) pa_nil)))
 (pss_cons (ps_if (PW.pt (pw_or (pt_cmpR (op_neP hu) (pe_lamcall (T := [(P0, qL)]) (TT := TSaid) (a := "_law_call") (c := c0) (P := P0) (k := 11) (Ng := n_law_said) (t := fun E => tMeth C "play" (sp_turn K C) [] E (tVar 9) (tCons (tVar 7) tNil)) rfl mq kq lkq hcq bq sc_law_said rfl (.inl rfl) (said_gives hWE) TB rfl (List.mem_cons_self ..) (fun p hp _ => by rw [List.mem_singleton.mp hp]; rfl) hr (lamS_by (sc := defScope (top 119)) (by decide +kernel)) rfl (fun _ _ _ _ _ => rfl)
              (fun A' outer' s' H' E' f' c' hr' => pe_meth (pv 9) TW.cl gp Fp (hr'.mono (by decide)) bp .nil (fun _ _ _ _ _ _ _ z => z.elim) (pa_cons (pv 7) pa_nil))) (pe_tup (pa_cons pe_str (pa_cons pe_non pa_nil))) (nomark _)) (pw_or1 (pt_cmpR (op_neP hu) (pe_meth0 (pv 8) TW.cl gs Fs (hr.mono (by decide)) bs .nil pass0) (pe_meth0 (pv 9) TW.cl gs Fs (hr.mono (by decide)) bs .nil pass0) (nomark _))))) (pss_one (ps_ret pe_bl)) pss_nil)
 (pss_one (ps_if (PW.pt (pw_or (pt_cmpR op_ne (pe_meth0 (pv 8) TW.cl gc Fc (hr.mono (by decide)) bc .nil pass0) (pe_meth0 (pv 9) TW.cl gc Fc (hr.mono (by decide)) bc .nil pass0) (nomark _)) (pw_or1 (pt_cmpR (op_neP hu) (pe_lc (own := [("_law_deed", 11)]) (g := gName 11) (tt := tTest (tOp (rInP K true) (tVar 11) (tMeth C "may" (sp_wmay K C) [] E0 (tVar 9) tNil))) (te := tVar 11) rfl nd (pi_tup (pe_meth0 (pv 8) TW.cl gm Fm (hr.mono (by decide)) bm .nil pass0))
                (blkOk_by (own := [("_law_deed", 11)]) (N := n_law) (sc := defScope (top 119)) (by decide +kernel)) (fun _ _ _ _ _ => pg_name (i := 11) nd rfl (by first | exact Or.inl rfl | exact Or.inr rfl))
                (fun _ _ _ _ _ => pts_one (pt_cmpR (op_niP hu) (pv 11) (pe_meth0 (pv 9) TW.cl gm Fm (hr.mono (by decide)) bm .nil pass0) (by rfl))) (fun _ _ _ _ _ => pv 11)) (pe_lst pa_nil) (nomark _))))) (pss_one (ps_ret pe_bl)) pss_nil)))))))
 (pss_one (ps_if (td_lt hu (pd_ix (pd_var 3 (pv 3)) pd_int) pd_int) (pss_cons (ps_set (i := 10) nd rfl (by first | exact Or.inl rfl | exact Or.inr rfl) (pe_tup (pa_cons (pe_fn (F_draw.mono (by decide)) hr (pa_cons (pv 2) (pa_cons (pd_ix (pd_var 3 (pv 3)) pd_int) pa_nil))) (pa_cons (pe_fn (F_box.mono (by decide)) hr (pa_cons (pv 2) (pa_cons (pd_ix (pd_var 3 (pv 3)) pd_int) pa_nil))) pa_nil)))) (pss_one (ps_if (pt_not (pt_val (pe_fn F_goal hr (pa_cons (pv 3) (pa_cons (pv 4) (pa_cons (pv 5) (pa_cons (pv 10) pa_nil))))))) (pss_one (ps_ret pe_bl)) pss_nil))) pss_nil)))))))
 (pss_one (ps_ret pe_bl)), ?_⟩
  obtain ⟨a, ns, rfl, hS, hl, hT0, k⟩ := h
  have t0 : Tabs [(P0, qL)] H := fun x hx => by
    rw [List.mem_singleton.mp hx]
    exact TabS.nil hT0
  refine ⟨_, rfl, a, _, rfl, .inl hS, _, _, rfl, _, _, rfl, _, rfl, ?_, ?_, for_it walk_range (fun _ σ H' => LSt a σ ∧ ExtN H H' ∧ Tabs [(P0, qL)] H') ⟨⟨none, none, none, none, none, none, none, none, none, none, none, rfl⟩, ExtN.refl _, t0⟩ (fun _ _ _ _ _ => trivial) ?_ ?_⟩
  · split <;> split <;> omega
  · split <;> split <;> omega
  · rintro i x σ1 H10 H1 hi ⟨⟨y1, y2, y3, y4, y5, y6, y7, y8, y9, y10, y11, rfl⟩, e1, t1⟩ ⟨rfl, hx⟩
    have hx' : x = .int (i : Int) := hx.trans (congrArg V.int (Int.zero_add _))
    subst hx'
    refine ⟨_, rfl, _, rfl, a, i, ns, rfl, sql_ext hS e1, fun xv => ⟨xv, rfl, fun p H2 hp s2 p2 => ?_⟩⟩
    refine ⟨_, rfl, p, 0, rfl, p2, by omega, fun hv h H3 f3 p3 ih3 G S => ?_⟩
    refine ⟨_, rfl, _, rfl, p, 0 + 232, hv, h, rfl, p3, ih3, G, S, by omega, fun wv u H4 f4 p4 iw4 W => ?_⟩
    refine ⟨_, rfl, _, rfl, p, 0 + 232 + 10, hv, h, rfl, p4, ih3.mono (f4.tk p3), G, by omega, fun sv s0 H5 f5 p5 is5 g0 => ⟨wv, sv, rfl, ?_⟩⟩
    have ih5 := (ih3.mono (f4.tk p3)).mono (f5.tk p4)
    have iw5 := iw4.mono (f5.tk p4)
    have wg0 := goodS_wid W g0
    have t5 : Tabs [(P0, qL)] H5 := tabs_fr (tabs_fr (tabs_fr (tabs_same t1 s2) f3 p2) f4 p3) f5 p4
    have f25 : FrN p H2 H5 := ((FrN.of f3).trans (FrN.of f4)).trans (FrN.of f5)
    refine ⟨3, rfl, by decide, by decide, for_it walk_range (fun j σ H' => LIn K P0 a p hv wv sv H5 246 j σ H') ⟨_, _, _, _, _, _, _, rfl, fun _ _ _ e _ => e, p5, t5⟩ (fun _ _ _ _ _ => trivial) ?_ ?_⟩
    · rintro j xj σ6 H60 H6 hj ⟨z1, z6, z7, z8, z9, z10, z11, rfl, fN, pN, tN⟩ ⟨rfl, _⟩
      have hj3 : j < 3 := by simpa using hj
      have ih6 := ih5.mono (fN.tk p5)
      have iw6 := iw5.mono (fN.tk p5)
      have is6 := is5.mono (fN.tk p5)
      refine ⟨_, rfl, _, rfl, _, rfl, p, 246 + 13 * j, 12, hv, sv, h, s0, rfl, pN, ih6, is6, G, g0, Nat.le_refl _, by omega, fun rv r s' H7 f7 p7 ir7 er rl gd => ?_⟩
      have t7 := tabs_fr tN f7 pN
      have ih7 := ih6.mono (f7.tk pN)
      have iw7 := iw6.mono (f7.tk pN)
      have is7 := is6.mono (f7.tk pN)
      have erw := run_wid G W g0 gd er
      have gdw : ∀ d ∈ r, GoodD u d := fun d hd => goodD_wid W (gd d hd)
      have gs' := run_all er G g0
      -- the walkers
      refine ⟨_, rfl, _, rfl, fun x1 dx1 nx1 nd1 ne1 => ?_⟩
      have m1 := made_same (C := C) nx1 nd1 ne1 Fr.refl
      refine ⟨x1, dx1, hv, sv, h, s0, rfl, upd_same, ih7.mono (same_tk m1), is7.mono (same_tk m1), G, g0, fun p1 H8 np1 f8 W1 => ⟨rfl, ?_⟩⟩
      have s8 := made_same nx1 nd1 ne1 f8
      have np1' := made_free nx1 nd1 np1
      refine ⟨_, rfl, _, rfl, fun x2 dx2 nx2 nd2 ne2 => ?_⟩
      have m2 := made_same (C := C) nx2 nd2 ne2 Fr.refl
      refine ⟨x2, dx2, wv, sv, u, s0, rfl, upd_same, (iw7.mono (same_tk s8)).mono (same_tk m2), (is7.mono (same_tk s8)).mono (same_tk m2), W.gw, wg0, fun p2' H9 np2 f9 W2 => ⟨rfl, ?_⟩⟩
      have s9 := made_same nx2 nd2 ne2 f9
      have np2' := made_free nx2 nd2 np2
      have nx27 : H7 x2 = none := s8.free nx2
      have np27 : H7 p2' = none := s8.free np2'
      obtain ⟨⟨o1, ho1⟩, o1', ho1'⟩ := W1.some_
      have n12 : x1 ≠ x2 := ne_of_none ho1 nx2
      have q12 : p1 ≠ p2' := ne_of_none ho1' np2'
      refine ⟨by show 2 ≤ sizeLine; decide, fun U hU => ?_⟩
      have s10 : Same H9 (upd H9 U (.tup [.ref x1, .ref x2])) := Same.new hU
      refine ⟨U, _, rfl, SqT.of upd_same, rfl, _, _, rfl, _, _, rfl, rfl, ?_⟩
      generalize upd H9 U (.tup [.ref x1, .ref x2]) = H10 at s10 ⊢
      have z10' := (s8.trans s9).trans s10
      have W1a := (W1.same s9).same s10
      have W2a := W2.same s10
      obtain ⟨dxa, hva, sva, rva, xsa, ha, _⟩ := W1a.ex
      -- play
      refine ⟨_, rfl, x1, dxa, _, rfl, ha, rfl, _, rfl, x1, p1, h, s0.1, 0, s0, s', [], r, rv, rfl, W1a, ir7.mono (same_tk z10'), G, g0, gd, er, by omega, by simp; omega, fun H11 f11 W1b => ?_⟩
      have e11 : ExtN H7 H11 := extN_fr2 (extN_same z10') f11 nx1 np1'
      have t11 := W1a.tabs (tabs_same t7 z10') f11
      have W2b := W2a.apart W1a f11 n12.symm q12.symm
      clear f11 W1a W2a ha s10 hU s9 s8 m1 m2
      -- said
      refine ⟨t11, fun H12 e12 t12 => ?_⟩
      have W1c := W1b.ext e12
      have W2c := W2b.ext e12
      have e712 := e11.trans e12
      obtain ⟨dxb, hvb, svb, rvb, xsb, hb, _⟩ := W2c.ex
      refine ⟨_, rfl, x2, dxb, _, rfl, hb, rfl, _, rfl, x2, p2', u, s0.1, 0, s0, s', [], r, rv, rfl, W2c, ir7.mono (extN_tk e712), W.gw, wg0, gdw, erw.1, by omega, by simp; omega, fun H13 f13 W2d => ⟨by show 2 ≤ sizeLine; decide, fun U2 hU2 => ?_⟩⟩
      have e13 : ExtN H7 H13 := extN_fr2 e712 f13 nx27 np27
      have t13 := W2c.tabs t12 f13
      have W1d := W1c.apart W2c f13 n12 q12
      clear f13 W2c W1c hb W1b W2b e712 e11 t12 t11 e12
      have sU2 : Same H13 (upd H13 U2 (.tup [.str "told", .non])) := Same.new hU2
      have hU2' : upd H13 U2 (.tup [.str "told", .non]) U2 = some (.tup [.str "told", .non]) := upd_same
      refine ⟨by show 2 ≤ sizeLine; decide, fun U3 hU3 => ?_⟩
      have sU3 : Same (upd H13 U2 (.tup [.str "told", .non])) (upd (upd H13 U2 (.tup [.str "told", .non])) U3 (.tup [.str "told", .non])) := Same.new hU3
      have sd : Same H13 (upd (upd H13 U2 (.tup [.str "told", .non])) U3 (.tup [.str "told", .non])) := sU2.trans sU3
      refine ⟨.tuple [.str "told", .none], .tuple [.str "told", .none], .inl (.tup (sU3 _ _ hU2') (.cons (.str _) (.cons .non .nil))), .inl (.tup upd_same (.cons (.str _) (.cons .non .nil))), by decide, false, congrArg V.bl (by decide), ?_⟩
      refine iteF ?_
      have W1e := W1d.same sd
      have W2e := W2d.same sd
      have t14 := tabs_same t13 sd
      have e14 := e13.trans (extN_same sd)
      generalize upd (upd H13 U2 (.tup [.str "told", .non])) U3 (.tup [.str "told", .non]) = H14 at W1e W2e t14 e14 ⊢
      clear sd sU2 sU3 hU2' hU3 hU2 t13 e13 W1d W2d
      obtain ⟨dxa, hva, sva, rva, xsa, ha, _⟩ := W1e.ex
      obtain ⟨dxb, hvb, svb, rvb, xsb, hb, _⟩ := W2e.ex
      -- the stands
      refine ⟨_, rfl, x1, dxa, _, rfl, ha, rfl, x1, p1, h, s0.1, _, s', _, rfl, W1e, fun v1 iv1 => ?_⟩
      refine ⟨_, rfl, x2, dxb, _, rfl, hb, rfl, x2, p2', u, s0.1, _, s', _, rfl, W2e, fun v2 iv2 => ?_⟩
      refine ⟨standD s', standD s', .inl iv1, .inl iv2, ?_, false, ?_, ?_⟩
      · have := depth_key s'.2
        show max 0 (max (keyD s'.2).depth 0) + 1 ≤ 8
        omega
      · exact congrArg V.bl (by rw [PySem.SeqAt.eqv_refl_plain _ (Im.plain _ _ iv1)]; rfl)
      refine iteF ?_
      -- the coins
      refine ⟨_, rfl, x1, dxa, _, rfl, ha, rfl, x1, p1, h, _, s0, s', _, rfl, W1e, G, g0, er, fun H15 s15 => ?_⟩
      refine ⟨_, rfl, x2, dxb, _, rfl, s15 _ _ hb, rfl, x2, p2', u, _, s0, s', _, rfl, W2e.same s15, W.gw, wg0, erw.1, fun H16 s16 => ?_⟩
      refine ⟨rfl, false, ?_, ?_⟩
      · have e := erw.2
        show V.bl (!decide (V.int (coins h s0.1 r : Int) = V.int (coins u s0.1 r : Int))) = V.bl false
        rw [e, decide_eq_true rfl]
        rfl
      refine iteF ?_
      -- what may be done
      have s1416 := s15.trans s16
      have W1g := W1e.same s1416
      have W2g := W2e.same s1416
      refine ⟨_, rfl, x1, dxa, _, rfl, s1416 _ _ ha, rfl, x1, p1, h, s0.1, _, s', _, rfl, W1g, G, gs', fun v H17 s17 iv => ?_⟩
      obtain ⟨L, ys, rfl, hL, iy⟩ := iv.inT
      refine ⟨L, rfl, ⟨ys, SqT.of hL⟩, fun D hD => ?_⟩
      refine lc_it walk_tup (fun _ H' => Same H17 H' ∧ H' D = some (.lst [])) ⟨Same.new hD, upd_same⟩ (fun _ _ _ q => SqT.of (q.1 _ _ hL)) ?_ ?_
      · rintro m y H180 H18 hm ⟨q1, q2⟩ ⟨rfl, hy⟩
        refine ⟨rfl, ?_⟩
        obtain ⟨dd, hdd, imy⟩ := iy.get' hy
        rw [List.getElem?_map] at hdd
        obtain ⟨d, hd, rfl⟩ := Option.map_eq_some_iff.mp hdd
        have hmem := List.mem_of_getElem? hd
        have hmw := mays_wid G W gs' hmem
        have s1418 := (s1416.trans s17).trans q1
        have iy18 := imy.mono (same_tk q1)
        refine ⟨_, rfl, _, rfl, x2, dxb, _, rfl, s1418 _ _ hb, rfl, x2, p2', u, s0.1, _, s', _, rfl, W2e.same s1418, W.gw, goodS_wid W gs', fun v2 H19 s19 iv2 => ?_⟩
        refine ⟨deedD d, (mays u s').map deedD, .inl (iy18.mono (same_tk s19)), .inr (.inl iv2), by cases d <;> exact (show 1 ≤ 8 by decide), false, ?_, ?_⟩
        · refine congrArg V.bl ?_
          have e : ((mays u s').map deedD).any (fun z => PyData.eqv z (deedD d)) = true := List.any_eq_true.mpr ⟨deedD d, List.mem_map.mpr ⟨d, hmw, rfl⟩, PySem.SeqAt.eqv_refl_plain _ (Im.plain _ _ iy18)⟩
          rw [if_pos rfl, e]
          rfl
        refine iteF ?_
        exact ⟨q1.trans s19, s19 _ _ q2⟩
      · rintro H18 ⟨q1, q2⟩
        refine ⟨by decide, fun R hR => ?_⟩
        have sR : Same H18 (upd H18 R (.lst [])) := Same.new hR
        refine ⟨.list [], .list [], .inr ⟨D, [], [], rfl, rfl, sR _ _ q2, .nil⟩, .inr ⟨R, [], [], rfl, rfl, upd_same, .nil⟩, by decide, false, congrArg V.bl (by decide), ?_⟩
        refine iteF ?_
        have se := ((s1416.trans s17).trans q1).trans sR
        exact ⟨_, _, _, _, _, _, _, rfl, (fN.trans (FrN.of f7)).trans (FrN.ofE (e14.trans (extN_same se))), (p7.ext (e14.trans (extN_same se))).le (by omega), tabs_same t14 se⟩
    · rintro σ6 H6 ⟨z1, z6, z7, z8, z9, z10, z11, rfl, fN, pN, tN⟩
      have ih6 := ih5.mono (fN.tk p5)
      have iw6 := iw5.mono (fN.tk p5)
      have is6 := is5.mono (fN.tk p5)
      have pN : PenAt H6 p 285 := pN.le (by simp)
      refine ⟨[none, none, none, some (houseD h), none, none, none, none, none, none, none, none], decide ((h.teeth : Int) < 3), repAll (.cons rNone (.cons rNone (.cons rNone (.cons (rSome (.inl ih6)) (.cons rNone (.cons rNone (.cons rNone (.cons rNone (.cons rNone (.cons rNone (.cons rNone (.cons rNone .nil)))))))))))), by rfl, fun H7 s7 => ?_⟩
      have t7 := tabs_same tN s7
      by_cases ht : (h.teeth : Int) < 3
      · rw [decide_eq_true ht]
        refine iteT ?_
        refine ⟨_, rfl, [none, none, none, some (houseD h), none, none, none, none, none, none, none, none], nD h.halls, repAll (.cons rNone (.cons rNone (.cons rNone (.cons (rSome (.inl (ih6.mono (same_tk s7)))) (.cons rNone (.cons rNone (.cons rNone (.cons rNone (.cons rNone (.cons rNone (.cons rNone (.cons rNone .nil)))))))))))), by rfl, fun v8 H8 s8 r8 => ?_⟩
        rw [r8.int]
        have s68 := s7.trans s8
        refine ⟨p, h.halls, 285, rfl, pN.same s68, G.h1, by have := G.h6; omega, by omega, fun d H9 hd f9 p9 => ?_⟩
        have f69 := (Fr.of s68).trans f9
        have ih9 := ih6.mono (f69.tk pN)
        refine ⟨_, rfl, [none, none, none, some (houseD h), none, none, none, none, none, none, none, none], nD h.teeth, repAll (.cons rNone (.cons rNone (.cons rNone (.cons (rSome (.inl ih9)) (.cons rNone (.cons rNone (.cons rNone (.cons rNone (.cons rNone (.cons rNone (.cons rNone (.cons rNone .nil)))))))))))), by rfl, fun v10 H10 s10 r10 => ?_⟩
        rw [r10.int]
        refine ⟨p, h.teeth, 286, rfl, p9.same s10, G.t3, by omega, fun bv b H11 f11 p11 ib gb => ?_⟩
        refine ⟨by show 2 ≤ sizeLine; decide, fun U hU => ?_⟩
        have sU : Same H11 (upd H11 U (.tup [.int (d : Int), bv])) := Same.new hU
        have f6U := ((f69.trans (Fr.of s10)).trans f11).trans (Fr.of sU)
        have tU := tabs_fr tN f6U pN
        refine ⟨_, rfl, _, rfl, _, rfl, _, rfl, hv, wv, sv, .ref U, h, u, s0, (d, b), rfl, ih6.mono (f6U.tk pN), iw6.mono (f6U.tk pN), is6.mono (f6U.tk pN), .tup upd_same (.cons (.int _) (.cons (ib.mono (same_tk sU)) .nil)), G, W, g0, hd, gb, by omega, fun H13 s13 => ⟨true, rfl, ?_⟩⟩
        refine iteF ?_
        exact ⟨⟨_, _, _, _, _, _, _, _, _, _, _, rfl⟩, e1.trans (FrN.ext s2 hp (f25.trans (fN.trans (FrN.of (f6U.trans (Fr.of s13)))))), tabs_same tU s13⟩
      · rw [decide_eq_false ht]
        refine iteF ?_
        exact ⟨⟨_, _, _, _, _, _, _, _, _, _, _, rfl⟩, e1.trans (FrN.ext s2 hp (f25.trans (fN.trans (FrN.of (Fr.of s7))))), t7⟩
  · rintro σ1 H1 ⟨⟨y1, y2, y3, y4, y5, y6, y7, y8, y9, y10, y11, rfl⟩, e1, t1⟩
    exact k H1
end
end Wk

set_option maxHeartbeats 8000000
/-! the end -/
namespace Wk
open PySem L2 PyProof.Rows LamX
section
variable {P : Program} {w : World} {K : PySem.W.Frag} {mg : Str → Option Value} {base : Heap} {C : Addr}
theorem chain {f c0 P0 CS : Addr} {oc dV kV doc pm ct : Value} {od an : Option Addr} {osl : Array (Option Value)} (lk : K.lookup f = some ⟨oc, od, .func (PySem.W.fnOf "law" "law" (defArgs (top 119)) (defBody (top 119)) (defScope (top 119)) dV kV doc pm an (.ref c0) ct), osl⟩) (hcd : PySem.W.codeIn K (.ref c0) "law" = true)
    (TB : TabB base mg c0 P0) (M : Mo mg) (TW : WkT K mg C) (hWE : mg "WearError" = some (.ref CS)) (d_law_said : Dn K mg "_law_said" (top 105))
    (m_stand : DnM K C "stand" "Walker.stand" (mtd 8)) (m_coins : DnM K C "coins" "Walker.coins" (mtd 10)) (m_turn : DnM K C "turn" "Walker.turn" (mtd 1)) (m_play : DnM K C "play" "Walker.play" (mtd 6)) (m_may : DnM K C "may" "Walker.may" (mtd 11))
    (d_is_whole : Dn K mg "is_whole" (top 28)) (d_is_among : Dn K mg "is_among" (top 29)) (d_are_some : Dn K mg "are_some" (top 30)) (d_rises : Dn K mg "rises" (top 31)) (d_is_height : Dn K mg "is_height" (top 32)) (d_is_key_by : Dn K mg "is_key_by" (top 33)) (d_is_gap : Dn K mg "is_gap" (top 34)) (d_is_box_by : Dn K mg "is_box_by" (top 35)) (d_has_key : Dn K mg "has_key" (top 37)) (d_moved_end : Dn K mg "moved_end" (top 38)) (d_filled_from : Dn K mg "filled_from" (top 39)) (d_is_greatest : Dn K mg "is_greatest" (top 40)) (d_greatest_by : Dn K mg "greatest_by" (top 41)) (d_is_wear : Dn K mg "is_wear" (top 54)) (d_is_door : Dn K mg "is_door" (top 55)) (d_are_doors : Dn K mg "are_doors" (top 56)) (d_is_smith : Dn K mg "is_smith" (top 57)) (d_are_benches : Dn K mg "are_benches" (top 58)) (d_are_smiths : Dn K mg "are_smiths" (top 59)) (d_is_house : Dn K mg "is_house" (top 60)) (d_need_house : Dn K mg "need_house" (top 61)) (d_is_hall : Dn K mg "is_hall" (top 62)) (d_is_stand : Dn K mg "is_stand" (top 63)) (d_need_stand : Dn K mg "need_stand" (top 64)) (d_is_deed : Dn K mg "is_deed" (top 65)) (d_all_deeds : Dn K mg "all_deeds" (top 67)) (d_door_at : Dn K mg "door_at" (top 68)) (d_smith_at : Dn K mg "smith_at" (top 69)) (d_is_away : Dn K mg "is_away" (top 70)) (d_hall_behind : Dn K mg "hall_behind" (top 71)) (d_wear_of : Dn K mg "wear_of" (top 72)) (d_gap_of : Dn K mg "gap_of" (top 73)) (d_bar_of : Dn K mg "bar_of" (top 74)) (d_done_by : Dn K mg "done_by" (top 75)) (d_need_row : Dn K mg "need_row" (top 77)) (d_bar_at : Dn K mg "bar_at" (top 78)) (d_behind_by : Dn K mg "behind_by" (top 79)) (d_coins_by : Dn K mg "coins_by" (top 80)) (d_is_goal : Dn K mg "is_goal" (top 84)) (d_need_goal : Dn K mg "need_goal" (top 85)) (d_need_wish : Dn K mg "need_wish" (top 86)) (d_is_there : Dn K mg "is_there" (top 87)) (d_next_ones : Dn K mg "next_ones" (top 88)) (d_spread_from : Dn K mg "spread_from" (top 89)) (d_spread : Dn K mg "spread" (top 90)) (d_row_to : Dn K mg "row_to" (top 91)) (d_lot_of : Dn K mg "lot_of" (top 92)) (d_way : Dn K mg "way" (top 93)) (d_price_of : Dn K mg "price_of" (top 94)) (d_least_coins : Dn K mg "least_coins" (top 95)) (d_law_cell_at : Dn K mg "_law_cell_at" (top 99)) (d_law_pen : Dn K mg "_law_pen" (top 100)) (d_law_draw : Dn K mg "_law_draw" (top 101)) (d_law_pick : Dn K mg "_law_pick" (top 102)) (d_law_key : Dn K mg "_law_key" (top 106)) (d_law_box : Dn K mg "_law_box" (top 107)) (d_law_house : Dn K mg "_law_house" (top 108)) (d_law_stand : Dn K mg "_law_stand" (top 109)) (d_law_deeds : Dn K mg "_law_deeds" (top 110)) (d_law_door : Dn K mg "_law_door" (top 111)) (d_law_behind : Dn K mg "_law_behind" (top 112)) (d_law_may : Dn K mg "_law_may" (top 113)) (d_law_row : Dn K mg "_law_row" (top 114)) (d_law_free : Dn K mg "_law_free" (top 115)) (d_law_wider_box : Dn K mg "_law_wider_box" (top 116)) (d_law_wider : Dn K mg "_law_wider" (top 117)) (d_law_goal_right : Dn K mg "_law_goal_right" (top 118)) :
    FnOk P w K mg base CX0 14 f (PySem.W.fnOf "law" "law" (defArgs (top 119)) (defBody (top 119)) (defScope (top 119)) dV kV doc pm an (.ref c0) ct) ["_law_script"] (sp_law K P0) := by
  have F_are_some := ok_are_some (P := P) (w := w) (base := base) M d_are_some 
  have F_is_whole := ok_is_whole (P := P) (w := w) (base := base) M d_is_whole 
  have F_is_among := ok_is_among (P := P) (w := w) (base := base) M d_is_among F_is_whole
  have F_is_wear := ok_is_wear (P := P) (w := w) (base := base) M d_is_wear F_are_some F_is_among
  have F_is_height := ok_is_height (P := P) (w := w) (base := base) M d_is_height F_is_among
  have F_is_gap := ok_is_gap (P := P) (w := w) (base := base) M d_is_gap F_are_some F_is_height
  have F_is_box_by := ok_is_box_by (P := P) (w := w) (base := base) M d_is_box_by F_are_some F_is_gap
  have F_is_door := ok_is_door (P := P) (w := w) (base := base) M d_is_door F_are_some F_is_among F_is_box_by
  have F_rises := ok_rises (P := P) (w := w) (base := base) M d_rises 
  have F_are_doors := ok_are_doors (P := P) (w := w) (base := base) M d_are_doors F_are_some F_is_door F_rises
  have F_are_benches := ok_are_benches (P := P) (w := w) (base := base) M d_are_benches F_is_among F_rises
  have F_is_smith := ok_is_smith (P := P) (w := w) (base := base) M d_is_smith F_are_some F_is_among
  have F_are_smiths := ok_are_smiths (P := P) (w := w) (base := base) M d_are_smiths F_is_smith F_rises
  have F_is_house := ok_is_house (P := P) (w := w) (base := base) M d_is_house F_are_some F_is_among F_is_wear F_are_doors F_are_benches F_are_smiths
  have F_need_house := ok_need_house (P := P) (w := w) (base := base) M d_need_house F_is_house
  have F_is_hall := ok_is_hall (P := P) (w := w) (base := base) M d_is_hall F_is_among
  have F_is_key_by := ok_is_key_by (P := P) (w := w) (base := base) M d_is_key_by F_are_some F_is_height
  have F_is_stand := ok_is_stand (P := P) (w := w) (base := base) M d_is_stand F_are_some F_is_hall F_is_key_by
  have F_need_stand := ok_need_stand (P := P) (w := w) (base := base) M d_need_stand F_need_house F_is_stand
  have F_smith_at := ok_smith_at (P := P) (w := w) (base := base) M d_smith_at 
  have F_door_at := ok_door_at (P := P) (w := w) (base := base) M d_door_at 
  have F_hall_behind := ok_hall_behind (P := P) (w := w) (base := base) M d_hall_behind F_door_at
  have F_coins_by := ok_coins_by (P := P) (w := w) (base := base) M d_coins_by F_smith_at F_hall_behind
  have F_is_away := ok_is_away (P := P) (w := w) (base := base) M d_is_away F_door_at F_smith_at
  have F_gap_of := ok_gap_of (P := P) (w := w) (base := base) M d_gap_of F_door_at F_smith_at
  have F_bar_of := ok_bar_of (P := P) (w := w) (base := base) M d_bar_of F_is_away F_gap_of
  have F_wear_of := ok_wear_of (P := P) (w := w) (base := base) M d_wear_of 
  have F_done_by := ok_done_by (P := P) (w := w) (base := base) M d_done_by F_wear_of F_hall_behind
  have F_bar_at := ok_bar_at (P := P) (w := w) (base := base) M d_bar_at F_bar_of F_done_by
  have F_behind_by := ok_behind_by (P := P) (w := w) (base := base) M d_behind_by F_done_by
  have F_is_deed := ok_is_deed (P := P) (w := w) (base := base) M d_is_deed F_are_some F_is_among
  have F_need_row := ok_need_row (P := P) (w := w) (base := base) M d_need_row F_is_deed
  have F_all_deeds := ok_all_deeds (P := P) (w := w) (base := base) M d_all_deeds 
  have F_law_cell_at := ok_law_cell_at (P := P) (w := w) (base := base) M d_law_cell_at 
  have F_law_pen := ok_law_pen (P := P) (w := w) (base := base) M d_law_pen 
  have F_law_draw := ok_law_draw (P := P) (w := w) (base := base) M d_law_draw 
  have F_law_box := ok_law_box (P := P) (w := w) (base := base) M d_law_box F_law_draw
  have F_law_house := ok_law_house (P := P) (w := w) (base := base) M d_law_house F_law_draw F_law_box
  have F_law_free := ok_law_free (P := P) (w := w) (base := base) M d_law_free 
  have F_law_wider_box := ok_law_wider_box (P := P) (w := w) (base := base) M d_law_wider_box F_law_draw
  have F_law_wider := ok_law_wider (P := P) (w := w) (base := base) M d_law_wider F_law_draw F_law_free F_law_wider_box
  have F_law_key := ok_law_key (P := P) (w := w) (base := base) M d_law_key F_law_draw
  have F_law_stand := ok_law_stand (P := P) (w := w) (base := base) M d_law_stand F_law_draw F_law_key
  have F_law_pick := ok_law_pick (P := P) (w := w) (base := base) M d_law_pick F_law_draw
  have F_law_deeds := ok_law_deeds (P := P) (w := w) (base := base) M d_law_deeds 
  have F_law_door := ok_law_door (P := P) (w := w) (base := base) M d_law_door 
  have F_law_behind := ok_law_behind (P := P) (w := w) (base := base) M d_law_behind F_law_door
  have FF_law_may := okF_law_may (P := P) (w := w) (base := base) M d_law_may F_law_deeds F_law_behind
  have F_law_row := ok_law_row (P := P) (w := w) (base := base) M d_law_row F_law_draw F_law_pick FF_law_may F_law_behind
  have F_is_goal := ok_is_goal (P := P) (w := w) (base := base) M d_is_goal F_are_some F_is_hall F_is_box_by
  have F_need_goal := ok_need_goal (P := P) (w := w) (base := base) M d_need_goal F_is_goal
  have F_need_wish := ok_need_wish (P := P) (w := w) (base := base) M d_need_wish F_need_stand F_need_goal
  have FF_next_ones := okF_next_ones (P := P) (w := w) (base := base) M d_next_ones F_all_deeds F_bar_of F_done_by
  have F_spread_from := ok_spread_from (P := P) (w := w) (base := base) M d_spread_from FF_next_ones
  have F_spread := ok_spread (P := P) (w := w) (base := base) M d_spread F_spread_from
  have F_has_key := ok_has_key (P := P) (w := w) (base := base) M d_has_key 
  have F_is_there := ok_is_there (P := P) (w := w) (base := base) M d_is_there F_has_key
  have F_row_to := ok_row_to (P := P) (w := w) (base := base) M d_row_to 
  have F_moved_end := ok_moved_end (P := P) (w := w) (base := base) M d_moved_end 
  have F_filled_from := ok_filled_from (P := P) (w := w) (base := base) M d_filled_from F_moved_end
  have F_is_greatest := ok_is_greatest (P := P) (w := w) (base := base) M d_is_greatest F_moved_end
  have F_greatest_by := ok_greatest_by (P := P) (w := w) (base := base) M d_greatest_by F_filled_from F_is_greatest
  have F_lot_of := ok_lot_of (P := P) (w := w) (base := base) M d_lot_of F_greatest_by
  have F_way := ok_way (P := P) (w := w) (base := base) M d_way F_need_wish F_spread F_is_there F_row_to F_lot_of
  have F_price_of := ok_price_of (P := P) (w := w) (base := base) M d_price_of F_smith_at
  have F_least_coins := ok_least_coins (P := P) (w := w) (base := base) M d_least_coins F_need_wish F_is_there FF_next_ones F_price_of
  have F_law_goal_right := ok_law_goal_right (P := P) (w := w) (base := base) M d_law_goal_right F_way F_least_coins
  have M_stand := ok_wstand (P := P) (w := w) (base := base) TW m_stand
  have M_coins := ok_wcoins (P := P) (w := w) (base := base) TW m_coins F_coins_by
  have M_turn := ok_turn (P := P) (w := w) (base := base) TW m_turn F_bar_at F_behind_by
  have M_play := ok_play (P := P) (w := w) (base := base) TW m_play F_need_row M_turn
  have M_may := ok_wmay (P := P) (w := w) (base := base) M TW m_may F_all_deeds F_bar_of
  exact ok_law lk hcd TB M TW d_law_said hWE (ok_init TW F_need_stand) M_play M_stand M_coins M_may F_law_cell_at F_law_pen F_law_house F_law_wider F_law_stand F_law_row F_law_draw F_law_box F_law_goal_right
end
theorem facts {P : Program} {w : World} {K : PySem.W.Frag} {h : Heap} {mg : Str → Option Value} {f : Addr} (X : K.In h) (G : h.Ns mainGlobals mg) (hfa : mg ("law" : Str) = some (.ref f)) (c : He.SaysX WkHead.fa WkHead.fn [] WkHead.tf (fun _ => true) w h K) :
    ∃ (fd : FuncData) (cs : List (Addr × Addr)) (sp : Sp), (∀ p ∈ cs, h.get? p.2 = some { cls := .none, data := .fields #[] }) ∧ (∀ p ∈ cs, K.lookup p.2 = none) ∧ (∀ p ∈ cs, PySem.W.CodeHd h p.1 p.2) ∧ (∀ (s : Shared) (u : Value), BindsTo s fd ⟨[u], []⟩ [("_law_script", u)]) ∧
      (∀ (H : Hp) (a : Addr) (ns : List Int), ns.length ≤ 63 → (∀ z ∈ ns, Builtin.Int.intBits z ≤ 1048576) → (∀ p ∈ cs, H p.2 = some (.tbl #[])) → SqL K H a (ns.map V.int) → sp [.ref a] H (fun v _ => v = .bl true) fun _ _ _ => False) ∧
      ∀ base : Heap, K.In base → base.Ns mainGlobals mg → (∀ p ∈ cs, TabB base mg p.1 p.2) → FnOk P w K mg base CX0 14 f fd ["_law_script"] sp := by
  have c1 : He.SaysD WkHead.fa WkHead.fn K := c.t.d
  have M : Mo mg := ⟨He.int_ok X G (c1.fact 83 (f := .int "MOST_HEIGHT" 6) rfl), He.int_ok X G (c1.fact 84 (f := .int "MOST_TEETH" 3) rfl), He.int_ok X G (c1.fact 85 (f := .int "MOST_HALLS" 6) rfl), He.int_ok X G (c1.fact 86 (f := .int "MOST_LETTERS" 6) rfl), He.int_ok X G (c1.fact 87 (f := .int "MOST_WEAR" 3) rfl), He.int_ok X G (c1.fact 88 (f := .int "MOST_DOORS" 10) rfl), He.int_ok X G (c1.fact 89 (f := .int "MOST_PRICE" 9) rfl), He.str_ok X G (c1.fact 90 (f := .str "GO" "go") rfl), He.str_ok X G (c1.fact 91 (f := .str "FILE" "file") rfl), He.str_ok X G (c1.fact 92 (f := .str "LIFT" "lift") rfl), He.str_ok X G (c1.fact 93 (f := .str "AWAY" "away") rfl), He.str_ok X G (c1.fact 94 (f := .str "LOW" "low") rfl), He.str_ok X G (c1.fact 95 (f := .str "HIGH" "high") rfl), He.str_ok X G (c1.fact 96 (f := .str "ROW" "row") rfl), He.str_ok X G (c1.fact 97 (f := .str "SHUT" "shut") rfl), He.free_ok X G (c1.fact 98 (f := .free "isinstance") rfl), He.free_ok X G (c1.fact 99 (f := .free "int") rfl), He.free_ok X G (c1.fact 100 (f := .free "bool") rfl), He.free_ok X G (c1.fact 101 (f := .free "tuple") rfl), He.free_ok X G (c1.fact 102 (f := .free "str") rfl), He.free_ok X G (c1.fact 103 (f := .free "all") rfl), He.free_ok X G (c1.fact 104 (f := .free "any") rfl), He.free_ok X G (c1.fact 105 (f := .free "zip") rfl), He.free_ok X G (c1.fact 106 (f := .free "len") rfl), He.free_ok X G (c1.fact 107 (f := .free "sorted") rfl), He.free_ok X G (c1.fact 108 (f := .free "range") rfl), He.free_ok X G (c1.fact 109 (f := .free "list") rfl), He.free_ok X G (c1.fact 110 (f := .free "dict") rfl), He.free_ok X G (c1.fact 111 (f := .free "enumerate") rfl), He.free_ok X G (c1.fact 112 (f := .free "min") rfl), He.free_ok X G (c1.fact 113 (f := .free "max") rfl), He.free_ok X G (c1.fact 114 (f := .free "set") rfl)⟩
  have d_is_whole : Dn K mg "is_whole" (top 28) := by
    obtain ⟨fd, F⟩ := c1.def_ 0 (d := WkHead.dd "is_whole" 28) rfl
    exact ⟨_, fd, F, He.glo_ok X G (c1.fact 0 (f := .glo "is_whole") rfl)⟩
  have d_is_among : Dn K mg "is_among" (top 29) := by
    obtain ⟨fd, F⟩ := c1.def_ 1 (d := WkHead.dd "is_among" 29) rfl
    exact ⟨_, fd, F, He.glo_ok X G (c1.fact 1 (f := .glo "is_among") rfl)⟩
  have d_are_some : Dn K mg "are_some" (top 30) := by
    obtain ⟨fd, F⟩ := c1.def_ 2 (d := WkHead.dd "are_some" 30) rfl
    exact ⟨_, fd, F, He.glo_ok X G (c1.fact 2 (f := .glo "are_some") rfl)⟩
  have d_rises : Dn K mg "rises" (top 31) := by
    obtain ⟨fd, F⟩ := c1.def_ 3 (d := WkHead.dd "rises" 31) rfl
    exact ⟨_, fd, F, He.glo_ok X G (c1.fact 3 (f := .glo "rises") rfl)⟩
  have d_is_height : Dn K mg "is_height" (top 32) := by
    obtain ⟨fd, F⟩ := c1.def_ 4 (d := WkHead.dd "is_height" 32) rfl
    exact ⟨_, fd, F, He.glo_ok X G (c1.fact 4 (f := .glo "is_height") rfl)⟩
  have d_is_key_by : Dn K mg "is_key_by" (top 33) := by
    obtain ⟨fd, F⟩ := c1.def_ 5 (d := WkHead.dd "is_key_by" 33) rfl
    exact ⟨_, fd, F, He.glo_ok X G (c1.fact 5 (f := .glo "is_key_by") rfl)⟩
  have d_is_gap : Dn K mg "is_gap" (top 34) := by
    obtain ⟨fd, F⟩ := c1.def_ 6 (d := WkHead.dd "is_gap" 34) rfl
    exact ⟨_, fd, F, He.glo_ok X G (c1.fact 6 (f := .glo "is_gap") rfl)⟩
  have d_is_box_by : Dn K mg "is_box_by" (top 35) := by
    obtain ⟨fd, F⟩ := c1.def_ 7 (d := WkHead.dd "is_box_by" 35) rfl
    exact ⟨_, fd, F, He.glo_ok X G (c1.fact 7 (f := .glo "is_box_by") rfl)⟩
  have d_has_key : Dn K mg "has_key" (top 37) := by
    obtain ⟨fd, F⟩ := c1.def_ 8 (d := WkHead.dd "has_key" 37) rfl
    exact ⟨_, fd, F, He.glo_ok X G (c1.fact 8 (f := .glo "has_key") rfl)⟩
  have d_moved_end : Dn K mg "moved_end" (top 38) := by
    obtain ⟨fd, F⟩ := c1.def_ 9 (d := WkHead.dd "moved_end" 38) rfl
    exact ⟨_, fd, F, He.glo_ok X G (c1.fact 9 (f := .glo "moved_end") rfl)⟩
  have d_filled_from : Dn K mg "filled_from" (top 39) := by
    obtain ⟨fd, F⟩ := c1.def_ 10 (d := WkHead.dd "filled_from" 39) rfl
    exact ⟨_, fd, F, He.glo_ok X G (c1.fact 10 (f := .glo "filled_from") rfl)⟩
  have d_is_greatest : Dn K mg "is_greatest" (top 40) := by
    obtain ⟨fd, F⟩ := c1.def_ 11 (d := WkHead.dd "is_greatest" 40) rfl
    exact ⟨_, fd, F, He.glo_ok X G (c1.fact 11 (f := .glo "is_greatest") rfl)⟩
  have d_greatest_by : Dn K mg "greatest_by" (top 41) := by
    obtain ⟨fd, F⟩ := c1.def_ 12 (d := WkHead.dd "greatest_by" 41) rfl
    exact ⟨_, fd, F, He.glo_ok X G (c1.fact 12 (f := .glo "greatest_by") rfl)⟩
  have d_is_wear : Dn K mg "is_wear" (top 54) := by
    obtain ⟨fd, F⟩ := c1.def_ 13 (d := WkHead.dd "is_wear" 54) rfl
    exact ⟨_, fd, F, He.glo_ok X G (c1.fact 13 (f := .glo "is_wear") rfl)⟩
  have d_is_door : Dn K mg "is_door" (top 55) := by
    obtain ⟨fd, F⟩ := c1.def_ 14 (d := WkHead.dd "is_door" 55) rfl
    exact ⟨_, fd, F, He.glo_ok X G (c1.fact 14 (f := .glo "is_door") rfl)⟩
  have d_are_doors : Dn K mg "are_doors" (top 56) := by
    obtain ⟨fd, F⟩ := c1.def_ 15 (d := WkHead.dd "are_doors" 56) rfl
    exact ⟨_, fd, F, He.glo_ok X G (c1.fact 15 (f := .glo "are_doors") rfl)⟩
  have d_is_smith : Dn K mg "is_smith" (top 57) := by
    obtain ⟨fd, F⟩ := c1.def_ 16 (d := WkHead.dd "is_smith" 57) rfl
    exact ⟨_, fd, F, He.glo_ok X G (c1.fact 16 (f := .glo "is_smith") rfl)⟩
  have d_are_benches : Dn K mg "are_benches" (top 58) := by
    obtain ⟨fd, F⟩ := c1.def_ 17 (d := WkHead.dd "are_benches" 58) rfl
    exact ⟨_, fd, F, He.glo_ok X G (c1.fact 17 (f := .glo "are_benches") rfl)⟩
  have d_are_smiths : Dn K mg "are_smiths" (top 59) := by
    obtain ⟨fd, F⟩ := c1.def_ 18 (d := WkHead.dd "are_smiths" 59) rfl
    exact ⟨_, fd, F, He.glo_ok X G (c1.fact 18 (f := .glo "are_smiths") rfl)⟩
  have d_is_house : Dn K mg "is_house" (top 60) := by
    obtain ⟨fd, F⟩ := c1.def_ 19 (d := WkHead.dd "is_house" 60) rfl
    exact ⟨_, fd, F, He.glo_ok X G (c1.fact 19 (f := .glo "is_house") rfl)⟩
  have d_need_house : Dn K mg "need_house" (top 61) := by
    obtain ⟨fd, F⟩ := c1.def_ 20 (d := WkHead.dd "need_house" 61) rfl
    exact ⟨_, fd, F, He.glo_ok X G (c1.fact 20 (f := .glo "need_house") rfl)⟩
  have d_is_hall : Dn K mg "is_hall" (top 62) := by
    obtain ⟨fd, F⟩ := c1.def_ 21 (d := WkHead.dd "is_hall" 62) rfl
    exact ⟨_, fd, F, He.glo_ok X G (c1.fact 21 (f := .glo "is_hall") rfl)⟩
  have d_is_stand : Dn K mg "is_stand" (top 63) := by
    obtain ⟨fd, F⟩ := c1.def_ 22 (d := WkHead.dd "is_stand" 63) rfl
    exact ⟨_, fd, F, He.glo_ok X G (c1.fact 22 (f := .glo "is_stand") rfl)⟩
  have d_need_stand : Dn K mg "need_stand" (top 64) := by
    obtain ⟨fd, F⟩ := c1.def_ 23 (d := WkHead.dd "need_stand" 64) rfl
    exact ⟨_, fd, F, He.glo_ok X G (c1.fact 23 (f := .glo "need_stand") rfl)⟩
  have d_is_deed : Dn K mg "is_deed" (top 65) := by
    obtain ⟨fd, F⟩ := c1.def_ 24 (d := WkHead.dd "is_deed" 65) rfl
    exact ⟨_, fd, F, He.glo_ok X G (c1.fact 24 (f := .glo "is_deed") rfl)⟩
  have d_all_deeds : Dn K mg "all_deeds" (top 67) := by
    obtain ⟨fd, F⟩ := c1.def_ 25 (d := WkHead.dd "all_deeds" 67) rfl
    exact ⟨_, fd, F, He.glo_ok X G (c1.fact 25 (f := .glo "all_deeds") rfl)⟩
  have d_door_at : Dn K mg "door_at" (top 68) := by
    obtain ⟨fd, F⟩ := c1.def_ 26 (d := WkHead.dd "door_at" 68) rfl
    exact ⟨_, fd, F, He.glo_ok X G (c1.fact 26 (f := .glo "door_at") rfl)⟩
  have d_smith_at : Dn K mg "smith_at" (top 69) := by
    obtain ⟨fd, F⟩ := c1.def_ 27 (d := WkHead.dd "smith_at" 69) rfl
    exact ⟨_, fd, F, He.glo_ok X G (c1.fact 27 (f := .glo "smith_at") rfl)⟩
  have d_is_away : Dn K mg "is_away" (top 70) := by
    obtain ⟨fd, F⟩ := c1.def_ 28 (d := WkHead.dd "is_away" 70) rfl
    exact ⟨_, fd, F, He.glo_ok X G (c1.fact 28 (f := .glo "is_away") rfl)⟩
  have d_hall_behind : Dn K mg "hall_behind" (top 71) := by
    obtain ⟨fd, F⟩ := c1.def_ 29 (d := WkHead.dd "hall_behind" 71) rfl
    exact ⟨_, fd, F, He.glo_ok X G (c1.fact 29 (f := .glo "hall_behind") rfl)⟩
  have d_wear_of : Dn K mg "wear_of" (top 72) := by
    obtain ⟨fd, F⟩ := c1.def_ 30 (d := WkHead.dd "wear_of" 72) rfl
    exact ⟨_, fd, F, He.glo_ok X G (c1.fact 30 (f := .glo "wear_of") rfl)⟩
  have d_gap_of : Dn K mg "gap_of" (top 73) := by
    obtain ⟨fd, F⟩ := c1.def_ 31 (d := WkHead.dd "gap_of" 73) rfl
    exact ⟨_, fd, F, He.glo_ok X G (c1.fact 31 (f := .glo "gap_of") rfl)⟩
  have d_bar_of : Dn K mg "bar_of" (top 74) := by
    obtain ⟨fd, F⟩ := c1.def_ 32 (d := WkHead.dd "bar_of" 74) rfl
    exact ⟨_, fd, F, He.glo_ok X G (c1.fact 32 (f := .glo "bar_of") rfl)⟩
  have d_done_by : Dn K mg "done_by" (top 75) := by
    obtain ⟨fd, F⟩ := c1.def_ 33 (d := WkHead.dd "done_by" 75) rfl
    exact ⟨_, fd, F, He.glo_ok X G (c1.fact 33 (f := .glo "done_by") rfl)⟩
  have d_need_row : Dn K mg "need_row" (top 77) := by
    obtain ⟨fd, F⟩ := c1.def_ 34 (d := WkHead.dd "need_row" 77) rfl
    exact ⟨_, fd, F, He.glo_ok X G (c1.fact 34 (f := .glo "need_row") rfl)⟩
  have d_bar_at : Dn K mg "bar_at" (top 78) := by
    obtain ⟨fd, F⟩ := c1.def_ 35 (d := WkHead.dd "bar_at" 78) rfl
    exact ⟨_, fd, F, He.glo_ok X G (c1.fact 35 (f := .glo "bar_at") rfl)⟩
  have d_behind_by : Dn K mg "behind_by" (top 79) := by
    obtain ⟨fd, F⟩ := c1.def_ 36 (d := WkHead.dd "behind_by" 79) rfl
    exact ⟨_, fd, F, He.glo_ok X G (c1.fact 36 (f := .glo "behind_by") rfl)⟩
  have d_coins_by : Dn K mg "coins_by" (top 80) := by
    obtain ⟨fd, F⟩ := c1.def_ 37 (d := WkHead.dd "coins_by" 80) rfl
    exact ⟨_, fd, F, He.glo_ok X G (c1.fact 37 (f := .glo "coins_by") rfl)⟩
  have d_is_goal : Dn K mg "is_goal" (top 84) := by
    obtain ⟨fd, F⟩ := c1.def_ 38 (d := WkHead.dd "is_goal" 84) rfl
    exact ⟨_, fd, F, He.glo_ok X G (c1.fact 38 (f := .glo "is_goal") rfl)⟩
  have d_need_goal : Dn K mg "need_goal" (top 85) := by
    obtain ⟨fd, F⟩ := c1.def_ 39 (d := WkHead.dd "need_goal" 85) rfl
    exact ⟨_, fd, F, He.glo_ok X G (c1.fact 39 (f := .glo "need_goal") rfl)⟩
  have d_need_wish : Dn K mg "need_wish" (top 86) := by
    obtain ⟨fd, F⟩ := c1.def_ 40 (d := WkHead.dd "need_wish" 86) rfl
    exact ⟨_, fd, F, He.glo_ok X G (c1.fact 40 (f := .glo "need_wish") rfl)⟩
  have d_is_there : Dn K mg "is_there" (top 87) := by
    obtain ⟨fd, F⟩ := c1.def_ 41 (d := WkHead.dd "is_there" 87) rfl
    exact ⟨_, fd, F, He.glo_ok X G (c1.fact 41 (f := .glo "is_there") rfl)⟩
  have d_next_ones : Dn K mg "next_ones" (top 88) := by
    obtain ⟨fd, F⟩ := c1.def_ 42 (d := WkHead.dd "next_ones" 88) rfl
    exact ⟨_, fd, F, He.glo_ok X G (c1.fact 42 (f := .glo "next_ones") rfl)⟩
  have d_spread_from : Dn K mg "spread_from" (top 89) := by
    obtain ⟨fd, F⟩ := c1.def_ 43 (d := WkHead.dd "spread_from" 89) rfl
    exact ⟨_, fd, F, He.glo_ok X G (c1.fact 43 (f := .glo "spread_from") rfl)⟩
  have d_spread : Dn K mg "spread" (top 90) := by
    obtain ⟨fd, F⟩ := c1.def_ 44 (d := WkHead.dd "spread" 90) rfl
    exact ⟨_, fd, F, He.glo_ok X G (c1.fact 44 (f := .glo "spread") rfl)⟩
  have d_row_to : Dn K mg "row_to" (top 91) := by
    obtain ⟨fd, F⟩ := c1.def_ 45 (d := WkHead.dd "row_to" 91) rfl
    exact ⟨_, fd, F, He.glo_ok X G (c1.fact 45 (f := .glo "row_to") rfl)⟩
  have d_lot_of : Dn K mg "lot_of" (top 92) := by
    obtain ⟨fd, F⟩ := c1.def_ 46 (d := WkHead.dd "lot_of" 92) rfl
    exact ⟨_, fd, F, He.glo_ok X G (c1.fact 46 (f := .glo "lot_of") rfl)⟩
  have d_way : Dn K mg "way" (top 93) := by
    obtain ⟨fd, F⟩ := c1.def_ 47 (d := WkHead.dd "way" 93) rfl
    exact ⟨_, fd, F, He.glo_ok X G (c1.fact 47 (f := .glo "way") rfl)⟩
  have d_price_of : Dn K mg "price_of" (top 94) := by
    obtain ⟨fd, F⟩ := c1.def_ 48 (d := WkHead.dd "price_of" 94) rfl
    exact ⟨_, fd, F, He.glo_ok X G (c1.fact 48 (f := .glo "price_of") rfl)⟩
  have d_least_coins : Dn K mg "least_coins" (top 95) := by
    obtain ⟨fd, F⟩ := c1.def_ 49 (d := WkHead.dd "least_coins" 95) rfl
    exact ⟨_, fd, F, He.glo_ok X G (c1.fact 49 (f := .glo "least_coins") rfl)⟩
  have d_law_cell_at : Dn K mg "_law_cell_at" (top 99) := by
    obtain ⟨fd, F⟩ := c1.def_ 50 (d := WkHead.dd "_law_cell_at" 99) rfl
    exact ⟨_, fd, F, He.glo_ok X G (c1.fact 50 (f := .glo "_law_cell_at") rfl)⟩
  have d_law_pen : Dn K mg "_law_pen" (top 100) := by
    obtain ⟨fd, F⟩ := c1.def_ 51 (d := WkHead.dd "_law_pen" 100) rfl
    exact ⟨_, fd, F, He.glo_ok X G (c1.fact 51 (f := .glo "_law_pen") rfl)⟩
  have d_law_draw : Dn K mg "_law_draw" (top 101) := by
    obtain ⟨fd, F⟩ := c1.def_ 52 (d := WkHead.dd "_law_draw" 101) rfl
    exact ⟨_, fd, F, He.glo_ok X G (c1.fact 52 (f := .glo "_law_draw") rfl)⟩
  have d_law_pick : Dn K mg "_law_pick" (top 102) := by
    obtain ⟨fd, F⟩ := c1.def_ 53 (d := WkHead.dd "_law_pick" 102) rfl
    exact ⟨_, fd, F, He.glo_ok X G (c1.fact 53 (f := .glo "_law_pick") rfl)⟩
  have d_law_key : Dn K mg "_law_key" (top 106) := by
    obtain ⟨fd, F⟩ := c1.def_ 55 (d := WkHead.dd "_law_key" 106) rfl
    exact ⟨_, fd, F, He.glo_ok X G (c1.fact 55 (f := .glo "_law_key") rfl)⟩
  have d_law_box : Dn K mg "_law_box" (top 107) := by
    obtain ⟨fd, F⟩ := c1.def_ 56 (d := WkHead.dd "_law_box" 107) rfl
    exact ⟨_, fd, F, He.glo_ok X G (c1.fact 56 (f := .glo "_law_box") rfl)⟩
  have d_law_house : Dn K mg "_law_house" (top 108) := by
    obtain ⟨fd, F⟩ := c1.def_ 57 (d := WkHead.dd "_law_house" 108) rfl
    exact ⟨_, fd, F, He.glo_ok X G (c1.fact 57 (f := .glo "_law_house") rfl)⟩
  have d_law_stand : Dn K mg "_law_stand" (top 109) := by
    obtain ⟨fd, F⟩ := c1.def_ 58 (d := WkHead.dd "_law_stand" 109) rfl
    exact ⟨_, fd, F, He.glo_ok X G (c1.fact 58 (f := .glo "_law_stand") rfl)⟩
  have d_law_deeds : Dn K mg "_law_deeds" (top 110) := by
    obtain ⟨fd, F⟩ := c1.def_ 59 (d := WkHead.dd "_law_deeds" 110) rfl
    exact ⟨_, fd, F, He.glo_ok X G (c1.fact 59 (f := .glo "_law_deeds") rfl)⟩
  have d_law_door : Dn K mg "_law_door" (top 111) := by
    obtain ⟨fd, F⟩ := c1.def_ 60 (d := WkHead.dd "_law_door" 111) rfl
    exact ⟨_, fd, F, He.glo_ok X G (c1.fact 60 (f := .glo "_law_door") rfl)⟩
  have d_law_behind : Dn K mg "_law_behind" (top 112) := by
    obtain ⟨fd, F⟩ := c1.def_ 61 (d := WkHead.dd "_law_behind" 112) rfl
    exact ⟨_, fd, F, He.glo_ok X G (c1.fact 61 (f := .glo "_law_behind") rfl)⟩
  have d_law_may : Dn K mg "_law_may" (top 113) := by
    obtain ⟨fd, F⟩ := c1.def_ 62 (d := WkHead.dd "_law_may" 113) rfl
    exact ⟨_, fd, F, He.glo_ok X G (c1.fact 62 (f := .glo "_law_may") rfl)⟩
  have d_law_row : Dn K mg "_law_row" (top 114) := by
    obtain ⟨fd, F⟩ := c1.def_ 63 (d := WkHead.dd "_law_row" 114) rfl
    exact ⟨_, fd, F, He.glo_ok X G (c1.fact 63 (f := .glo "_law_row") rfl)⟩
  have d_law_free : Dn K mg "_law_free" (top 115) := by
    obtain ⟨fd, F⟩ := c1.def_ 64 (d := WkHead.dd "_law_free" 115) rfl
    exact ⟨_, fd, F, He.glo_ok X G (c1.fact 64 (f := .glo "_law_free") rfl)⟩
  have d_law_wider_box : Dn K mg "_law_wider_box" (top 116) := by
    obtain ⟨fd, F⟩ := c1.def_ 65 (d := WkHead.dd "_law_wider_box" 116) rfl
    exact ⟨_, fd, F, He.glo_ok X G (c1.fact 65 (f := .glo "_law_wider_box") rfl)⟩
  have d_law_wider : Dn K mg "_law_wider" (top 117) := by
    obtain ⟨fd, F⟩ := c1.def_ 66 (d := WkHead.dd "_law_wider" 117) rfl
    exact ⟨_, fd, F, He.glo_ok X G (c1.fact 66 (f := .glo "_law_wider") rfl)⟩
  have d_law_goal_right : Dn K mg "_law_goal_right" (top 118) := by
    obtain ⟨fd, F⟩ := c1.def_ 67 (d := WkHead.dd "_law_goal_right" 118) rfl
    exact ⟨_, fd, F, He.glo_ok X G (c1.fact 67 (f := .glo "_law_goal_right") rfl)⟩
  have d_law_said : Dn K mg "_law_said" (top 105) := by
    obtain ⟨fd, F⟩ := c1.def_ 54 (d := WkHead.dd "_law_said" 105) rfl
    exact ⟨_, fd, F, He.glo_ok X G (c1.fact 54 (f := .glo "_law_said") rfl)⟩
  have TW : WkT K mg (He.ga K "Walker") := by
    obtain ⟨fd, F⟩ := c1.def_ 69 (d := WkHead.dm "__init__" 0) rfl
    have e : ("Walker." : Str) ++ "__init__" = "Walker.__init__" := by decide
    refine ⟨He.cls_ok (c1.fact 71 (f := .cls "Walker") rfl), He.noat_ok (c1.fact 73 (f := .noat "Walker" "house") rfl), He.noat_ok (c1.fact 74 (f := .noat "Walker" "begin") rfl), He.noat_ok (c1.fact 75 (f := .noat "Walker" "here") rfl), He.noat_ok (c1.fact 76 (f := .noat "Walker" "kept") rfl), He.noat_ok (c1.fact 77 (f := .noat "Walker" "past") rfl), He.glo_ok X G (c1.fact 69 (f := .glo "Walker") rfl), _, fd, ?_, He.mkr_ok (c1.fact 72 (f := .mkr "Walker") rfl)⟩
    rw [← e]
    exact F
  have m_turn : DnM K (He.ga K "Walker") "turn" "Walker.turn" (mtd 1) := by
    obtain ⟨fd, F⟩ := c1.def_ 70 (d := WkHead.dm "turn" 1) rfl
    have e : ("Walker." : Str) ++ "turn" = "Walker.turn" := by decide
    refine ⟨_, fd, ?_, He.meth_ok (c1.fact 78 (f := .meth "Walker" "turn") rfl)⟩
    rw [← e]
    exact F
  have m_play : DnM K (He.ga K "Walker") "play" "Walker.play" (mtd 6) := by
    obtain ⟨fd, F⟩ := c1.def_ 71 (d := WkHead.dm "play" 6) rfl
    have e : ("Walker." : Str) ++ "play" = "Walker.play" := by decide
    refine ⟨_, fd, ?_, He.meth_ok (c1.fact 79 (f := .meth "Walker" "play") rfl)⟩
    rw [← e]
    exact F
  have m_stand : DnM K (He.ga K "Walker") "stand" "Walker.stand" (mtd 8) := by
    obtain ⟨fd, F⟩ := c1.def_ 72 (d := WkHead.dm "stand" 8) rfl
    have e : ("Walker." : Str) ++ "stand" = "Walker.stand" := by decide
    refine ⟨_, fd, ?_, He.meth_ok (c1.fact 80 (f := .meth "Walker" "stand") rfl)⟩
    rw [← e]
    exact F
  have m_coins : DnM K (He.ga K "Walker") "coins" "Walker.coins" (mtd 10) := by
    obtain ⟨fd, F⟩ := c1.def_ 73 (d := WkHead.dm "coins" 10) rfl
    have e : ("Walker." : Str) ++ "coins" = "Walker.coins" := by decide
    refine ⟨_, fd, ?_, He.meth_ok (c1.fact 81 (f := .meth "Walker" "coins") rfl)⟩
    rw [← e]
    exact F
  have m_may : DnM K (He.ga K "Walker") "may" "Walker.may" (mtd 11) := by
    obtain ⟨fd, F⟩ := c1.def_ 74 (d := WkHead.dm "may" 11) rfl
    have e : ("Walker." : Str) ++ "may" = "Walker.may" := by decide
    refine ⟨_, fd, ?_, He.meth_ok (c1.fact 82 (f := .meth "Walker" "may") rfl)⟩
    rw [← e]
    exact F
  obtain ⟨fd, FL⟩ := c1.def_ 68 (d := WkHead.dd "law" 119) rfl
  have e := hfa.symm.trans (He.glo_ok X G (c1.fact 68 (f := .glo "law") rfl))
  cases e
  have b := FunD.bindsA (ps := ["_law_script"]) FL fun _ _ _ _ _ _ us hl => match us, hl with | [_], _ => rfl
  obtain ⟨oc, od, dV, kV, doc, pm, an, cdv, ct, osl, rfl, lk, hcd, _, _⟩ := FL.ex
  obtain ⟨c0, rfl⟩ := He.codeIn_ref hcd
  have ec : (He.cT K ("law", none)).1 = c0 := He.codeOf_eq lk rfl
  have hm : (("law", none) : He.Defn) ∈ WkHead.tf := List.mem_singleton.mpr rfl
  refine ⟨_, [He.cT K ("law", none)], sp_law K (He.cT K ("law", none)).2, ?_, ?_, ?_, fun s v => b s [v] rfl, ?_, ?_⟩
  · intro p hp
    rw [List.mem_singleton.mp hp]
    exact c.empty _ hm
  · intro p hp
    rw [List.mem_singleton.mp hp]
    exact c.out _ hm
  · intro p hp
    rw [List.mem_singleton.mp hp]
    exact PySem.W.codeHd_of_K X (c.hd _ hm)
  · intro H a ns hl _ hT hS
    exact ⟨a, ns, rfl, hS, hl, hT _ (List.mem_singleton.mpr rfl), fun _ => rfl⟩
  · intro base hB gB TB
    have TB1 := TB _ (List.mem_singleton.mpr rfl)
    rw [ec] at TB1
    exact chain lk hcd TB1 M TW (He.glo_ok X G (c1.fact 70 (f := .glo "WearError") rfl)) d_law_said m_stand m_coins m_turn m_play m_may d_is_whole d_is_among d_are_some d_rises d_is_height d_is_key_by d_is_gap d_is_box_by d_has_key d_moved_end d_filled_from d_is_greatest d_greatest_by d_is_wear d_is_door d_are_doors d_is_smith d_are_benches d_are_smiths d_is_house d_need_house d_is_hall d_is_stand d_need_stand d_is_deed d_all_deeds d_door_at d_smith_at d_is_away d_hall_behind d_wear_of d_gap_of d_bar_of d_done_by d_need_row d_bar_at d_behind_by d_coins_by d_is_goal d_need_goal d_need_wish d_is_there d_next_ones d_spread_from d_spread d_row_to d_lot_of d_way d_price_of d_least_coins d_law_cell_at d_law_pen d_law_draw d_law_pick d_law_key d_law_box d_law_house d_law_stand d_law_deeds d_law_door d_law_behind d_law_may d_law_row d_law_free d_law_wider_box d_law_wider d_law_goal_right
end Wk
open PySem PySem.W PySem.Calls PyProof.Rows
set_option maxHeartbeats 8000000 in
theorem PySem.Challenge.cw_wearkeys_k75_whole_wider_houses_holds : PySem.Challenge.rw_wearkeys_k75_whole_wider_houses.Holds := by
  w_on; o_law
  refine HandSHeadRun.head_any (r := OpenLaw.row PySem.Challenge.rw_wearkeys_k75_whole_wider_houses) (q := view (OpenLaw.row PySem.Challenge.rw_wearkeys_k75_whole_wider_houses).prog [119]) (H := WkHead.hk) (ob := WkHead.ob) (M := 9000) (loose := WkHead.names) (d := HandSHeadRun.topDef (OpenLaw.row PySem.Challenge.rw_wearkeys_k75_whole_wider_houses).prog 119) (kwd := []) WkHead.ob_eq
    (by kernel_rfl) (fun s => by kernel_rfl) WkHead.run (by kernel_rfl) (by kernel_rfl) (by kernel_rfl) (by rfl) (by first | assumption | decide +kernel) (by decide +kernel) ⟨rfl, rfl, rfl, rfl, rfl, by decide +kernel⟩ ?hw ?hc
  case hw => w_witness2
  case hc =>
    refine LamX.walk_ofTsE (l := PySem.Challenge.rw_wearkeys_k75_whole_wider_houses) (n := 63) (k := 14) (x := "_law_script") (CX := fun _ => L2.CX0) rfl (by decide) (by kernel_rfl) ⟨rfl, by decide, by decide⟩ ?F (fun _ _ _ _ _ z => z)
    intro w mg fa h Y G hmg0
    obtain ⟨K, KX, c⟩ := Y
    have hmg : mg ("law" : PySem.Str) = some (.ref fa) := by
      have e : (HandSHeadRun.topDef (OpenLaw.row PySem.Challenge.rw_wearkeys_k75_whole_wider_houses).prog 119).name = ("law" : PySem.Str) := by kernel_rfl
      rw [← e]
      exact hmg0
    exact ⟨K, KX, Wk.facts (P := (PySem.Challenge.rw_wearkeys_k75_whole_wider_houses).prog) (w := w) KX G hmg c⟩
